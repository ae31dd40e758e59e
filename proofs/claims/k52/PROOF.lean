import PyProof.Rows.All
import Wide.All
import OpenK.AllK
import Wide.FinOn
import HandS.ForMost
import HandS.Deep
import HandS.Wide
import HandS.Gcd
import HandS.Flow
import HandS.TupMul
import HandS.TupAny
import HandS.TupLe
import HandS.Conv
import PyProof.ReprNest
import HandS.IsInst
import PyProof.ReprRoads
import HandS.Style
import KE.SortData
import PyProof.TupleOfSeq
import PyProof.Rows.SortWalk
import HandS.ExcValue
import HandS.Iter
import KE.GoesZip
import KE.GoesMore
import KE.GoesEnum
import KE.GoesEnumKw
import PyProof.ReprLen
import PyProof.Rows.RegStrFacts
import PySem.Challenge.RW_pinchedround_k52_whole_least_rules
set_option Elab.async false
set_option linter.all false
set_option maxRecDepth 100000
set_option maxHeartbeats 1000000
/-! # Dv: a plain evaluator over data, shown over the hand layer once. Part 1: defs that run where no repr is under way (guards known). -/
namespace Dv
open PySem PySem.Spec PyProof.Rows L2

/-- a def's promise where nothing is being written out (no guards are up) -/
structure FG (P : Program) (w : World) (K : PySem.W.Frag) (mg : Str → Option Value) (base : Heap) (CX : CXT) (k : Nat) (f : Addr) (fd : FuncData) (ps : List Str) (sp : Sp) : Prop where
  len : ∀ vs H Q E, sp vs H Q E → vs.length = ps.length
  run : ∀ (A : Around) (out : List Env) (s : Shared) (H : Hp) (args : Args) (us : List Value) (vs : List V) (Q : VK) (E : XK),
    Room k A → A.guards = some [] → Env0 P w K mg base A out s H →
    BindsTo s fd args (ps.zip us) → Vals vs us → sp vs H Q E →
    codeAny (model P w) A (.call (.ref f) args) (CR CX out P w H s Q E) s

section
variable {P : Program} {w : World} {K : PySem.W.Frag} {mg : Str → Option Value} {base : Heap} {CX : CXT} {k : Nat} {f : Addr} {fd : FuncData} {ps N : List Str} {sp : Sp}
theorem FG.mono {j : Nat} (F : FG P w K mg base CX j f fd ps sp) (h : j ≤ k) : FG P w K mg base CX k f fd ps sp :=
  ⟨F.len, fun A o s H ar us vs Q E hr => F.run A o s H ar us vs Q E (hr.mono h)⟩
theorem FG.imp {sp' : Sp} (F : FG P w K mg base CX k f fd ps sp) (h : ∀ vs H Q E, sp' vs H Q E → sp vs H Q E) : FG P w K mg base CX k f fd ps sp' :=
  ⟨fun vs H Q E q => F.len vs H Q E (h _ _ _ _ q),
   fun A o s H ar us vs Q E hr hg e0 hb hv q => F.run A o s H ar us vs Q E hr hg e0 hb hv (h _ _ _ _ q)⟩

/-- a def by its body -/
theorem FG.of {x qual : Str} {st : Stmt} (F : Fun K x qual st f fd) (S : FnScope N ps (defScope st)) (len : ∀ vs H Q E, sp vs H Q E → vs.length = ps.length)
    (body : ∀ (cdv : Value) (A : Around) (out : List Env) (s : Shared) (H : Hp) (vs : List V) (Q : VK) (E : XK),
      Room k (A.deeper (envOfC qual (defScope st) s.heap.objs.size f cdv)) → A.guards = some [] → sp vs H Q E →
      ∃ t, PSs (cxOf CX P w K mg base N qual (defScope st) f cdv A out s H E) (defBody st) t ∧
        t { nx := fun _ H' => Q .non H', rt := Q } (start N vs) H) :
    FG P w K mg base CX (k + 1) f fd ps sp := by
  obtain ⟨oc, od, kV, doc, pm, an, cdv, ct, osl, rfl, lk, hcd⟩ := F.ex
  refine ⟨len, fun A out s H args us vs Q E hr hgd e0 hb rv hsp => ?_⟩
  have hin : K.In s.heap := e0.mod.kin.keeps fun b o e => (e0.bs b o e).1
  have hlm : s.heap.NoLimit := e0.mod.nolimit.keeps fun b o e => (e0.bs b o e).1
  have hln := len _ _ _ _ hsp
  have hkd : ∀ y ∈ ps.zip us, (defScope st).names.lookup y.1 = some .local ∨
      ((defScope st).names.lookup y.1 = some .cell ∧ ((cellsFrom (s.heap.objs.size + 1) (defScope st).names []).lookup y.1).isSome = true) := by
    intro y hy
    rcases S.par y.1 (List.of_mem_zip (a := y.1) (b := y.2) hy).1 with q | q
    · exact Or.inl q
    · exact Or.inr ⟨q, PySem.W.cellsFrom_some _ _ _ (Or.inl q)⟩
  refine codeAny_call_function hr.depth (hin _ _ lk) rfl S.co S.gen rfl (PySem.W.codeRec_of hin hcd) (hb _ _ _ _ ?_)
  refine wpAny_newFunctionEnv_cells S.kind hkd fun env henv s1 ic => ?_
  subst henv
  refine ⟨hlm.keeps ic.toInCall.keep, codeAny_func ?_⟩
  obtain ⟨t, ht, hq⟩ := body cdv A out s H vs Q E (hr.deeper _) hgd hsp
  have I0 := inv_start (CX := CX) (N := N) (E := E) (outer := out) S hr.hd e0 hln rv ic
  refine wpAny_mono (ht.run [] s1 (start N vs) H _ I0 hq) (fun fl s' hs => ?_) fun e s' hs => hs
  cases fl with
  | ret u =>
    obtain ⟨v, σ', H', J, r', q⟩ := hs
    exact ⟨v, H', J.os, J.bare, J.base, J.hok, r', q⟩
  | next =>
    obtain ⟨σ', H', J, q⟩ := hs
    exact ⟨V.non, H', J.os, J.bare, J.base, J.hok, rfl, q⟩
  | brk => obtain ⟨_, _, _, q⟩ := hs; exact q.elim
  | cont => obtain ⟨_, _, _, q⟩ := hs; exact q.elim
end

section
variable {X : Cx} {CX : CXT} {k : Nat} {f : Addr} {fd : FuncData} {ps : List Str} {sp : Sp} {E : XK} {x : Str} {p pos : Pos} {e : Expr} {es : List Expr} {t : TA}
theorem run_fg {pins : List (Addr × Obj)} {σ : L2.St} {H : Hp} {s : Shared} {Q : VK} {us : List Value} {vs : List V} (F : FG X.prog X.w X.K X.mg X.base CX k f fd ps sp) (hr : Room k X.A) (hg : X.A.guards = some []) (hb : Binds X.K fd ps []) (hx : Passes CX X E)
    (I : Inv X pins σ H s) (r : Vals vs us) (h : sp vs H Q E) : wpAny (model X.prog X.w) X.A (call (.ref f) us) (EP X pins σ Q) X.xe s := by
  have hl : us.length = ps.length := by rw [← r.length]; exact F.len _ _ _ _ h
  have hb' := hb s us I.kIn (by simpa using hl)
  rw [List.append_nil] at hb'
  refine wpAny_call (codeAny_mono (F.run X.A X.stack s H ⟨us, []⟩ us vs Q E hr hg I.env0 hb' r h) fun r s' hq => ?_)
  match r, hq with
  | .error e, hq => exact hx pins σ H s e s' I hq
  | .ok (.ret u), hq => exact I.after hq
/-- f(a, ..) -/
theorem pe_fg (F : FG X.prog X.w X.K X.mg X.base CX k f fd ps sp) (hr : Room k X.A) (hgd : X.A.guards = some []) (hg : Gl X x) (hm : X.mg x = some (.ref f)) (hk : PySem.W.keepIn X.K (.ref f) = true) (hb : Binds X.K fd ps []) (hx : Passes CX X E)
    (ha : PA X (e :: es) t) (hdb : (x == ("__debug__" : Str)) = false) (he : starEach (e :: es) X.env = (false, eval e X.env) :: starEach es X.env) (hpl : (backTo pos (starEach es X.env)).any (·.1) = false) :
    PE X (.Call (.Name x p) (e :: es) [] pos) (fun σ H Q => t σ H fun vs H1 => sp vs H1 Q E) := by
  refine ⟨fun pins s σ H Q I h => ?_⟩
  refine wpAny_Call_Name_kw (ld_glob I hg hm ?_ hdb)
  refine PySem.W.callWith_K (h₀ := X.base) I.ok.mod.kin hk (thn (ha.run pos pins s σ H _ I h) fun us s1 hh => ?_) he hpl
  obtain ⟨vs, H1, I1, r, q⟩ := hh
  exact ⟨I1.kIn, run_fg F hr hgd hb hx I1 r q⟩
/-- f() -/
theorem pe_fg0 (F : FG X.prog X.w X.K X.mg X.base CX k f fd ps sp) (hr : Room k X.A) (hgd : X.A.guards = some []) (hg : Gl X x) (hm : X.mg x = some (.ref f)) (hk : PySem.W.keepIn X.K (.ref f) = true) (hb : Binds X.K fd ps []) (hx : Passes CX X E)
    (hdb : (x == ("__debug__" : Str)) = false) : PE X (.Call (.Name x p) [] [] pos) (fun σ H Q => sp [] H Q E) := by
  refine ⟨fun pins s σ H Q I h => ?_⟩
  refine wpAny_Call_Name_kw (ld_glob I hg hm ?_ hdb)
  exact PySem.W.callWith_K0 I.kIn hk (run_fg (us := []) F hr hgd hb hx I .nil h)
end

/-! ### the law's own head -/
section
open PySem.W PySem.Calls
theorem law_head {P : Program} {w : World} {K : PySem.W.Frag} {mg mb : Str → Option Value} {CX : CXT} {k : Nat} {fa a : Addr} {fd : FuncData} {x : Str} {sp : Sp} {s1 : Shared} {vs : List Value} {ns : List Int}
    (KX : K.In s1.heap) (hns : s1.heap.Ns mainGlobals mg) (hb : s1.heap.Ns builtinsNs mb) (hbb : ∀ x : Str, x ≠ "__name__" → mb x = bootBuiltins x) (hlim : s1.heap.NoLimit) (hg : s1.gens = #[])
    (ha : s1.heap.get? a = some { cls := .type "list", data := .seq vs.toArray }) (hi : IntsAre vs ns) (hl : ns.length ≤ sizeLine) (hr : Room k callerA)
    (F : ∀ base : Heap, K.In base → base.Ns mainGlobals mg → FG P w K mg base CX k fa fd [x] sp) (hbind : ∀ (s : Shared) (u : Value), BindsTo s fd ⟨[u], []⟩ [(x, u)])
    (hsp : ∀ H : Hp, L2.Only H → SqL K H a (ns.map V.int) → sp [.ref a] H (fun v _ => v = .bl true) fun _ _ _ => False)
    (hCX : ∀ H e s', CX [] H s1 (fun _ _ _ => False) e s' → False) :
    codeAny (model P w) callerA (.call (.ref fa) ⟨[.ref a], []⟩) (fun r s' => r = .ok (.ret (.bool true)) ∧ OldK s1.heap s'.heap ∧ s'.os = s1.os ∧ AllBare s'.gens) s1 := by
  have rv := vals_ints hi
  have lenV := hi.length
  have core : ∀ H : Hp, L2.Only H → SqL K H a (ns.map V.int) → HOk P w H s1.heap → (∀ b, H b ≠ none → b = a ∧ K.lookup a = none) →
      codeAny (model P w) callerA (.call (.ref fa) ⟨[.ref a], []⟩) (fun r s' => r = .ok (.ret (.bool true)) ∧ OldK s1.heap s'.heap ∧ s'.os = s1.os ∧ AllBare s'.gens) s1 := by
    intro H hO hS hok hA
    have noA : ∀ {b : Addr} {o : Obj} {es : Array DictEntry} {ep : Nat}, s1.heap.get? b = some o → o.data = .dict es ep → H b = none := by
      intro b o es ep e d
      apply Classical.byContradiction
      intro q
      have e' := (hA b q).1
      rw [e', ha] at e
      have e2 := Option.some.inj e
      rw [← e2] at d
      cases d
    have nsK : ∀ {b : Addr} {m : Str → Option Value}, s1.heap.Ns b m → (hidT s1.heap H).Ns b m := by
      rintro b m ⟨o, es, ep, e, d, r⟩
      exact ⟨o, es, ep, hidT_get e (noA e d), d, r⟩
    have hKb : K.In (hidT s1.heap H) := by
      intro b o e
      refine hidT_get (KX b o e) ?_
      apply Classical.byContradiction
      intro q
      obtain ⟨e1, e2⟩ := hA b q
      rw [e1, e2] at e
      cases e
    have hM : Mod K mg (hidT s1.heap H) := ⟨hKb, nsK hns, ⟨mb, nsK hb, hbb⟩, let ⟨mc, h1, h2⟩ := hlim; ⟨mc, nsK h1, h2⟩⟩
    have e0 : Env0 P w K mg (hidT s1.heap H) callerA [] s1 H := ⟨rfl, hM, fun b o e => of_hidT e, Nat.le_of_eq (hidT_size _ _), trivial, fun b hb => (by cases hb), hok, .of_eq hg⟩
    have run := (F _ hKb (nsK hns)).run callerA [] s1 H ⟨[.ref a], []⟩ [.ref a] [.ref a] _ _ hr rfl e0 (hbind s1 (.ref a)) (.cons rfl .nil) (hsp H hO hS)
    refine codeAny_mono run fun r s' h => ?_
    match r, h with
    | .error e, h => exact (hCX H e s' h).elim
    | .ok (.ret u), h =>
      obtain ⟨v, H', os, bare, un, hok', r', q⟩ := h
      have qv : v = .bl true := q
      rw [qv] at r'
      have qu : u = Value.bool true := r'
      rw [qu]
      refine ⟨rfl, OldK.of_keep fun b o e => ?_, os, bare⟩
      cases q : H b with
      | none => exact un.keep b o e q (fun z => by cases z) (by simp)
      | some u =>
        rcases hO b with z | ⟨ob, xs, z⟩
        · rw [q] at z; cases z
        · obtain ⟨e1, _⟩ := hok b _ z
          obtain ⟨e2, _⟩ := hok' b _ (un.frzs b ob _ z)
          rw [e] at e1
          rw [e2, ← e1]
  cases hk : K.lookup a with
  | some o =>
    have e := KX a o hk
    rw [ha] at e
    have e2 := Option.some.inj e
    rw [← e2] at hk
    exact core (fun _ => none) (fun _ => .inl rfl) (.inr ⟨_, vs.toArray, _, hk, rfl, rfl, rfl, (by rw [List.size_toArray, lenV]; exact hl), (by simpa using rv)⟩) (fun b u z => by cases z) fun b z => absurd rfl z
  | none =>
    let ob : Obj := { cls := .type "list", data := .seq vs.toArray }
    refine core (fun b => if b = a then some (.frz ob (.lst (ns.map V.int))) else none) (fun b => ?_) (.inl (.inr ⟨ob, if_pos rfl⟩)) (fun b u z => ?_) fun b z => ?_
    · by_cases hb : b = a
      · exact .inr ⟨_, _, if_pos hb⟩
      · exact .inl (if_neg hb)
    · by_cases hb : b = a
      · have z' := (if_pos hb).symm.trans z
        have z2 := Option.some.inj z'
        subst hb
        rw [← z2]
        exact ⟨ha, by rw [List.length_map]; exact hl, vs, _, rv, ha⟩
      · have z' := (if_neg hb).symm.trans z
        cases z'
    · by_cases hb : b = a
      · exact ⟨hb, hk⟩
      · exact absurd (if_neg hb) z
theorem walk_g {l : PySem.W.OpenLaw} {n k : Nat} {q : Program} {loose : List Str} {XP : (Str → Option Value) → Heap → Prop} {YP : World → Heap → Prop} {d : DefRec} {K : Params → PySem.W.Frag} {CX : World → CXT} {sp : World → Sp} {x : Str}
    (hn : l.most = some n) (hn2 : n ≤ sizeLine) (hdf : d.params.defaults = []) (hr : Room k callerA)
    (hY : ∀ (w : World) (h : Heap), YP w h → (K w.params).In h)
    (F : ∀ (w : World) (mg : Str → Option Value) (fa : Addr) (h : Heap), (K w.params).In h → h.Ns mainGlobals mg → mg d.name = some (.ref fa) →
      ∃ fd : FuncData, (∀ (s : Shared) (u : Value), BindsTo s fd ⟨[u], []⟩ [(x, u)]) ∧
        ∀ base : Heap, (K w.params).In base → base.Ns mainGlobals mg → FG l.prog w (K w.params) mg base (CX w) k fa fd [x] (sp w))
    (hsp : ∀ (w : World) (H : Hp) (a : Addr) (ns : List Int), ns.length ≤ n → L2.Only H → SqL (K w.params) H a (ns.map V.int) → sp w [.ref a] H (fun v _ => v = .bl true) fun _ _ _ => False)
    (hCX : ∀ (w : World) (H : Hp) (s : Shared) (e : Value) (s' : Shared), CX w [] H s (fun _ _ _ => False) e s' → False) :
    PySem.W.WalkO q loose XP YP l.row.toRowW d [] (fun f vs => PySem.call f vs) := by
  refine Att.attach_call hn hdf fun w s0 s1 mg mb fa o pm cd doc a vs ns G Y ho hd hcd hmg hobj hints hlen hg => ?_
  have KX := hY w _ Y
  obtain ⟨fd, hb, hF⟩ := F w mg fa _ KX G.T.g hmg
  exact law_head KX G.T.g G.T.b G.T.builtins G.T.nolimit hg hobj hints (Nat.le_trans hlen hn2) hr hF hb (fun H hO hS => hsp w H a ns hlen hO hS) fun H e s' => hCX w H s1 e s'
end
end Dv
set_option Elab.async false
set_option linter.all false
set_option maxRecDepth 100000
set_option maxHeartbeats 1000000
/-! Part 2: data in the heap, slots, what a reading is of a plain function. -/
namespace Dv
open PySem PySem.Spec PyProof.Rows L2

/-! ### data stands as the heap grows -/
theorem sqt_same {K : PySem.W.Frag} {H H' : Hp} {a : Addr} {xs : List V} (e : Same H H') (h : SqT K H a xs) : SqT K H' a xs := by
  rcases h with (h | ⟨o, h⟩) | h
  · exact .inl (.inl (e _ _ h))
  · exact .inl (.inr ⟨o, e _ _ h⟩)
  · exact .inr h
mutual
/-- data as it lies in the heap: lists are plain tracked ones -/
inductive Dq (K : PySem.W.Frag) (H : Hp) : V → PyData → Prop
  | non : Dq K H .non .none
  | bl (b : Bool) : Dq K H (.bl b) (.bool b)
  | int (i : Int) : Dq K H (.int i) (.int i)
  | str (x : Str) : Dq K H (.str x) (.str x)
  | lst {a : Addr} {xs : List V} {ds : List PyData} : H a = some (.lst xs) → DqAll K H xs ds → Dq K H (.ref a) (.list ds)
  | tup {a : Addr} {xs : List V} {ds : List PyData} : SqT K H a xs → DqAll K H xs ds → Dq K H (.ref a) (.tuple ds)
inductive DqAll (K : PySem.W.Frag) (H : Hp) : List V → List PyData → Prop
  | nil : DqAll K H [] []
  | cons {v : V} {vs : List V} {d : PyData} {ds : List PyData} : Dq K H v d → DqAll K H vs ds → DqAll K H (v :: vs) (d :: ds)
end
mutual
theorem dq_dp {K : PySem.W.Frag} {H : Hp} : ∀ {v : V} {d : PyData}, Dq K H v d → Dp K H v d
  | _, _, .non => .non
  | _, _, .bl b => .bl b
  | _, _, .int i => .int i
  | _, _, .str z => .str z
  | _, _, .lst h r => .lst (SqL.of h) (dqa_dpa r)
  | _, _, .tup h r => .tup h (dqa_dpa r)
theorem dqa_dpa {K : PySem.W.Frag} {H : Hp} : ∀ {vs : List V} {ds : List PyData}, DqAll K H vs ds → DpAll K H vs ds
  | _, _, .nil => .nil
  | _, _, .cons a r => .cons (dq_dp a) (dqa_dpa r)
end
mutual
theorem dp_same {K : PySem.W.Frag} {H H' : Hp} (e : Same H H') : ∀ {v : V} {d : PyData}, Dq K H v d → Dq K H' v d
  | _, _, .non => .non
  | _, _, .bl b => .bl b
  | _, _, .int i => .int i
  | _, _, .str z => .str z
  | _, _, .lst h r => .lst (e _ _ h) (dpa_same e r)
  | _, _, .tup h r => .tup (sqt_same e h) (dpa_same e r)
theorem dpa_same {K : PySem.W.Frag} {H H' : Hp} (e : Same H H') : ∀ {vs : List V} {ds : List PyData}, DqAll K H vs ds → DqAll K H' vs ds
  | _, _, .nil => .nil
  | _, _, .cons a r => .cons (dp_same e a) (dpa_same e r)
end
theorem dpa_len {K : PySem.W.Frag} {H : Hp} : ∀ {vs : List V} {ds : List PyData}, DqAll K H vs ds → vs.length = ds.length
  | _, _, .nil => rfl
  | _, _, .cons _ r => by simp [dpa_len r]
theorem dpa_get {K : PySem.W.Frag} {H : Hp} : ∀ {vs : List V} {ds : List PyData} {i : Nat} {v : V}, DqAll K H vs ds → vs[i]? = some v → ∃ d, ds[i]? = some d ∧ Dq K H v d
  | _, _, _, _, .nil, e => by simp at e
  | _, _, 0, v, .cons a r, e => by simp at e; subst e; exact ⟨_, rfl, a⟩
  | _, _, i + 1, v, .cons a r, e => by
    obtain ⟨d, h1, h2⟩ := dpa_get (i := i) (v := v) r (by simpa using e)
    exact ⟨d, by simpa using h1, h2⟩
theorem dpa_get' {K : PySem.W.Frag} {H : Hp} : ∀ {vs : List V} {ds : List PyData} {i : Nat} {d : PyData}, DqAll K H vs ds → ds[i]? = some d → ∃ v, vs[i]? = some v ∧ Dq K H v d
  | _, _, _, _, .nil, e => by simp at e
  | _, _, 0, d, .cons a r, e => by simp at e; subst e; exact ⟨_, rfl, a⟩
  | _, _, i + 1, d, .cons a r, e => by
    obtain ⟨v, h1, h2⟩ := dpa_get' (i := i) (d := d) r (by simpa using e)
    exact ⟨v, by simpa using h1, h2⟩
theorem dpa_append {K : PySem.W.Frag} {H : Hp} : ∀ {vs us : List V} {ds es : List PyData}, DqAll K H vs ds → DqAll K H us es → DqAll K H (vs ++ us) (ds ++ es)
  | _, _, _, _, .nil, s => s
  | _, _, _, _, .cons a r, s => .cons a (dpa_append r s)
theorem dpa_take {K : PySem.W.Frag} {H : Hp} : ∀ {vs : List V} {ds : List PyData} (n : Nat), DqAll K H vs ds → DqAll K H (vs.take n) (ds.take n)
  | _, _, 0, _ => .nil
  | _, _, _ + 1, .nil => .nil
  | _, _, n + 1, .cons a r => .cons a (dpa_take n r)
theorem dpa_drop {K : PySem.W.Frag} {H : Hp} : ∀ {vs : List V} {ds : List PyData} (n : Nat), DqAll K H vs ds → DqAll K H (vs.drop n) (ds.drop n)
  | _, _, 0, r => r
  | _, _, _ + 1, .nil => .nil
  | _, _, n + 1, .cons _ r => dpa_drop n r
theorem dpa_set {K : PySem.W.Frag} {H : Hp} {v : V} {d : PyData} (h : Dq K H v d) : ∀ {vs : List V} {ds : List PyData} (n : Nat), DqAll K H vs ds → DqAll K H (vs.set n v) (ds.set n d)
  | _, _, _, .nil => .nil
  | _, _, 0, .cons _ r => .cons h r
  | _, _, n + 1, .cons a r => .cons a (dpa_set h n r)
theorem dpa_rev {K : PySem.W.Frag} {H : Hp} : ∀ {vs : List V} {ds : List PyData}, DqAll K H vs ds → DqAll K H vs.reverse ds.reverse
  | _, _, .nil => .nil
  | _, _, .cons a r => by
    rw [List.reverse_cons, List.reverse_cons]
    exact dpa_append (dpa_rev r) (.cons a .nil)
theorem dpa_ints {K : PySem.W.Frag} {H : Hp} : ∀ (ns : List Int), DqAll K H (ns.map V.int) (ns.map PyData.int)
  | [] => .nil
  | i :: r => .cons (.int i) (dpa_ints r)

/-! ### the source of draws -/
structure Src where
  cells : List Int
  left : Int
  mixed : Int
  turn : Int
abbrev Zn := Option (Addr × Addr)
def Zm (Z : Zn) (a : Addr) : Prop := ∃ p, Z = some p ∧ (a = p.1 ∨ a = p.2)
def srcDict (y : Addr) (W : Src) : List (Key × V) := [(.inr "cells", .ref y), (.inr "left", .int W.left), (.inr "mixed", .int W.mixed), (.inr "turn", .int W.turn)]
def SrcAt (Z : Zn) (W : Src) (H : Hp) : Prop := ∀ p, Z = some p → p.1 ≠ p.2 ∧ H p.1 = some (.dK (srcDict p.2 W)) ∧ H p.2 = some (.lst (W.cells.map V.int))

/-! ### slots -/
inductive Sl where
  | no | d (x : PyData) | own (xs : List PyData) | src
abbrev Rho := List Sl
/-- where a def runs: the written part, the source, the frozen and the whole heap at its entry -/
structure Ct where
  K : PySem.W.Frag
  Z : Zn
  F0 : Hp
  H0 : Hp
inductive SlotOk (C : Ct) (F G : Hp) : Sl → Option V → Prop
  | no {o} : SlotOk C F G .no o
  | d {v x} : Dq C.K F v x → SlotOk C F G (.d x) (some v)
  | own {a vs xs} : G a = some (.lst vs) → F a = none → C.H0 a = none → DqAll C.K F vs xs → SlotOk C F G (.own xs) (some (.ref a))
  | src {p} : C.Z = some p → SlotOk C F G .src (some (.ref p.1))
structure Rel (C : Ct) (ρ : Rho) (W : Src) (F G : Hp) (σ : L2.St) (H : Hp) : Prop where
  fg : Same F G
  gh : Same G H
  src : SrcAt C.Z W H
  gz : ∀ a, Zm C.Z a → G a = none
  b1 : Same C.F0 F
  b2 : ∀ a o, C.H0 a = some o → ¬ Zm C.Z a → H a = some o
  b3 : ∀ a o, C.H0 a = some o → C.F0 a = none → F a = none
  len : ρ.length = σ.length
  sl : ∀ (i : Nat) (s : Sl), ρ[i]? = some s → ∃ o, σ[i]? = some o ∧ SlotOk C F G s o
  ap : ∀ (i j : Nat) (a : Addr) (xs ys : List PyData), ρ[i]? = some (.own xs) → ρ[j]? = some (.own ys) → σ[i]? = some (some (.ref a)) → σ[j]? = some (some (.ref a)) → i = j
/-- growth within an expression: what stood stands, but the source; what is new is new -/
structure Ext (Z : Zn) (F G H F' G' H' : Hp) : Prop where
  f : Same F F'
  g : Same G G'
  fn : ∀ a o, H a = some o → F a = none → F' a = none
  gn : ∀ a o, H a = some o → G a = none → G' a = none
  h : ∀ a o, H a = some o → ¬ Zm Z a → H' a = some o
  z : ∀ a, Zm Z a → H a ≠ none → H' a ≠ none
theorem Ext.refl (Z : Zn) (F G H : Hp) : Ext Z F G H F G H := ⟨Same.refl _, Same.refl _, fun _ _ _ h => h, fun _ _ _ h => h, fun _ _ h _ => h, fun _ _ h => h⟩
theorem Ext.there {Z : Zn} {F G H F' G' H' : Hp} (e : Ext Z F G H F' G' H') {a : Addr} {o : HO} (h : H a = some o) : ∃ o', H' a = some o' := by
  by_cases hz : Zm Z a
  · have q := e.z a hz (by rw [h]; simp)
    cases r : H' a with
    | none => exact absurd r q
    | some o' => exact ⟨o', rfl⟩
  · exact ⟨o, e.h a o h hz⟩
theorem Ext.trans {Z : Zn} {F G H F1 G1 H1 F2 G2 H2 : Hp} (a : Ext Z F G H F1 G1 H1) (b : Ext Z F1 G1 H1 F2 G2 H2) : Ext Z F G H F2 G2 H2 :=
  ⟨a.f.trans b.f, a.g.trans b.g,
   fun c o h n => let ⟨o', h'⟩ := a.there h; b.fn c o' h' (a.fn c o h n),
   fun c o h n => let ⟨o', h'⟩ := a.there h; b.gn c o' h' (a.gn c o h n),
   fun c o h n => b.h c o (a.h c o h n) n, fun c hz h => b.z c hz (a.z c hz h)⟩

section
variable {C : Ct} {ρ : Rho} {W : Src} {F G H F' G' H' : Hp} {σ : L2.St}
theorem Rel.fh (R : Rel C ρ W F G σ H) : Same F H := R.fg.trans R.gh
theorem Rel.zh (R : Rel C ρ W F G σ H) {a : Addr} (hz : Zm C.Z a) : ∃ o, H a = some o := by
  obtain ⟨p, hp, e | e⟩ := hz
  · subst e; exact ⟨_, (R.src p hp).2.1⟩
  · subst e; exact ⟨_, (R.src p hp).2.2⟩
theorem SlotOk.ext {s : Sl} {o : Option V} (h : SlotOk C F G s o) (gh : Same G H) (e : Ext C.Z F G H F' G' H') : SlotOk C F' G' s o := by
  cases h with
  | no => exact .no
  | d h => exact .d (dp_same e.f h)
  | own h1 h2 h3 h4 => exact .own (e.g _ _ h1) (e.fn _ _ (gh _ _ h1) h2) h3 (dpa_same e.f h4)
  | src h => exact .src h
theorem Rel.ext {W' : Src} (R : Rel C ρ W F G σ H) (e : Ext C.Z F G H F' G' H') (fg : Same F' G') (gh : Same G' H') (src : SrcAt C.Z W' H') : Rel C ρ W' F' G' σ H' where
  fg := fg
  gh := gh
  src := src
  gz := fun a hz => let ⟨o, h⟩ := R.zh hz; e.gn a o h (R.gz a hz)
  b1 := R.b1.trans e.f
  b2 := fun a o h hz => e.h a o (R.b2 a o h hz) hz
  b3 := fun a o h n => by
    by_cases hz : Zm C.Z a
    · obtain ⟨o', h'⟩ := R.zh hz
      exact e.fn a o' h' (R.b3 a o h n)
    · exact e.fn a o (R.b2 a o h hz) (R.b3 a o h n)
  len := R.len
  sl := fun i s h => let ⟨o, h1, h2⟩ := R.sl i s h; ⟨o, h1, h2.ext R.gh e⟩
  ap := R.ap
theorem same_none {H : Hp} {p : Addr} {o : HO} (n : H p = none) : Same H (upd H p o) := fun b x e => by
  rw [upd_ne (ne_of_none e n)]
  exact e
theorem srcAt_upd {Z : Zn} {p : Addr} {o : HO} (h : SrcAt Z W H) (n : H p = none) : SrcAt Z W (upd H p o) := fun q hq => by
  obtain ⟨a, b, c⟩ := h q hq
  exact ⟨a, same_none n _ _ b, same_none n _ _ c⟩
/-- a new object that is frozen at once -/
theorem Rel.newF (R : Rel C ρ W F G σ H) {p : Addr} (o : HO) (n : H p = none) : Ext C.Z F G H (upd F p o) (upd G p o) (upd H p o) ∧ Rel C ρ W (upd F p o) (upd G p o) σ (upd H p o) := by
  have gn : G p = none := R.gh.free n
  have fn : F p = none := R.fg.free gn
  have e : Ext C.Z F G H (upd F p o) (upd G p o) (upd H p o) :=
    ⟨same_none fn, same_none gn, fun a x h q => by rw [upd_ne (ne_of_none h n)]; exact q, fun a x h q => by rw [upd_ne (ne_of_none h n)]; exact q, fun a x h _ => same_none n a x h, fun a _ h => by
      cases q : H a with
      | none => exact absurd q h
      | some x => rw [same_none n a x q]; simp⟩
  refine ⟨e, R.ext e (fun b x h => ?_) (fun b x h => ?_) (srcAt_upd R.src n)⟩
  · by_cases hb : b = p
    · subst hb; rw [upd_same] at h ⊢; exact h
    · rw [upd_ne hb] at h ⊢; exact R.fg b x h
  · by_cases hb : b = p
    · subst hb; rw [upd_same] at h ⊢; exact h
    · rw [upd_ne hb] at h ⊢; exact R.gh b x h
/-- a new object that may yet change -/
theorem Rel.newG (R : Rel C ρ W F G σ H) {p : Addr} (o : HO) (n : H p = none) : Ext C.Z F G H F (upd G p o) (upd H p o) ∧ Rel C ρ W F (upd G p o) σ (upd H p o) := by
  have gn : G p = none := R.gh.free n
  have e : Ext C.Z F G H F (upd G p o) (upd H p o) :=
    ⟨Same.refl _, same_none gn, fun a x h q => q, fun a x h q => by rw [upd_ne (ne_of_none h n)]; exact q, fun a x h _ => same_none n a x h, fun a _ h => by
      cases q : H a with
      | none => exact absurd q h
      | some x => rw [same_none n a x q]; simp⟩
  refine ⟨e, R.ext e (R.fg.trans (same_none gn)) (fun b x h => ?_) (srcAt_upd R.src n)⟩
  by_cases hb : b = p
  · subst hb; rw [upd_same] at h ⊢; exact h
  · rw [upd_ne hb] at h ⊢; exact R.gh b x h
/-- an object of the heap that is not in G (a comprehension's list) changes -/
theorem Rel.side (R : Rel C ρ W F G σ H) {p : Addr} (o : HO) (gp : G p = none) (zp : ¬ Zm C.Z p) (h0 : C.H0 p = none) : Rel C ρ W F G σ (upd H p o) where
  fg := R.fg
  gh := fun b x h => by rw [upd_ne (ne_of_none h gp)]; exact R.gh b x h
  src := fun q hq => by
    obtain ⟨a, b, c⟩ := R.src q hq
    refine ⟨a, ?_, ?_⟩
    · rw [upd_ne (fun z => zp ⟨q, hq, .inl z.symm⟩)]; exact b
    · rw [upd_ne (fun z => zp ⟨q, hq, .inr z.symm⟩)]; exact c
  gz := R.gz
  b1 := R.b1
  b2 := fun a x h hz => by rw [upd_ne (ne_of_none h h0)]; exact R.b2 a x h hz
  b3 := R.b3
  len := R.len
  sl := R.sl
  ap := R.ap
/-- a slot is set to frozen data -/
theorem Rel.set (R : Rel C ρ W F G σ H) {v : V} {x : PyData} (i : Nat) (h : Dq C.K F v x) : Rel C (ρ.set i (.d x)) W F G (σ.set i (some v)) H where
  fg := R.fg
  gh := R.gh
  src := R.src
  gz := R.gz
  b1 := R.b1
  b2 := R.b2
  b3 := R.b3
  len := by rw [List.length_set, List.length_set]; exact R.len
  sl := fun j s e => by
    by_cases hj : i = j
    · subst hj
      have hl : i < ρ.length := by
        have := (List.getElem?_eq_some_iff.mp e).1
        simpa using this
      rw [List.getElem?_set_self hl] at e
      have e' := Option.some.inj e
      subst e'
      exact ⟨some v, List.getElem?_set_self (R.len ▸ hl), .d h⟩
    · rw [List.getElem?_set_ne hj] at e ⊢
      exact R.sl j s e
  ap := fun j k a xs ys e1 e2 e3 e4 => by
    have hj : i ≠ j := fun z => by
      subst z
      have hl : i < ρ.length := by simpa using (List.getElem?_eq_some_iff.mp e1).1
      rw [List.getElem?_set_self hl] at e1
      cases e1
    have hk : i ≠ k := fun z => by
      subst z
      have hl : i < ρ.length := by simpa using (List.getElem?_eq_some_iff.mp e2).1
      rw [List.getElem?_set_self hl] at e2
      cases e2
    rw [List.getElem?_set_ne hj] at e1 e3
    rw [List.getElem?_set_ne hk] at e2 e4
    exact R.ap j k a xs ys e1 e2 e3 e4
/-- a slot is set to a list of its own -/
theorem Rel.setOwn (R : Rel C ρ W F G σ H) {a : Addr} {vs : List V} {xs : List PyData} (i : Nat) (h1 : G a = some (.lst vs)) (h2 : F a = none) (h3 : C.H0 a = none) (h4 : DqAll C.K F vs xs)
    (no : ∀ (j : Nat) (ys : List PyData), ρ[j]? = some (.own ys) → σ[j]? = some (some (.ref a)) → j = i) : Rel C (ρ.set i (.own xs)) W F G (σ.set i (some (.ref a))) H where
  fg := R.fg
  gh := R.gh
  src := R.src
  gz := R.gz
  b1 := R.b1
  b2 := R.b2
  b3 := R.b3
  len := by rw [List.length_set, List.length_set]; exact R.len
  sl := fun j s e => by
    by_cases hj : i = j
    · subst hj
      have hl : i < ρ.length := by
        have := (List.getElem?_eq_some_iff.mp e).1
        simpa using this
      rw [List.getElem?_set_self hl] at e
      have e' := Option.some.inj e
      subst e'
      exact ⟨some (.ref a), List.getElem?_set_self (R.len ▸ hl), .own h1 h2 h3 h4⟩
    · rw [List.getElem?_set_ne hj] at e ⊢
      exact R.sl j s e
  ap := fun j k b ys zs e1 e2 e3 e4 => by
    have hlj : j < ρ.length := by simpa using (List.getElem?_eq_some_iff.mp e1).1
    have hlk : k < ρ.length := by simpa using (List.getElem?_eq_some_iff.mp e2).1
    by_cases hj : i = j
    · by_cases hk : i = k
      · omega
      · subst hj
        rw [List.getElem?_set_self (R.len ▸ hlj)] at e3
        have e3' : a = b := by
          have := Option.some.inj (Option.some.inj e3)
          exact V.ref.inj this
        rw [List.getElem?_set_ne hk] at e2 e4
        exact (no k zs e2 (e3' ▸ e4)).symm
    · by_cases hk : i = k
      · subst hk
        rw [List.getElem?_set_self (R.len ▸ hlk)] at e4
        have e4' : a = b := by
          have := Option.some.inj (Option.some.inj e4)
          exact V.ref.inj this
        rw [List.getElem?_set_ne hj] at e1 e3
        exact no j ys e1 (e4' ▸ e3)
      · rw [List.getElem?_set_ne hj] at e1 e3
        rw [List.getElem?_set_ne hk] at e2 e4
        exact R.ap j k b ys zs e1 e2 e3 e4
end

/-! ### modes, readings of plain functions -/
inductive Mode | va | vw | nw
def Ow (C : Ct) (F G : Hp) (v : V) (d : PyData) : Prop := ∃ a vs xs, v = .ref a ∧ d = .list xs ∧ G a = some (.lst vs) ∧ DqAll C.K F vs xs
def isL : PyData → Bool
  | .list _ => true
  | _ => false
def Res (m : Mode) (C : Ct) (F G H0 : Hp) (v : V) (d : PyData) : Prop := match m with
  | .va => Dq C.K F v d
  | .vw => Dq C.K F v d ∨ Ow C F G v d
  | .nw => (isL d = false ∧ Dq C.K F v d) ∨ ∃ a vs xs, v = .ref a ∧ d = .list xs ∧ G a = some (.lst vs) ∧ F a = none ∧ H0 a = none ∧ DqAll C.K F vs xs
abbrev Ex := Rho → Src → Option (PyData × Src)
abbrev Tx := Rho → Src → Option (Bool × Src)
abbrev Lx := Rho → Src → Option (List PyData × Src)
def TX (C : Ct) (m : Mode) (f : Ex) : TE := fun σ H Q => ∃ ρ W F G d W', Rel C ρ W F G σ H ∧ f ρ W = some (d, W') ∧
  ∀ v F' G' H', Ext C.Z F G H F' G' H' → Rel C ρ W' F' G' σ H' → Res m C F' G' H v d → Q v H'
def TB (C : Ct) (f : Tx) : TT := fun σ H Q => ∃ ρ W F G b W', Rel C ρ W F G σ H ∧ f ρ W = some (b, W') ∧
  ∀ F' G' H', Ext C.Z F G H F' G' H' → Rel C ρ W' F' G' σ H' → Q b H'
/-- a list of values, all frozen -/
def TL (C : Ct) (f : Lx) : TA := fun σ H Q => ∃ ρ W F G ds W', Rel C ρ W F G σ H ∧ f ρ W = some (ds, W') ∧
  ∀ vs F' G' H', Ext C.Z F G H F' G' H' → Rel C ρ W' F' G' σ H' → DqAll C.K F' vs ds → Q vs H'
theorem pe_weak {X : Cx} {e : Expr} {t t' : TE} (h : PE X e t) (w : ∀ σ H Q, t' σ H Q → t σ H Q) : PE X e t' := ⟨fun p s σ H Q I q => h.run p s σ H Q I (w σ H Q q)⟩
theorem pt_weak {X : Cx} {e : Expr} {t t' : TT} (h : PT X e t) (w : ∀ σ H Q, t' σ H Q → t σ H Q) : PT X e t' := ⟨fun p s σ H Q I q => h.run p s σ H Q I (w σ H Q q)⟩
theorem pa_weak {X : Cx} {es : List Expr} {t t' : TA} (h : PA X es t) (w : ∀ σ H Q, t' σ H Q → t σ H Q) : PA X es t' := ⟨fun o p s σ H Q I q => h.run o p s σ H Q I (w σ H Q q)⟩
theorem ps_weak {X : Cx} {e : Stmt} {t t' : TS} (h : PS X e t) (w : ∀ D σ H, t' D σ H → t D σ H) : PS X e t' := ⟨fun p s σ H D I q => h.run p s σ H D I (w D σ H q)⟩
theorem pss_weak {X : Cx} {e : List Stmt} {t t' : TS} (h : PSs X e t) (w : ∀ D σ H, t' D σ H → t D σ H) : PSs X e t' := ⟨fun p s σ H D I q => h.run p s σ H D I (w D σ H q)⟩
theorem res_va_vw {C : Ct} {F G H0 : Hp} {v : V} {d : PyData} (h : Res .va C F G H0 v d) : Res .vw C F G H0 v d := .inl h
theorem res_nw_vw {C : Ct} {F G H0 : Hp} {v : V} {d : PyData} (h : Res .nw C F G H0 v d) : Res .vw C F G H0 v d := by
  rcases h with ⟨_, h⟩ | ⟨a, vs, xs, e1, e2, h1, _, _, h2⟩
  · exact .inl h
  · exact .inr ⟨a, vs, xs, e1, e2, h1, h2⟩
theorem tx_vw {X : Cx} {C : Ct} {e : Expr} {f : Ex} {m : Mode} (h : PE X e (TX C m f)) : PE X e (TX C .vw f) := pe_weak h fun σ H Q ⟨ρ, W, F, G, d, W', R, ef, q⟩ =>
  ⟨ρ, W, F, G, d, W', R, ef, fun v F' G' H' x R' r => q v F' G' H' x R' (match m, r with
    | .va, r => .inl r
    | .vw, r => r
    | .nw, r => res_nw_vw r)⟩
/-- what is new is frozen -/
theorem tx_va {X : Cx} {C : Ct} {e : Expr} {f : Ex} (h : PE X e (TX C .nw f)) : PE X e (TX C .va f) := pe_weak h fun σ H Q ⟨ρ, W, F, G, d, W', R, ef, q⟩ => by
  refine ⟨ρ, W, F, G, d, W', R, ef, fun v F' G' H' x R' r => ?_⟩
  rcases r with ⟨_, r⟩ | ⟨a, vs, xs, rfl, rfl, h1, h2, h3, h4⟩
  · exact q v F' G' H' x R' r
  · have e2 : Ext C.Z F G H (upd F' a (.lst vs)) G' H' := ⟨x.f.trans (same_none h2), x.g, fun b o hb n => by
      rw [upd_ne (ne_of_none hb h3)]; exact x.fn b o hb n, x.gn, x.h, x.z⟩
    refine q _ _ G' H' e2 (R.ext e2 (fun b o hb => ?_) R'.gh R'.src) ?_
    · by_cases z : b = a
      · subst z; rw [upd_same] at hb; rw [h1]; exact hb
      · rw [upd_ne z] at hb; exact R'.fg b o hb
    · exact .lst upd_same (dpa_same (same_none h2) h4)
theorem Res.gdp {C : Ct} {m : Mode} {F G H0 : Hp} {v : V} {d : PyData} (h : Res m C F G H0 v d) (fg : Same F G) : Dq C.K G v d := by
  have ow : Ow C F G v d → Dq C.K G v d := fun ⟨a, vs, xs, e1, e2, h1, h2⟩ => by
    rw [e1, e2]
    exact .lst h1 (dpa_same fg h2)
  match m, h with
  | .va, h => exact dp_same fg h
  | .vw, .inl h => exact dp_same fg h
  | .vw, .inr h => exact ow h
  | .nw, .inl ⟨_, h⟩ => exact dp_same fg h
  | .nw, .inr ⟨a, vs, xs, e1, e2, h1, _, _, h2⟩ => exact ow ⟨a, vs, xs, e1, e2, h1, h2⟩
end Dv
set_option Elab.async false
set_option linter.all false
set_option maxRecDepth 100000
set_option maxHeartbeats 1000000
/-! Part 3: expressions: names, constants, operators, comparisons, displays, built-in calls, by what they do to data. -/
namespace Dv
open PySem PySem.Spec PyProof.Rows L2

/-- a heap grown by new objects -/
structure Gr (F G H F' G' H' : Hp) : Prop where
  f : Same F F'
  g : Same G G'
  h : Same H H'
  fn : ∀ a o, H a = some o → F a = none → F' a = none
  gn : ∀ a o, H a = some o → G a = none → G' a = none
  fg : Same F' G'
  gh : Same G' H'
theorem Gr.refl {F G H : Hp} (fg : Same F G) (gh : Same G H) : Gr F G H F G H := ⟨Same.refl _, Same.refl _, Same.refl _, fun _ _ _ h => h, fun _ _ _ h => h, fg, gh⟩
theorem Gr.ext {Z : Zn} {F G H F' G' H' : Hp} (g : Gr F G H F' G' H') : Ext Z F G H F' G' H' :=
  ⟨g.f, g.g, g.fn, g.gn, fun a o h _ => g.h a o h, fun a _ h => by
    cases q : H a with
    | none => exact absurd q h
    | some o => rw [g.h a o q]; simp⟩
theorem Rel.gr {C : Ct} {ρ : Rho} {W : Src} {F G H F' G' H' : Hp} {σ : L2.St} (R : Rel C ρ W F G σ H) (g : Gr F G H F' G' H') : Rel C ρ W F' G' σ H' :=
  R.ext g.ext g.fg g.gh fun p hp => let ⟨a, b, c⟩ := R.src p hp; ⟨a, g.h _ _ b, g.h _ _ c⟩
theorem Gr.newF {F G H : Hp} (fg : Same F G) (gh : Same G H) {p : Addr} (o : HO) (n : H p = none) : Gr F G H (upd F p o) (upd G p o) (upd H p o) := by
  have gn : G p = none := gh.free n
  have fn : F p = none := fg.free gn
  refine ⟨same_none fn, same_none gn, same_none n, fun a x h q => by rw [upd_ne (ne_of_none h n)]; exact q, fun a x h q => by rw [upd_ne (ne_of_none h n)]; exact q, fun b x h => ?_, fun b x h => ?_⟩
  · by_cases hb : b = p
    · subst hb; rw [upd_same] at h ⊢; exact h
    · rw [upd_ne hb] at h ⊢; exact fg b x h
  · by_cases hb : b = p
    · subst hb; rw [upd_same] at h ⊢; exact h
    · rw [upd_ne hb] at h ⊢; exact gh b x h
theorem Gr.newG {F G H : Hp} (fg : Same F G) (gh : Same G H) {p : Addr} (o : HO) (n : H p = none) : Gr F G H F (upd G p o) (upd H p o) := by
  have gn : G p = none := gh.free n
  refine ⟨Same.refl _, same_none gn, same_none n, fun a x h q => q, fun a x h q => by rw [upd_ne (ne_of_none h n)]; exact q, fg.trans (same_none gn), fun b x h => ?_⟩
  by_cases hb : b = p
  · subst hb; rw [upd_same] at h ⊢; exact h
  · rw [upd_ne hb] at h ⊢; exact gh b x h

/-- what a value shows -/
def Vw (C : Ct) (F G : Hp) (v : V) (d : PyData) : Prop := Dq C.K F v d ∨ Ow C F G v d
theorem Res.vw {C : Ct} {m : Mode} {F G H0 : Hp} {v : V} {d : PyData} (h : Res m C F G H0 v d) : Vw C F G v d := match m, h with
  | .va, h => .inl h
  | .vw, h => h
  | .nw, h => res_nw_vw h
theorem Vw.dp {C : Ct} {F G : Hp} {v : V} {d : PyData} (h : Vw C F G v d) (fg : Same F G) : Dq C.K G v d := Res.gdp (m := .vw) (H0 := F) h fg
theorem Vw.ext {C : Ct} {F G F' G' : Hp} {v : V} {d : PyData} (h : Vw C F G v d) (f : Same F F') (g : Same G G') : Vw C F' G' v d := by
  rcases h with h | ⟨a, vs, xs, e1, e2, h1, h2⟩
  · exact .inl (dp_same f h)
  · exact .inr ⟨a, vs, xs, e1, e2, g _ _ h1, dpa_same f h2⟩
inductive VwAll (C : Ct) (F G : Hp) : List V → List PyData → Prop
  | nil : VwAll C F G [] []
  | cons {v d vs ds} : Vw C F G v d → VwAll C F G vs ds → VwAll C F G (v :: vs) (d :: ds)
theorem VwAll.ext {C : Ct} {F G F' G' : Hp} : ∀ {vs : List V} {ds : List PyData}, VwAll C F G vs ds → Same F F' → Same G G' → VwAll C F' G' vs ds
  | _, _, .nil, _, _ => .nil
  | _, _, .cons a r, f, g => .cons (a.ext f g) (r.ext f g)
/-- a list or tuple that is shown: its items are frozen -/
theorem Vw.list {C : Ct} {F G H : Hp} {v : V} {xs : List PyData} (h : Vw C F G v (.list xs)) (fg : Same F G) (gh : Same G H) : ∃ a vs, v = .ref a ∧ H a = some (.lst vs) ∧ DqAll C.K F vs xs := by
  rcases h with h | ⟨a, vs, ys, e1, e2, h1, h2⟩
  · cases h with
    | lst h r => exact ⟨_, _, rfl, gh _ _ (fg _ _ h), r⟩
  · cases e2
    exact ⟨a, vs, e1, gh _ _ h1, h2⟩
theorem Vw.tuple {C : Ct} {F G H : Hp} {v : V} {xs : List PyData} (h : Vw C F G v (.tuple xs)) (fg : Same F G) (gh : Same G H) : ∃ a vs, v = .ref a ∧ SqT C.K H a vs ∧ DqAll C.K F vs xs := by
  rcases h with h | ⟨a, vs, ys, e1, e2, h1, h2⟩
  · cases h with
    | tup h r => exact ⟨_, _, rfl, sqt_same gh (sqt_same fg h), r⟩
  · cases e2
theorem Vw.int {C : Ct} {F G : Hp} {v : V} {i : Int} (h : Vw C F G v (.int i)) : v = .int i := by
  rcases h with h | ⟨a, vs, ys, e1, e2, h1, h2⟩
  · cases h; rfl
  · cases e2
theorem Vw.bool {C : Ct} {F G : Hp} {v : V} {i : Bool} (h : Vw C F G v (.bool i)) : v = .bl i := by
  rcases h with h | ⟨a, vs, ys, e1, e2, h1, h2⟩
  · cases h; rfl
  · cases e2
theorem Vw.str {C : Ct} {F G : Hp} {v : V} {i : Str} (h : Vw C F G v (.str i)) : v = .str i := by
  rcases h with h | ⟨a, vs, ys, e1, e2, h1, h2⟩
  · cases h; rfl
  · cases e2
theorem Vw.none {C : Ct} {F G : Hp} {v : V} (h : Vw C F G v .none) : v = .non := by
  rcases h with h | ⟨a, vs, ys, e1, e2, h1, h2⟩
  · cases h; rfl
  · cases e2

/-- what an operation on data asks of the heap and gives -/
def End1 (C : Ct) (m : Mode) (F G H : Hp) (r : PyData) (Q : VK) : Prop := ∀ v F' G' H', Gr F G H F' G' H' → Res m C F' G' H v r → Q v H'
def RD1 (C : Ct) (m : Mode) (op : PyData → Option PyData) : V → Hp → VK → Prop := fun x H Q => ∃ F G d r, Same F G ∧ Same G H ∧ Vw C F G x d ∧ op d = some r ∧ End1 C m F G H r Q
def RD2 (C : Ct) (m : Mode) (op : PyData → PyData → Option PyData) : R2 := fun x y H Q => ∃ F G d e r, Same F G ∧ Same G H ∧ Vw C F G x d ∧ Vw C F G y e ∧ op d e = some r ∧ End1 C m F G H r Q
def RDn (C : Ct) (m : Mode) (op : List PyData → Option PyData) : List V → Hp → VK → Prop := fun xs H Q => ∃ F G ds r, Same F G ∧ Same G H ∧ VwAll C F G xs ds ∧ op ds = some r ∧ End1 C m F G H r Q
/-- an end by a plain value -/
theorem End1.plain {C : Ct} {F G H : Hp} {r : PyData} {Q : VK} (h : End1 C .va F G H r Q) (fg : Same F G) (gh : Same G H) {v : V} (d : Dq C.K F v r) : Q v H :=
  h v F G H (Gr.refl fg gh) d
theorem End1.plainN {C : Ct} {F G H : Hp} {r : PyData} {Q : VK} (h : End1 C .nw F G H r Q) (fg : Same F G) (gh : Same G H) {v : V} (d : Dq C.K F v r) (hl : isL r = false := by rfl) : Q v H :=
  h v F G H (Gr.refl fg gh) (.inl ⟨hl, d⟩)
theorem End1.tup {C : Ct} {m : Mode} {F G H : Hp} {ds : List PyData} {Q : VK} (h : End1 C m F G H (.tuple ds) Q) (fg : Same F G) (gh : Same G H) {vs : List V} (d : DqAll C.K F vs ds) {p : Addr} (n : H p = none) : Q (.ref p) (upd H p (.tup vs)) := by
  have fn : F p = none := fg.free (gh.free n)
  have q : Dq C.K (upd F p (.tup vs)) (.ref p) (.tuple ds) := .tup (SqT.of upd_same) (dpa_same (same_none fn) d)
  exact h _ _ _ _ (Gr.newF fg gh (.tup vs) n) (match m with
    | .va => q
    | .vw => .inl q
    | .nw => .inl ⟨rfl, q⟩)
theorem End1.lst {C : Ct} {F G H : Hp} {ds : List PyData} {Q : VK} (h : End1 C .nw F G H (.list ds) Q) (fg : Same F G) (gh : Same G H) {vs : List V} (d : DqAll C.K F vs ds) {p : Addr} (n : H p = none) : Q (.ref p) (upd H p (.lst vs)) :=
  h _ _ _ _ (Gr.newG fg gh (.lst vs) n) (.inr ⟨p, vs, ds, rfl, rfl, upd_same, fg.free (gh.free n), n, d⟩)

theorem Res.back {C : Ct} {Z : Zn} {m : Mode} {F G H F1 G1 H1 F' G' : Hp} {v : V} {d : PyData} (h : Res m C F' G' H1 v d) (x : Ext Z F G H F1 G1 H1) : Res m C F' G' H v d := by
  match m, h with
  | .va, h => exact h
  | .vw, h => exact h
  | .nw, .inl h => exact .inl h
  | .nw, .inr ⟨a', vs, xs, q1, q2, q3, q4, q5, q6⟩ =>
    refine .inr ⟨a', vs, xs, q1, q2, q3, q4, ?_, q6⟩
    cases hh : H a' with
    | none => rfl
    | some o =>
      obtain ⟨o', h'⟩ := x.there hh
      rw [q5] at h'; cases h'

/-! ### expressions -/
def eC (d : PyData) : Ex := fun _ W => some (d, W)
def eVar (i : Nat) : Ex := fun ρ W => match ρ[i]? with
  | some (.d x) => some (x, W)
  | some (.own xs) => some (.list xs, W)
  | _ => none
def eVal (i : Nat) : Ex := fun ρ W => match ρ[i]? with
  | some (.d x) => some (x, W)
  | _ => none
def e1 (op : PyData → Option PyData) (a : Ex) : Ex := fun ρ W => match a ρ W with
  | some (x, W1) => (op x).map fun r => (r, W1)
  | none => none
def e2 (op : PyData → PyData → Option PyData) (a b : Ex) : Ex := fun ρ W => match a ρ W with
  | some (x, W1) => match b ρ W1 with
    | some (y, W2) => (op x y).map fun r => (r, W2)
    | none => none
  | none => none
def eN (op : List PyData → Option PyData) (a : Lx) : Ex := fun ρ W => match a ρ W with
  | some (xs, W1) => (op xs).map fun r => (r, W1)
  | none => none
def lNil : Lx := fun _ W => some ([], W)
def lCons (a : Ex) (r : Lx) : Lx := fun ρ W => match a ρ W with
  | some (x, W1) => match r ρ W1 with
    | some (xs, W2) => some (x :: xs, W2)
    | none => none
  | none => none
def eIf (t : Tx) (a b : Ex) : Ex := fun ρ W => match t ρ W with
  | some (true, W1) => a ρ W1
  | some (false, W1) => b ρ W1
  | none => none

theorem e2_some {f : PyData → PyData → Option PyData} {fa fb : Ex} {ρ : Rho} {W W' : Src} {d : PyData} (h : e2 f fa fb ρ W = some (d, W')) : ∃ x W1 y, fa ρ W = some (x, W1) ∧ fb ρ W1 = some (y, W') ∧ f x y = some d := by
  unfold e2 at h
  cases ha : fa ρ W with
  | none => rw [ha] at h; cases h
  | some p =>
    obtain ⟨x, W1⟩ := p
    rw [ha] at h
    cases hb : fb ρ W1 with
    | none => simp only [hb] at h; cases h
    | some p =>
      obtain ⟨y, W2⟩ := p
      simp only [hb] at h
      cases hop : f x y with
      | none => rw [hop] at h; cases h
      | some r =>
        rw [hop] at h
        cases h
        exact ⟨x, W1, y, rfl, hb, hop⟩
section
variable {X : Cx} {C : Ct} {m : Mode} {a b : Expr} {fa fb : Ex} {pos : Pos}
theorem x_var {i : Nat} {x : Str} (hN : X.N[i]? = some x) (hv : Vis X.env.scope x) (hd : (x == ("__debug__" : Str)) = false) (hcd : (x == ("__classdict__" : Str)) = false) : PE X (.Name x pos) (TX C .vw (eVar i)) := by
  refine pe_weak (pe_var hN hv hd hcd) fun σ H Q ⟨ρ, W, F, G, d, W', R, ef, q⟩ => ?_
  unfold eVar at ef
  cases hs : ρ[i]? with
  | none => rw [hs] at ef; cases ef
  | some s =>
    rw [hs] at ef
    obtain ⟨o, h1, h2⟩ := R.sl i s hs
    cases s with
    | no => cases ef
    | src => cases ef
    | d x =>
      cases ef
      cases h2 with
      | d h => exact ⟨_, h1, q _ F G H (Ext.refl ..) R (.inl h)⟩
    | own xs =>
      cases ef
      cases h2 with
      | own g1 g2 g3 g4 => exact ⟨_, h1, q _ F G H (Ext.refl ..) R (.inr ⟨_, _, _, rfl, rfl, g1, g4⟩)⟩
theorem x_val {i : Nat} {x : Str} (hN : X.N[i]? = some x) (hv : Vis X.env.scope x) (hd : (x == ("__debug__" : Str)) = false) (hcd : (x == ("__classdict__" : Str)) = false) : PE X (.Name x pos) (TX C .va (eVal i)) := by
  refine pe_weak (pe_var hN hv hd hcd) fun σ H Q ⟨ρ, W, F, G, d, W', R, ef, q⟩ => ?_
  unfold eVal at ef
  cases hs : ρ[i]? with
  | none => rw [hs] at ef; cases ef
  | some s =>
    rw [hs] at ef
    obtain ⟨o, h1, h2⟩ := R.sl i s hs
    cases s with
    | no => cases ef
    | src => cases ef
    | own xs => cases ef
    | d x =>
      cases ef
      cases h2 with
      | d h => exact ⟨_, h1, q _ F G H (Ext.refl ..) R h⟩
theorem x_const {e : Expr} {v : V} {d : PyData} (h : PE X e (tC v)) (hd : ∀ F, Dq C.K F v d) : PE X e (TX C .va (eC d)) :=
  pe_weak h fun σ H Q ⟨ρ, W, F, G, d', W', R, ef, q⟩ => by cases ef; exact q v F G H (Ext.refl ..) R (hd F)
theorem x_2 {op : Operator} {f : PyData → PyData → Option PyData} {m1 m2 : Mode} (ho : OpR X (binaryOp op) (RD2 C m f)) (ha : PE X a (TX C m1 fa)) (hb : PE X b (TX C m2 fb)) : PE X (.BinOp a op b pos) (TX C m (e2 f fa fb)) := by
  refine pe_weak (pe_op ho ha hb) fun σ H Q ⟨ρ, W, F, G, d, W', R, ef, q⟩ => ?_
  unfold e2 at ef
  cases ha : fa ρ W with
  | none => rw [ha] at ef; cases ef
  | some p =>
    obtain ⟨x, W1⟩ := p
    rw [ha] at ef
    cases hb : fb ρ W1 with
    | none => simp only [hb] at ef; cases ef
    | some p =>
      obtain ⟨y, W2⟩ := p
      simp only [hb] at ef
      cases hop : f x y with
      | none => rw [hop] at ef; cases ef
      | some r =>
        rw [hop] at ef
        cases ef
        refine ⟨ρ, W, F, G, x, W1, R, ha, fun v F1 G1 H1 x1 R1 r1 => ⟨ρ, W1, F1, G1, y, _, R1, hb, fun v2 F2 G2 H2 x2 R2 r2 => ?_⟩⟩
        refine ⟨F2, G2, x, y, _, R2.fg, R2.gh, r1.vw.ext x2.f x2.g, r2.vw, hop, fun v3 F3 G3 H3 g3 r3 => ?_⟩
        refine q v3 F3 G3 H3 ((x1.trans x2).trans g3.ext) (R2.gr g3) ?_
        exact r3.back (x1.trans x2)

theorem x_un {op : UnaryOp} {f : PyData → Option PyData} {m1 : Mode} (ho : UnR X (unaryOp op) (RD1 C m f)) (ha : PE X a (TX C m1 fa)) : PE X (.UnaryOp op a pos) (TX C m (e1 f fa)) := by
  refine pe_weak (pe_un ho ha) fun σ H Q ⟨ρ, W, F, G, d, W', R, ef, q⟩ => ?_
  unfold e1 at ef
  cases ha : fa ρ W with
  | none => rw [ha] at ef; cases ef
  | some p =>
    obtain ⟨x, W1⟩ := p
    rw [ha] at ef
    cases hop : f x with
    | none => simp only [hop] at ef; cases ef
    | some r =>
      simp only [hop] at ef
      cases ef
      refine ⟨ρ, W, F, G, x, _, R, ha, fun v F1 G1 H1 x1 R1 r1 => ⟨F1, G1, x, _, R1.fg, R1.gh, r1.vw, hop, fun v3 F3 G3 H3 g3 r3 => ?_⟩⟩
      exact q v3 F3 G3 H3 (x1.trans g3.ext) (R1.gr g3) (r3.back x1)
/-! argument lists -/
def TV (C : Ct) (f : Lx) : TA := fun σ H Q => ∃ ρ W F G ds W', Rel C ρ W F G σ H ∧ f ρ W = some (ds, W') ∧
  ∀ vs F' G' H', Ext C.Z F G H F' G' H' → Rel C ρ W' F' G' σ H' → VwAll C F' G' vs ds → Q vs H'
theorem l_nil : PA X [] (TL C lNil) := pa_weak pa_nil fun σ H Q ⟨ρ, W, F, G, ds, W', R, ef, q⟩ => by
  cases ef
  exact q [] F G H (Ext.refl ..) R .nil
theorem v_nil : PA X [] (TV C lNil) := pa_weak pa_nil fun σ H Q ⟨ρ, W, F, G, ds, W', R, ef, q⟩ => by
  cases ef
  exact q [] F G H (Ext.refl ..) R .nil
theorem lCons_some {fa : Ex} {fr : Lx} {ρ : Rho} {W W' : Src} {ds : List PyData} (h : lCons fa fr ρ W = some (ds, W')) : ∃ x W1 xs, fa ρ W = some (x, W1) ∧ fr ρ W1 = some (xs, W') ∧ ds = x :: xs := by
  unfold lCons at h
  cases ha : fa ρ W with
  | none => rw [ha] at h; cases h
  | some p =>
    obtain ⟨x, W1⟩ := p
    rw [ha] at h
    cases hb : fr ρ W1 with
    | none => simp only [hb] at h; cases h
    | some p =>
      obtain ⟨xs, W2⟩ := p
      simp only [hb] at h
      cases h
      exact ⟨x, W1, xs, rfl, hb, rfl⟩
theorem l_cons {es : List Expr} {fr : Lx} (ha : PE X a (TX C .va fa)) (hr : PA X es (TL C fr)) (hs : starEach (a :: es) X.env = (false, eval a X.env) :: starEach es X.env) : PA X (a :: es) (TL C (lCons fa fr)) := by
  refine pa_weak (pa_cons ha hr hs) fun σ H Q ⟨ρ, W, F, G, ds, W', R, ef, q⟩ => ?_
  obtain ⟨x, W1, xs, h1, h2, rfl⟩ := lCons_some ef
  exact ⟨ρ, W, F, G, x, W1, R, h1, fun v F1 G1 H1 x1 R1 r1 => ⟨ρ, W1, F1, G1, xs, W', R1, h2, fun vs F2 G2 H2 x2 R2 r2 => q _ F2 G2 H2 (x1.trans x2) R2 (.cons (dp_same x2.f r1) r2)⟩⟩
theorem v_cons {es : List Expr} {fr : Lx} {m1 : Mode} (ha : PE X a (TX C m1 fa)) (hr : PA X es (TV C fr)) (hs : starEach (a :: es) X.env = (false, eval a X.env) :: starEach es X.env) : PA X (a :: es) (TV C (lCons fa fr)) := by
  refine pa_weak (pa_cons ha hr hs) fun σ H Q ⟨ρ, W, F, G, ds, W', R, ef, q⟩ => ?_
  obtain ⟨x, W1, xs, h1, h2, rfl⟩ := lCons_some ef
  exact ⟨ρ, W, F, G, x, W1, R, h1, fun v F1 G1 H1 x1 R1 r1 => ⟨ρ, W1, F1, G1, xs, W', R1, h2, fun vs F2 G2 H2 x2 R2 r2 => q _ F2 G2 H2 (x1.trans x2) R2 (.cons (r1.vw.ext x2.f x2.g) r2)⟩⟩
theorem eN_some {f : List PyData → Option PyData} {fl : Lx} {ρ : Rho} {W W' : Src} {d : PyData} (h : eN f fl ρ W = some (d, W')) : ∃ xs, fl ρ W = some (xs, W') ∧ f xs = some d := by
  unfold eN at h
  cases ha : fl ρ W with
  | none => rw [ha] at h; cases h
  | some p =>
    obtain ⟨x, W1⟩ := p
    rw [ha] at h
    cases hop : f x with
    | none => simp only [hop] at h; cases h
    | some r =>
      simp only [hop] at h
      cases h
      exact ⟨x, rfl, hop⟩
/-- f(a, ..), f built-in: a function, a class -/
theorem x_callB {x : Str} {p : Pos} {id : String} {es : List Expr} {f : List PyData → Option PyData} {fl : Lx} (hc : CallR X (.builtin id) (RDn C m f)) (hg : Gl X x) (hm : X.mg x = none) (hv : bootBuiltins x = some (.builtin id)) (ha : PA X (a :: es) (TV C fl)) (hn : x ≠ "__name__") (hdb : (x == ("__debug__" : Str)) = false)
    (he : starEach (a :: es) X.env = (false, eval a X.env) :: starEach es X.env) (hpl : (backTo pos (starEach es X.env)).any (·.1) = false) : PE X (.Call (.Name x p) (a :: es) [] pos) (TX C m (eN f fl)) := by
  refine pe_weak (pe_callB hc hg hm hv ha hn hdb he hpl) fun σ H Q ⟨ρ, W, F, G, d, W', R, ef, q⟩ => ?_
  obtain ⟨xs, h1, h2⟩ := eN_some ef
  exact ⟨ρ, W, F, G, xs, W', R, h1, fun vs F1 G1 H1 x1 R1 r1 => ⟨F1, G1, xs, d, R1.fg, R1.gh, r1, h2, fun v3 F3 G3 H3 g3 r3 => q v3 F3 G3 H3 (x1.trans g3.ext) (R1.gr g3) (r3.back x1)⟩⟩
theorem x_callTy {x : Str} {p : Pos} {T : String} {es : List Expr} {f : List PyData → Option PyData} {fl : Lx} (hc : CallR X (.type T) (RDn C m f)) (hg : Gl X x) (hm : X.mg x = none) (hv : bootBuiltins x = some (.type T)) (ha : PA X (a :: es) (TV C fl)) (hn : x ≠ "__name__") (hdb : (x == ("__debug__" : Str)) = false)
    (he : starEach (a :: es) X.env = (false, eval a X.env) :: starEach es X.env) (hpl : (backTo pos (starEach es X.env)).any (·.1) = false) : PE X (.Call (.Name x p) (a :: es) [] pos) (TX C m (eN f fl)) := by
  refine pe_weak (pe_callTy hc hg hm hv ha hn hdb he hpl) fun σ H Q ⟨ρ, W, F, G, d, W', R, ef, q⟩ => ?_
  obtain ⟨xs, h1, h2⟩ := eN_some ef
  exact ⟨ρ, W, F, G, xs, W', R, h1, fun vs F1 G1 H1 x1 R1 r1 => ⟨F1, G1, xs, d, R1.fg, R1.gh, r1, h2, fun v3 F3 G3 H3 g3 r3 => q v3 F3 G3 H3 (x1.trans g3.ext) (R1.gr g3) (r3.back x1)⟩⟩
/-- displays -/
def oTup (ds : List PyData) : Option PyData := if ds.length ≤ sizeLine then some (.tuple ds) else none
def oLst (ds : List PyData) : Option PyData := if ds.length ≤ sizeLine then some (.list ds) else none
theorem x_tup {es : List Expr} {k : Nat} {fl : Lx} (h : PA X es (TL C fl)) : PE X (.Tuple es k pos) (TX C .va (eN oTup fl)) := by
  refine pe_weak (pe_tup h) fun σ H Q ⟨ρ, W, F, G, d, W', R, ef, q⟩ => ?_
  obtain ⟨xs, h1, h2⟩ := eN_some ef
  unfold oTup at h2
  split at h2
  · rename_i hz
    cases h2
    refine ⟨ρ, W, F, G, xs, W', R, h1, fun vs F1 G1 H1 x1 R1 r1 => ⟨by rw [dpa_len r1]; exact hz, fun p n => ?_⟩⟩
    exact End1.tup (m := .va) (C := C) (fun v3 F3 G3 H3 g3 r3 => q v3 F3 G3 H3 (x1.trans g3.ext) (R1.gr g3) r3) R1.fg R1.gh r1 n
  · cases h2
theorem x_lst {es : List Expr} {fl : Lx} (h : PA X es (TL C fl)) : PE X (.List es pos) (TX C .nw (eN oLst fl)) := by
  refine pe_weak (pe_lst h) fun σ H Q ⟨ρ, W, F, G, d, W', R, ef, q⟩ => ?_
  obtain ⟨xs, h1, h2⟩ := eN_some ef
  unfold oLst at h2
  split at h2
  · rename_i hz
    cases h2
    refine ⟨ρ, W, F, G, xs, W', R, h1, fun vs F1 G1 H1 x1 R1 r1 => ⟨by rw [dpa_len r1]; exact hz, fun p n => ?_⟩⟩
    exact End1.lst (C := C) (fun v3 F3 G3 H3 g3 r3 => q v3 F3 G3 H3 (x1.trans g3.ext) (R1.gr g3) (r3.back x1)) R1.fg R1.gh r1 n
  · cases h2
/-! comparisons, tests -/
theorem x_cmp {op : CmpOp} {f : PyData → PyData → Option PyData} {m1 m2 : Mode} (ho : OpR X (compareOp op) (RD2 C .va f)) (ha : PE X a (TX C m1 fa)) (hb : PE X b (TX C m2 fb)) (hm : behindInMarks op b = false) : PE X (.Compare a [op] [b] pos) (TX C .va (e2 f fa fb)) := by
  refine pe_weak (pe_cmpR ho ha hb hm) fun σ H Q ⟨ρ, W, F, G, d, W', R, ef, q⟩ => ?_
  obtain ⟨x, W1, y, ea, eb, hop⟩ := e2_some ef
  refine ⟨ρ, W, F, G, x, W1, R, ea, fun v F1 G1 H1 x1 R1 r1 => ⟨ρ, W1, F1, G1, y, _, R1, eb, fun v2 F2 G2 H2 x2 R2 r2 => ?_⟩⟩
  refine ⟨F2, G2, x, y, _, R2.fg, R2.gh, r1.vw.ext x2.f x2.g, r2.vw, hop, fun v3 F3 G3 H3 g3 r3 => ?_⟩
  exact q v3 F3 G3 H3 ((x1.trans x2).trans g3.ext) (R2.gr g3) r3
/-- a value of True or False as a test -/
def tOf (f : Ex) : Tx := fun ρ W => match f ρ W with
  | some (.bool b, W1) => some (b, W1)
  | _ => none
def tNeg (t : Tx) : Tx := fun ρ W => match t ρ W with
  | some (b, W1) => some (!b, W1)
  | none => none
def tAnd2 (t u : Tx) : Tx := fun ρ W => match t ρ W with
  | some (true, W1) => u ρ W1
  | some (false, W1) => some (false, W1)
  | none => none
def tOr2 (t u : Tx) : Tx := fun ρ W => match t ρ W with
  | some (true, W1) => some (true, W1)
  | some (false, W1) => u ρ W1
  | none => none
def eOf (t : Tx) : Ex := fun ρ W => match t ρ W with
  | some (b, W1) => some (.bool b, W1)
  | none => none
theorem tOf_some {f : Ex} {ρ : Rho} {W W' : Src} {b : Bool} (h : tOf f ρ W = some (b, W')) : f ρ W = some (.bool b, W') := by
  unfold tOf at h
  split at h <;> first | (cases h; assumption) | cases h
theorem t_cmp {op : CmpOp} {f : PyData → PyData → Option PyData} {m1 m2 : Mode} (ho : OpR X (compareOp op) (RD2 C .va f)) (ha : PE X a (TX C m1 fa)) (hb : PE X b (TX C m2 fb)) (hm : behindInMarks op b = false) : PT X (.Compare a [op] [b] pos) (TB C (tOf (e2 f fa fb))) := by
  refine pt_weak (pt_cmpR ho ha hb hm) fun σ H Q ⟨ρ, W, F, G, d, W', R, ef, q⟩ => ?_
  obtain ⟨x, W1, y, ea, eb, hop⟩ := e2_some (tOf_some ef)
  refine ⟨ρ, W, F, G, x, W1, R, ea, fun v F1 G1 H1 x1 R1 r1 => ⟨ρ, W1, F1, G1, y, _, R1, eb, fun v2 F2 G2 H2 x2 R2 r2 => ?_⟩⟩
  refine ⟨F2, G2, x, y, _, R2.fg, R2.gh, r1.vw.ext x2.f x2.g, r2.vw, hop, fun v3 F3 G3 H3 g3 r3 => ?_⟩
  cases r3
  exact ⟨_, rfl, q F3 G3 H3 ((x1.trans x2).trans g3.ext) (R2.gr g3)⟩
theorem t_val (h : PE X a (TX C .va fa)) (he : ∀ whole, isTrue a X.env whole = (do let v ← whole; standAt a.pos; holding [v] (truthy v))) : PT X a (TB C (tOf fa)) := by
  refine pt_weak (pt_val h he) fun σ H Q ⟨ρ, W, F, G, d, W', R, ef, q⟩ => ?_
  refine ⟨ρ, W, F, G, _, W', R, tOf_some ef, fun v F1 G1 H1 x1 R1 r1 => ?_⟩
  cases r1
  exact ⟨_, rfl, q F1 G1 H1 x1 R1⟩
theorem t_not {t : Tx} (h : PT X a (TB C t)) : PT X (.UnaryOp .Not a pos) (TB C (tNeg t)) := by
  refine pt_weak (pt_not h) fun σ H Q ⟨ρ, W, F, G, d, W', R, ef, q⟩ => ?_
  unfold tNeg at ef
  cases ht : t ρ W with
  | none => rw [ht] at ef; cases ef
  | some p =>
    obtain ⟨b, W1⟩ := p
    rw [ht] at ef
    cases ef
    exact ⟨ρ, W, F, G, b, _, R, ht, fun F1 G1 H1 x1 R1 => q F1 G1 H1 x1 R1⟩
theorem t_and1 {t : Tx} (h : PT X a (TB C t)) : PW X (.BoolOp .And [a] pos) (TB C t) := pw_and1 h
theorem t_or1 {t : Tx} (h : PT X a (TB C t)) : PW X (.BoolOp .Or [a] pos) (TB C t) := pw_or1 h
theorem pw_weak {e : Expr} {t t' : TT} (h : PW X e t) (w : ∀ σ H Q, t' σ H Q → t σ H Q) : PW X e t' := ⟨fun wh p s σ H Q I q => h.run wh p s σ H Q I (w σ H Q q)⟩
theorem t_and {t u : Tx} {rest : List Expr} (h : PT X a (TB C t)) (hr : PW X (.BoolOp .And (b :: rest) pos) (TB C u)) : PW X (.BoolOp .And (a :: b :: rest) pos) (TB C (tAnd2 t u)) := by
  refine pw_weak (pw_and h hr) fun σ H Q ⟨ρ, W, F, G, d, W', R, ef, q⟩ => ?_
  unfold tAnd2 at ef
  cases ht : t ρ W with
  | none => rw [ht] at ef; cases ef
  | some p =>
    obtain ⟨c, W1⟩ := p
    rw [ht] at ef
    refine ⟨ρ, W, F, G, c, W1, R, ht, fun F1 G1 H1 x1 R1 => ?_⟩
    cases c with
    | true =>
      rw [if_pos rfl]
      exact ⟨ρ, W1, F1, G1, d, W', R1, ef, fun F2 G2 H2 x2 R2 => q F2 G2 H2 (x1.trans x2) R2⟩
    | false =>
      cases ef
      rw [if_neg Bool.false_ne_true]
      exact q F1 G1 H1 x1 R1
theorem t_or {t u : Tx} {rest : List Expr} (h : PT X a (TB C t)) (hr : PW X (.BoolOp .Or (b :: rest) pos) (TB C u)) : PW X (.BoolOp .Or (a :: b :: rest) pos) (TB C (tOr2 t u)) := by
  refine pw_weak (pw_or h hr) fun σ H Q ⟨ρ, W, F, G, d, W', R, ef, q⟩ => ?_
  unfold tOr2 at ef
  cases ht : t ρ W with
  | none => rw [ht] at ef; cases ef
  | some p =>
    obtain ⟨c, W1⟩ := p
    rw [ht] at ef
    refine ⟨ρ, W, F, G, c, W1, R, ht, fun F1 G1 H1 x1 R1 => ?_⟩
    cases c with
    | false =>
      rw [if_neg Bool.false_ne_true]
      exact ⟨ρ, W1, F1, G1, d, W', R1, ef, fun F2 G2 H2 x2 R2 => q F2 G2 H2 (x1.trans x2) R2⟩
    | true =>
      cases ef
      rw [if_pos rfl]
      exact q F1 G1 H1 x1 R1
/-! as values, all but the last of True and False -/
def eAnd2 (f g : Ex) : Ex := fun ρ W => match f ρ W with
  | some (.bool true, W1) => g ρ W1
  | some (.bool false, W1) => some (.bool false, W1)
  | _ => none
def eOr2 (f g : Ex) : Ex := fun ρ W => match f ρ W with
  | some (.bool true, W1) => some (.bool true, W1)
  | some (.bool false, W1) => g ρ W1
  | _ => none
theorem x_and {rest : List Expr} (h : PE X a (TX C .va fa)) (hr : PE X (.BoolOp .And (b :: rest) pos) (TX C .va fb)) : PE X (.BoolOp .And (a :: b :: rest) pos) (TX C .va (eAnd2 fa fb)) := by
  refine pe_weak (pe_and h hr) fun σ H Q ⟨ρ, W, F, G, d, W', R, ef, q⟩ => ?_
  unfold eAnd2 at ef
  split at ef
  · rename_i W1 ht
    refine ⟨ρ, W, F, G, _, _, R, ht, fun v F1 G1 H1 x1 R1 r1 => ?_⟩
    cases r1
    refine ⟨true, rfl, ?_⟩
    rw [if_pos rfl]
    exact ⟨ρ, W1, F1, G1, d, W', R1, ef, fun v2 F2 G2 H2 x2 R2 r2 => q v2 F2 G2 H2 (x1.trans x2) R2 r2⟩
  · rename_i W1 ht
    cases ef
    refine ⟨ρ, W, F, G, _, _, R, ht, fun v F1 G1 H1 x1 R1 r1 => ?_⟩
    cases r1
    refine ⟨false, rfl, ?_⟩
    rw [if_neg Bool.false_ne_true]
    exact q _ F1 G1 H1 x1 R1 (.bl false)
  · cases ef
theorem x_or {rest : List Expr} (h : PE X a (TX C .va fa)) (hr : PE X (.BoolOp .Or (b :: rest) pos) (TX C .va fb)) : PE X (.BoolOp .Or (a :: b :: rest) pos) (TX C .va (eOr2 fa fb)) := by
  refine pe_weak (pe_or h hr) fun σ H Q ⟨ρ, W, F, G, d, W', R, ef, q⟩ => ?_
  unfold eOr2 at ef
  split at ef
  · rename_i W1 ht
    cases ef
    refine ⟨ρ, W, F, G, _, _, R, ht, fun v F1 G1 H1 x1 R1 r1 => ?_⟩
    cases r1
    refine ⟨true, rfl, ?_⟩
    rw [if_pos rfl]
    exact q _ F1 G1 H1 x1 R1 (.bl true)
  · rename_i W1 ht
    refine ⟨ρ, W, F, G, _, _, R, ht, fun v F1 G1 H1 x1 R1 r1 => ?_⟩
    cases r1
    refine ⟨false, rfl, ?_⟩
    rw [if_neg Bool.false_ne_true]
    exact ⟨ρ, W1, F1, G1, d, W', R1, ef, fun v2 F2 G2 H2 x2 R2 r2 => q v2 F2 G2 H2 (x1.trans x2) R2 r2⟩
  · cases ef
theorem x_one {op : BoolOp} (h : PE X a (TX C .va fa)) : PE X (.BoolOp op [a] pos) (TX C .va fa) := pe_one h
def eNot (f : Ex) : Ex := fun ρ W => match f ρ W with
  | some (.bool b, W1) => some (.bool (!b), W1)
  | _ => none
theorem x_not (h : PE X a (TX C .va fa)) : PE X (.UnaryOp .Not a pos) (TX C .va (eNot fa)) := by
  refine pe_weak (pe_not h) fun σ H Q ⟨ρ, W, F, G, d, W', R, ef, q⟩ => ?_
  unfold eNot at ef
  split at ef
  · rename_i b W1 ht
    cases ef
    refine ⟨ρ, W, F, G, _, _, R, ht, fun v F1 G1 H1 x1 R1 r1 => ?_⟩
    cases r1
    exact ⟨b, rfl, q _ F1 G1 H1 x1 R1 (.bl _)⟩
  · cases ef
theorem x_if {c : Expr} {t : Tx} (hc : PT X c (TB C t)) (ha : PE X a (TX C m fa)) (hb : PE X b (TX C m fb)) : PE X (.IfExp c a b pos) (TX C m (eIf t fa fb)) := by
  refine pe_weak (pe_ifExp hc ha hb) fun σ H Q ⟨ρ, W, F, G, d, W', R, ef, q⟩ => ?_
  unfold eIf at ef
  split at ef
  · rename_i W1 ht
    refine ⟨ρ, W, F, G, _, W1, R, ht, fun F1 G1 H1 x1 R1 => ?_⟩
    refine iteT ?_
    exact ⟨ρ, W1, F1, G1, d, W', R1, ef, fun v2 F2 G2 H2 x2 R2 r2 => q v2 F2 G2 H2 (x1.trans x2) R2 (r2.back x1)⟩
  · rename_i W1 ht
    refine ⟨ρ, W, F, G, _, W1, R, ht, fun F1 G1 H1 x1 R1 => ?_⟩
    refine iteF ?_
    exact ⟨ρ, W1, F1, G1, d, W', R1, ef, fun v2 F2 G2 H2 x2 R2 r2 => q v2 F2 G2 H2 (x1.trans x2) R2 (r2.back x1)⟩
  · cases ef
/-- a < b < c -/
def eChain (f g : PyData → PyData → Option PyData) (a b c : Ex) : Ex := fun ρ W => match a ρ W with
  | some (x, W1) => match b ρ W1 with
    | some (y, W2) => match f x y with
      | some (.bool true) => match c ρ W2 with
        | some (z, W3) => (g y z).map fun r => (r, W3)
        | none => none
      | some (.bool false) => some (.bool false, W2)
      | _ => none
    | none => none
  | none => none
theorem chain_read {f g : PyData → PyData → Option PyData} {fc : Ex} {m1 m2 m3 : Mode} {σ : L2.St} {H : Hp} {Q : VK} (h : TX C .va (eChain f g fa fb fc) σ H Q) : tChain (RD2 C .va f) (RD2 C .va g) (TX C m1 fa) (TX C m2 fb) (TX C m3 fc) σ H Q := by
  obtain ⟨ρ, W, F, G, d, W', R, ef, q⟩ := h
  unfold eChain at ef
  split at ef
  · rename_i x W1 ea
    split at ef
    · rename_i y W2 eb
      refine ⟨ρ, W, F, G, x, W1, R, ea, fun v F1 G1 H1 x1 R1 r1 => ⟨ρ, W1, F1, G1, y, _, R1, eb, fun v2 F2 G2 H2 x2 R2 r2 => ?_⟩⟩
      split at ef
      · rename_i hop
        refine ⟨F2, G2, x, y, _, R2.fg, R2.gh, r1.vw.ext x2.f x2.g, r2.vw, hop, fun v3 F3 G3 H3 g3 r3 => ?_⟩
        cases r3
        refine ⟨true, rfl, ?_⟩
        rw [if_pos rfl]
        split at ef
        · rename_i z W3 ec
          cases hop2 : g y z with
          | none => rw [hop2] at ef; cases ef
          | some r =>
            rw [hop2] at ef
            cases ef
            have R3 := R2.gr g3
            refine ⟨ρ, W2, F3, G3, z, _, R3, ec, fun v4 F4 G4 H4 x4 R4 r4 => ?_⟩
            refine ⟨F4, G4, y, z, _, R4.fg, R4.gh, (r2.vw.ext g3.f g3.g).ext x4.f x4.g, r4.vw, hop2, fun v5 F5 G5 H5 g5 r5 => ?_⟩
            exact q v5 F5 G5 H5 ((((x1.trans x2).trans g3.ext).trans x4).trans g5.ext) (R4.gr g5) r5
        · cases ef
      · rename_i hop
        cases ef
        refine ⟨F2, G2, x, y, _, R2.fg, R2.gh, r1.vw.ext x2.f x2.g, r2.vw, hop, fun v3 F3 G3 H3 g3 r3 => ?_⟩
        cases r3
        refine ⟨false, rfl, ?_⟩
        rw [if_neg Bool.false_ne_true]
        exact q _ F3 G3 H3 ((x1.trans x2).trans g3.ext) (R2.gr g3) (.bl false)
      · cases ef
    · cases ef
  · cases ef

theorem x_chain {c : Expr} {fc : Ex} {op op' : CmpOp} {f g : PyData → PyData → Option PyData} {m1 m2 m3 : Mode} (ho : OpR X (compareOp op) (RD2 C .va f)) (ho' : OpR X (compareOp op') (RD2 C .va g)) (ha : PE X a (TX C m1 fa)) (hb : PE X b (TX C m2 fb)) (hc : PE X c (TX C m3 fc)) (hm : lastMarks [op, op'] [b, c] = false) :
    PE X (.Compare a [op, op'] [b, c] pos) (TX C .va (eChain f g fa fb fc)) := pe_weak (pe_chain ho ho' ha hb hc hm) fun σ H Q h => chain_read h
theorem tOf_read {f : Ex} {σ : L2.St} {H : Hp} {Q : Bool → Hp → Prop} (h : TB C (tOf f) σ H Q) : TX C .va f σ H fun x H' => ∃ k, x = .bl k ∧ Q k H' := by
  obtain ⟨ρ, W, F, G, d, W', R, ef, q⟩ := h
  refine ⟨ρ, W, F, G, _, W', R, tOf_some ef, fun v F1 G1 H1 x1 R1 r1 => ?_⟩
  cases r1
  exact ⟨_, rfl, q F1 G1 H1 x1 R1⟩
theorem t_chain {c : Expr} {fc : Ex} {op op' : CmpOp} {f g : PyData → PyData → Option PyData} {m1 m2 m3 : Mode} (ho : OpR X (compareOp op) (RD2 C .va f)) (ho' : OpR X (compareOp op') (RD2 C .va g)) (ha : PE X a (TX C m1 fa)) (hb : PE X b (TX C m2 fb)) (hc : PE X c (TX C m3 fc)) (hm : lastMarks [op, op'] [b, c] = false) :
    PT X (.Compare a [op, op'] [b, c] pos) (TB C (tOf (eChain f g fa fb fc))) := pt_weak (pt_chain ho ho' ha hb hc hm) fun σ H Q h => chain_read (tOf_read h)
end
end Dv
set_option Elab.async false
set_option linter.all false
set_option maxRecDepth 100000
set_option maxHeartbeats 1000000
/-! Part 4: the operators on data. -/
namespace Dv
open PySem PySem.Spec PyProof.Rows L2

section
variable {X : Cx} {C : Ct} {f : Value → Value → Sem Value}
theorem op_imp {r r' : R2} (h : OpR X f r) (w : ∀ x y H Q, r' x y H Q → r x y H Q) : OpR X f r' := fun p s σ H x y v u Q I rx ry q => h p s σ H x y v u Q I rx ry (w x y H Q q)
theorem un_imp {g : Value → Sem Value} {r r' : V → Hp → VK → Prop} (h : UnR X g r) (w : ∀ x H Q, r' x H Q → r x H Q) : UnR X g r' := fun p s σ H x v Q I rx q => h p s σ H x v Q I rx (w x H Q q)
theorem call_imp {g : Value} {r r' : List V → Hp → VK → Prop} (h : CallR X g r) (w : ∀ x H Q, r' x H Q → r x H Q) : CallR X g r' := fun p s σ H x v Q I rx q => h p s σ H x v Q I rx (w x H Q q)
theorem call_or {g : Value} {r r' : List V → Hp → VK → Prop} (h : CallR X g r) (h' : CallR X g r') : CallR X g (fun x H Q => r x H Q ∨ r' x H Q) := fun p s σ H x v Q I rx q => q.elim (h p s σ H x v Q I rx) (h' p s σ H x v Q I rx)

/-! ### t * 1: the same -/
theorem tuple_mul1 (l : Addr) (items : Array Value) (n : Nat) (dd : Option Addr) (sl : Array (Option Value)) (x : Int) (u : Tok) (c0 : (decide (x < -(2 ^ 63)) || decide (x ≥ 2 ^ 63)) = false) (c1 : (items.isEmpty || x == 1) = true) :
    Meets (Builtin.«tuple.__mul__» ⟨[.ref l, .int x u], []⟩) (fun _ R s => s.heap.get? l = some { cls := .type "tuple", dict := dd, data := .seq items n, slots := sl } ∧ R (.ok (.ret (Value.ref l))) s) :=
  .of_wp fun prog w A R s h => by
    obtain ⟨hp, g, d, tk, os⟩ := s
    obtain ⟨hl, h⟩ := h
    have f1 := AutoSeq1.idx_int
    wp_walk using wpAny_loadPart' hl
    repeat (first
      | (refine wpAny_ite_false (decide_eq_false (by rw [c0]; exact Bool.false_ne_true)) ?_; wp_walk using wpAny_loadPart' hl)
      | (refine wpAny_ite_true (decide_eq_true c1) ?_; wp_walk using wpAny_loadPart' hl))
    exact ⟨_, rfl, h⟩
def rRep1 (K : PySem.W.Frag) : R2 := fun x y H Q => ∃ l k xs, x = .ref l ∧ y = .int k ∧ SqT K H l xs ∧ (xs = [] ∨ k = 1) ∧ -(2 ^ 63) ≤ k ∧ k < 2 ^ 63 ∧ Q (.ref l) H
theorem op_rep1 : OpR X (binaryOp .Mult) (rRep1 X.K) := by
  intro pins s σ H x y v u Q I rx ry h
  obtain ⟨l, k, xs, rfl, rfl, hT, hc1, h1, h2, q⟩ := h
  cases rx
  obtain ⟨t, rfl⟩ := ry
  obtain ⟨its, r, ⟨⟨cls, dd, data, sl⟩, ho, hc, n, hd⟩, hs⟩ := I.tuple hT
  simp only at hc hd
  subst hc hd
  have c0 : (decide (k < -(2 ^ 63)) || decide (k ≥ 2 ^ 63)) = false := by
    rw [decide_eq_false (by omega), decide_eq_false (by omega)] <;> rfl
  have c1 : (its.toArray.isEmpty || k == 1) = true := by
    rcases hc1 with e | e
    · subst e
      cases r
      rfl
    · subst e
      simp
  exact wpAny_binaryOp_repeat_ref (T := "tuple") (U := "int") (by decide) ⟨_, ho, rfl⟩ (fun s' => typeIs_int s' k t) noFill_tuple_mul F.fills_int_mul F.slot_int_rmul repeat_tuple F.slot_int_index.lookup
    (call_meets F.slot_int_rmul (typeIs_int s k t) F.entry_int_rmul (F.args_int_rmul_2 _ _) (int_rmul_tuple k t l its.toArray n dd sl)
      ⟨ho, rfl, ⟨_, ho, rfl⟩, call_meets F.slot_tuple_mul ⟨_, ho, rfl⟩ F.entry_tuple_mul (F.args_tuple_mul_2 _ _) (tuple_mul1 l its.toArray n dd sl k t c0 c1) ⟨ho, ⟨.ref l, H, I, rfl, q⟩⟩⟩)

/-! ### + - * // % on data -/
def bAdd : PyData → PyData → Option PyData
  | .int i, .int j => some (.int (i + j))
  | .str a, .str b => if a.length + b.length ≤ sizeLine then some (.str (a ++ b)) else none
  | .tuple xs, .tuple ys => if xs.length + ys.length ≤ sizeLine then some (.tuple (xs ++ ys)) else none
  | .list xs, .list ys => if xs.length + ys.length ≤ sizeLine then some (.list (xs ++ ys)) else none
  | _, _ => none
def bSub : PyData → PyData → Option PyData
  | .int i, .int j => some (.int (i - j))
  | _, _ => none
def mulOk (i j : Int) : Bool := i.natAbs.log2 + j.natAbs.log2 < 1000000
def rep (k : Nat) (xs : List PyData) : List PyData := (List.replicate k xs).flatten
def bMul : PyData → PyData → Option PyData
  | .int i, .int j => if mulOk i j then some (.int (i * j)) else none
  | .tuple xs, .int k => if xs = [] ∧ 0 ≤ k ∧ k ≤ 1000 then some (.tuple []) else if k = 1 then some (.tuple xs) else if 2 ≤ k ∧ k ≤ 1000 ∧ xs.length ≤ 1000 then some (.tuple (rep k.toNat xs)) else none
  | .list xs, .int k => if 0 ≤ k ∧ k < 2 ^ 40 ∧ xs.length * k.toNat ≤ sizeLine then some (.list (rep k.toNat xs)) else none
  | _, _ => none
/-- the divisor above 0, of any size that is met -/
def divOk (j : Int) : Bool := 0 < j && j.natAbs.log2 < 9000
def bDiv : PyData → PyData → Option PyData
  | .int i, .int j => if divOk j then some (.int (i / j)) else none
  | _, _ => none
def bMod : PyData → PyData → Option PyData
  | .int i, .int j => if 0 < j then some (.int (i % j)) else none
  | _, _ => none
def bPow : PyData → PyData → Option PyData
  | .int i, .int j => if 0 ≤ j ∧ j ≤ 1000000 ∧ i.natAbs < 2 ^ 64 then some (.int (i ^ j.toNat)) else none
  | _, _ => none

theorem bool_ite {c : Prop} [Decidable c] {α : Type} {x y : α} (h : (if c then some x else none) = some y) : c ∧ x = y := by
  split at h
  · cases h; exact ⟨by assumption, rfl⟩
  · cases h
theorem rep_dq {K : PySem.W.Frag} {F : Hp} {vs : List V} {xs : List PyData} (h : DqAll K F vs xs) : ∀ n : Nat, DqAll K F (List.replicate n vs).flatten (rep n xs)
  | 0 => .nil
  | n + 1 => by
    show DqAll K F (List.replicate (n + 1) vs).flatten (List.replicate (n + 1) xs).flatten
    rw [List.replicate_succ, List.flatten_cons, List.replicate_succ, List.flatten_cons]
    exact dpa_append h (rep_dq h n)
theorem str_append_len (a b : Str) : (a ++ b).length = a.length + b.length := by
  show (a.cps ++ b.cps).size = _
  rw [Array.size_append]
  rfl

theorem o_add (hK : X.K = C.K) : OpR X (binaryOp .Add) (RD2 C .nw bAdd) := by
  refine op_imp (op_add.or (op_catA.or (op_cat.or op_add_str))) fun x y H Q ⟨F, G, d, e, r, fg, gh, hx, hy, ho, q⟩ => ?_
  unfold bAdd at ho
  split at ho
  · cases ho
    exact .inl ⟨_, _, hx.int, hy.int, q.plainN fg gh (.int _)⟩
  · obtain ⟨hz, rfl⟩ := bool_ite ho
    refine .inr (.inr (.inr ?_))
    exact ⟨_, _, hx.str, hy.str, hz, q.plainN fg gh (.str _)⟩
  · obtain ⟨hz, rfl⟩ := bool_ite ho
    obtain ⟨a, vs, rfl, h1, h2⟩ := hx.tuple fg gh
    obtain ⟨b, us, rfl, h3, h4⟩ := hy.tuple fg gh
    refine .inr (.inl ⟨a, b, vs, us, rfl, rfl, hK ▸ h1, hK ▸ h3, by rw [dpa_len h2, dpa_len h4]; exact hz, fun e => ?_, fun _ e => ?_, fun _ _ p n => ?_⟩)
    · subst e
      cases h2
      refine q.plainN fg gh ?_
      rcases hy with hy | ⟨_, _, _, _, z, _⟩
      · exact hy
      · cases z
    · subst e
      cases h4
      rw [List.append_nil] at q
      refine q.plainN fg gh ?_
      rcases hx with hx | ⟨_, _, _, _, z, _⟩
      · exact hx
      · cases z
    · exact q.tup fg gh (dpa_append h2 h4) n
  · obtain ⟨hz, rfl⟩ := bool_ite ho
    obtain ⟨a, vs, rfl, h1, h2⟩ := hx.list fg gh
    obtain ⟨b, us, rfl, h3, h4⟩ := hy.list fg gh
    exact .inr (.inr (.inl ⟨a, b, vs, us, rfl, rfl, h1, h3, by rw [dpa_len h2, dpa_len h4]; exact hz, fun p n => q.lst fg gh (dpa_append h2 h4) n⟩))
  · cases ho
theorem o_sub : OpR X (binaryOp .Sub) (RD2 C .va bSub) := by
  refine op_imp op_sub fun x y H Q ⟨F, G, d, e, r, fg, gh, hx, hy, ho, q⟩ => ?_
  unfold bSub at ho
  split at ho
  · cases ho
    exact ⟨_, _, hx.int, hy.int, q.plain fg gh (.int _)⟩
  · cases ho
theorem o_mul (hK : X.K = C.K) : OpR X (binaryOp .Mult) (RD2 C .nw bMul) := by
  refine op_imp (op_mulW.or (op_repT.or (op_rep1.or op_rep))) fun x y H Q ⟨F, G, d, e, r, fg, gh, hx, hy, ho, q⟩ => ?_
  unfold bMul at ho
  split at ho
  · rename_i i j
    cases hm : mulOk i j with
    | false => rw [hm] at ho; cases ho
    | true =>
      rw [hm] at ho
      cases ho
      exact .inl ⟨i, j, hx.int, hy.int, show i.natAbs.log2 + j.natAbs.log2 < 1000000 from of_decide_eq_true hm, q.plainN fg gh (.int _)⟩
  · rename_i xs k
    obtain ⟨a, vs, rfl, h1, h2⟩ := hx.tuple fg gh
    have hxd : Dq C.K F (.ref a) (.tuple xs) := by
      rcases hx with hx | ⟨_, _, _, _, z, _⟩
      · exact hx
      · cases z
    have hk := hy.int
    subst hk
    split at ho
    · rename_i c
      obtain ⟨rfl, c1, c2⟩ := c
      cases ho
      cases h2
      refine .inr (.inr (.inl ⟨a, k, _, rfl, rfl, hK ▸ h1, .inl rfl, by omega, by omega, q.plainN fg gh hxd⟩))
    · split at ho
      · rename_i c
        subst c
        cases ho
        exact .inr (.inr (.inl ⟨a, 1, vs, rfl, rfl, hK ▸ h1, .inr rfl, by omega, by omega, q.plainN fg gh hxd⟩))
      · rename_i n1 n2
        obtain ⟨⟨c1, c2, c3⟩, rfl⟩ := bool_ite ho
        have hl := dpa_len h2
        refine .inr (.inl ⟨a, k, vs, rfl, rfl, hK ▸ h1, fun e => n1 ⟨?_, by omega, by omega⟩, c1, c2, by omega, fun p n => q.tup fg gh (rep_dq h2 _) n⟩)
        subst e
        cases h2; rfl
  · rename_i xs k
    obtain ⟨⟨c1, c2, c3⟩, rfl⟩ := bool_ite ho
    obtain ⟨a, vs, rfl, h1, h2⟩ := hx.list fg gh
    have hk := hy.int
    subst hk
    have hl := dpa_len h2
    exact .inr (.inr (.inr ⟨a, k, vs, rfl, rfl, h1, by omega, by omega, by rw [hl]; exact c3, fun p n => q.lst fg gh (rep_dq h2 _) n⟩))
  · cases ho
theorem o_div : OpR X (binaryOp .FloorDiv) (RD2 C .va bDiv) := by
  refine op_imp op_fdivW fun x y H Q ⟨F, G, d, e, r, fg, gh, hx, hy, ho, q⟩ => ?_
  unfold bDiv at ho
  split at ho
  · rename_i i j
    cases hm : divOk j with
    | false => rw [hm] at ho; cases ho
    | true =>
      rw [hm] at ho
      cases ho
      unfold divOk at hm
      rw [Bool.and_eq_true, decide_eq_true_eq, decide_eq_true_eq] at hm
      exact ⟨i, j, hx.int, hy.int, hm, q.plain fg gh (.int _)⟩
  · cases ho
theorem o_mod : OpR X (binaryOp .Mod) (RD2 C .va bMod) := by
  refine op_imp op_mod fun x y H Q ⟨F, G, d, e, r, fg, gh, hx, hy, ho, q⟩ => ?_
  unfold bMod at ho
  split at ho
  · obtain ⟨hz, rfl⟩ := bool_ite ho
    exact ⟨_, _, hx.int, hy.int, hz, q.plain fg gh (.int _)⟩
  · cases ho
theorem o_pow : OpR X (binaryOp .Pow) (RD2 C .va bPow) := by
  refine op_imp op_pow fun x y H Q ⟨F, G, d, e, r, fg, gh, hx, hy, ho, q⟩ => ?_
  unfold bPow at ho
  split at ho
  · obtain ⟨hz, rfl⟩ := bool_ite ho
    exact ⟨_, _, hx.int, hy.int, hz, q.plain fg gh (.int _)⟩
  · cases ho
def uNeg : PyData → Option PyData
  | .int i => some (.int (-i))
  | _ => none
theorem o_neg : UnR X (unaryOp .USub) (RD1 C .va uNeg) := by
  refine un_imp un_neg fun x H Q ⟨F, G, d, r, fg, gh, hx, ho, q⟩ => ?_
  unfold uNeg at ho
  split at ho
  · cases ho
    exact ⟨_, hx.int, q.plain fg gh (.int _)⟩
  · cases ho

/-! ### comparisons on data -/
def eqS : PyData → PyData → Option Bool
  | .str a, .str b => some (a == b)
  | _, _ => none
def cEq (d e : PyData) : Option PyData := if (eqS d e).isSome = true then (eqS d e).map .bool else if SeqAt.shaped d = true ∧ SeqAt.shaped e = true then some (.bool (PyData.eqv d e)) else none
def cNe (d e : PyData) : Option PyData := if (eqS d e).isSome = true then (eqS d e).map fun b => .bool (!b) else if SeqAt.shaped d = true ∧ SeqAt.shaped e = true then some (.bool (!PyData.eqv d e)) else none
theorem eqS_some {d e : PyData} {b : Bool} (h : eqS d e = some b) : ∃ x y, d = .str x ∧ e = .str y ∧ b = (x == y) := by
  unfold eqS at h
  split at h
  · cases h; exact ⟨_, _, rfl, rfl, rfl⟩
  · cases h
theorem dec_str {x y : Str} : decide (V.str x = V.str y) = (x == y) := by
  rw [Bool.eq_iff_iff]
  simp
theorem o_eq (hK : X.K = C.K) (hu : X.A.units + 64 < cLine) : OpR X (compareOp .Eq) (RD2 C .va cEq) := by
  refine op_imp (op_eq.or (op_eqD hu)) fun x y H Q ⟨F, G, d, e, r, fg, gh, hx, hy, ho, q⟩ => ?_
  unfold cEq at ho
  split at ho
  · cases z : eqS d e with
    | none => rw [z] at ho; cases ho
    | some b =>
      obtain ⟨s, t, rfl, rfl, rfl⟩ := eqS_some z
      rw [z] at ho
      cases ho
      rw [hx.str, hy.str]
      exact .inl ⟨rfl, by rw [dec_str]; exact q.plain fg gh (.bl _)⟩
  · obtain ⟨⟨h1, h2⟩, rfl⟩ := bool_ite ho
    rw [hK]
    exact .inr ⟨d, e, dq_dp (dp_same gh (hx.dp fg)), dq_dp (dp_same gh (hy.dp fg)), h1, h2, q.plain fg gh (.bl _)⟩
theorem o_ne (hK : X.K = C.K) (hu : X.A.units + 64 < cLine) : OpR X (compareOp .NotEq) (RD2 C .va cNe) := by
  refine op_imp (op_ne.or (op_neD hu)) fun x y H Q ⟨F, G, d, e, r, fg, gh, hx, hy, ho, q⟩ => ?_
  unfold cNe at ho
  split at ho
  · cases z : eqS d e with
    | none => rw [z] at ho; cases ho
    | some b =>
      obtain ⟨s, t, rfl, rfl, rfl⟩ := eqS_some z
      rw [z] at ho
      cases ho
      rw [hx.str, hy.str]
      exact .inl ⟨rfl, by rw [dec_str]; exact q.plain fg gh (.bl _)⟩
  · obtain ⟨⟨h1, h2⟩, rfl⟩ := bool_ite ho
    rw [hK]
    exact .inr ⟨d, e, dq_dp (dp_same gh (hx.dp fg)), dq_dp (dp_same gh (hy.dp fg)), h1, h2, q.plain fg gh (.bl _)⟩
/-- an order of ints, of tuples of ints -/
def asInts : List PyData → Option (List Int)
  | [] => some []
  | .int i :: r => (asInts r).map fun l => i :: l
  | _ => none
theorem asInts_some : ∀ {ds : List PyData} {l : List Int}, asInts ds = some l → ds = l.map PyData.int
  | [], l, h => by cases h; rfl
  | d :: r, l, h => by
    cases d with
    | int i =>
      have h' : (asInts r).map (fun l => i :: l) = some l := h
      cases e : asInts r with
      | none => rw [e] at h'; cases h'
      | some m =>
        rw [e] at h'
        cases h'
        rw [asInts_some e]
        rfl
    | _ => cases h
theorem dqa_ints {K : PySem.W.Frag} {F : Hp} : ∀ {l : List Int} {vs : List V}, DqAll K F vs (l.map PyData.int) → vs = l.map V.int
  | [], _, .nil => rfl
  | i :: l, _, .cons a r => by
    cases a
    rw [dqa_ints r]
    rfl
def cInt (p : Int → Int → Bool) : PyData → PyData → Option PyData
  | .int i, .int j => some (.bool (p i j))
  | _, _ => none
def cLt : PyData → PyData → Option PyData
  | .int i, .int j => some (.bool (decide (i < j)))
  | .tuple xs, .tuple ys => match asInts xs, asInts ys with
    | some l, some k => some (.bool (HT.lexLt l k))
    | _, _ => none
  | _, _ => none
abbrev cLe : PyData → PyData → Option PyData := cInt fun i j => decide (i ≤ j)
abbrev cGe : PyData → PyData → Option PyData := cInt fun i j => decide (j ≤ i)
theorem o_cInt {g : Value → Value → Sem Value} {p : Int → Int → Bool} (h : OpR X g (rI0 fun i j => .bl (p i j))) : OpR X g (RD2 C .va (cInt p)) := by
  refine op_imp h fun x y H Q ⟨F, G, d, e, r, fg, gh, hx, hy, ho, q⟩ => ?_
  unfold cInt at ho
  split at ho
  · cases ho
    exact ⟨_, _, hx.int, hy.int, q.plain fg gh (.bl _)⟩
  · cases ho
theorem o_lt (hK : X.K = C.K) (hu : X.A.units < cLine) : OpR X (compareOp .Lt) (RD2 C .va cLt) := by
  refine op_imp (op_lt.or (op_ltT hu)) fun x y H Q ⟨F, G, d, e, r, fg, gh, hx, hy, ho, q⟩ => ?_
  unfold cLt at ho
  split at ho
  · cases ho
    exact .inl ⟨_, _, hx.int, hy.int, q.plain fg gh (.bl _)⟩
  · split at ho
    · rename_i l k e1 e2
      cases ho
      rw [asInts_some e1] at hx
      rw [asInts_some e2] at hy
      obtain ⟨a, vs, rfl, h1, h2⟩ := hx.tuple fg gh
      obtain ⟨b, us, rfl, h3, h4⟩ := hy.tuple fg gh
      rw [dqa_ints h2] at h1
      rw [dqa_ints h4] at h3
      exact .inr ⟨a, b, l, k, rfl, rfl, hK ▸ h1, hK ▸ h3, q.plain fg gh (.bl _)⟩
    · cases ho
  · cases ho
/-- t > u of tuples of ints -/
def gtI (ns ms : List Int) : Bool := Ob.lexAt (fun j => decide (ns.getD j 0 = ms.getD j 0)) (fun j => decide (ms.getD j 0 < ns.getD j 0)) (decide (ns.length > ms.length)) 0 (min ns.length ms.length)
def rGtT (K : PySem.W.Frag) : R2 := fun x y H Q => ∃ (a b : Addr) (ns ms : List Int), x = .ref a ∧ y = .ref b ∧ SqT K H a (ns.map V.int) ∧ SqT K H b (ms.map V.int) ∧ Q (.bl (gtI ns ms)) H
theorem o_gtT (hu : X.A.units < cLine) : OpR X (compareOp .Gt) (rGtT X.K) := by
  intro pins s σ H x y v u Q I rx ry ⟨a, b, ns, ms, ex, ey, ha, hb, q⟩
  subst ex ey
  cases rx; cases ry
  obtain ⟨l1, r1, p1, _⟩ := I.tuple ha
  obtain ⟨l2, r2, p2, _⟩ := I.tuple hb
  have i1 := Vals.ints r1
  have i2 := Vals.ints r2
  have n1 : l1.toArray.size = ns.length := i1.length
  have n2 : l2.toArray.size = ms.length := i2.length
  have g1 : ∀ j (h : j < l1.toArray.size), ∃ t, l1.toArray[j] = .int (ns.getD j 0) t := fun j h => PyProof.Rows.IntsAre.int_at i1 _ _ (by simp at h; simp [h])
  have g2 : ∀ j (h : j < l2.toArray.size), ∃ t, l2.toArray[j] = .int (ms.getD j 0) t := fun j h => PyProof.Rows.IntsAre.int_at i2 _ _ (by simp at h; simp [h])
  have z := Ob.RcOp.tuples_gt (A := X.A) (s := s) (e := fun j => decide (ns.getD j 0 = ms.getD j 0)) (r := fun j => decide (ms.getD j 0 < ns.getD j 0)) p1 p2 hu
    (fun j h h' => by
      obtain ⟨t, e⟩ := g1 j h
      obtain ⟨t', e'⟩ := g2 j h'
      rw [e, e', show decide (ns.getD j 0 = ms.getD j 0) = (ns.getD j 0 == ms.getD j 0) by rw [Bool.eq_iff_iff]; simp]
      exact SeqAt.EqAt.int_int _ _ _ _)
    (fun j h h' _ => by
      obtain ⟨t, e⟩ := g1 j h
      obtain ⟨t', e'⟩ := g2 j h'
      rw [e, e']
      exact Ob.RcOp.gt_int _ _ _ _)
  rw [n1, n2] at z
  exact z X.prog X.w X.xe (EP X pins σ Q) ⟨.bl _, H, I, rfl, q⟩
def cGt : PyData → PyData → Option PyData
  | .int i, .int j => some (.bool (decide (j < i)))
  | .tuple xs, .tuple ys => match asInts xs, asInts ys with
    | some l, some k => some (.bool (gtI l k))
    | _, _ => none
  | _, _ => none
theorem o_gt (hK : X.K = C.K) (hu : X.A.units < cLine) : OpR X (compareOp .Gt) (RD2 C .va cGt) := by
  refine op_imp (op_gt.or (o_gtT hu)) fun x y H Q ⟨F, G, d, e, r, fg, gh, hx, hy, ho, q⟩ => ?_
  unfold cGt at ho
  split at ho
  · cases ho
    exact .inl ⟨_, _, hx.int, hy.int, q.plain fg gh (.bl _)⟩
  · split at ho
    · rename_i l k e1 e2
      cases ho
      rw [asInts_some e1] at hx
      rw [asInts_some e2] at hy
      obtain ⟨a, vs, rfl, h1, h2⟩ := hx.tuple fg gh
      obtain ⟨b, us, rfl, h3, h4⟩ := hy.tuple fg gh
      rw [dqa_ints h2] at h1
      rw [dqa_ints h4] at h3
      exact .inr ⟨a, b, l, k, rfl, rfl, hK ▸ h1, hK ▸ h3, q.plain fg gh (.bl _)⟩
    · cases ho
  · cases ho
/-! is None -/
def isN : PyData → Bool
  | .none => true
  | _ => false
def cIsN (d e : PyData) : Option PyData := match e with
  | .none => some (.bool (isN d))
  | .bool b => match d with
    | .bool a => some (.bool (decide (a = b)))
    | _ => none
  | _ => none
def cNotN (d e : PyData) : Option PyData := match e with
  | .none => some (.bool (!isN d))
  | .bool b => match d with
    | .bool a => some (.bool (!decide (a = b)))
    | _ => none
  | _ => none
theorem vw_none {F G : Hp} {v : V} {d : PyData} (h : Vw C F G v d) : decide (v = .non) = isN d := by
  rcases h with h | ⟨a, vs, xs, e1, e2, _, _⟩
  · cases h <;> rfl
  · subst e1
    subst e2
    rfl
theorem isN_eq {d : PyData} (h : isN d = true) : d = .none := by
  cases d <;> first | rfl | cases h
theorem o_isN : OpR X (compareOp .Is) (RD2 C .va cIsN) := by
  refine op_imp (op_isN.or op_is_bl) fun x y H Q ⟨F, G, d, e, r, fg, gh, hx, hy, ho, q⟩ => ?_
  unfold cIsN at ho
  split at ho
  · cases ho
    refine .inl ⟨hy.none, ?_⟩
    rw [vw_none hx]
    exact q.plain fg gh (.bl _)
  · split at ho
    · cases ho
      exact .inr ⟨_, _, hx.bool, hy.bool, q.plain fg gh (.bl _)⟩
    · cases ho
  · cases ho
theorem o_notN : OpR X (compareOp .IsNot) (RD2 C .va cNotN) := by
  refine op_imp (op_notN.or op_isnot_bl) fun x y H Q ⟨F, G, d, e, r, fg, gh, hx, hy, ho, q⟩ => ?_
  unfold cNotN at ho
  split at ho
  · cases ho
    refine .inl ⟨hy.none, ?_⟩
    rw [vw_none hx]
    exact q.plain fg gh (.bl _)
  · split at ho
    · cases ho
      exact .inr ⟨_, _, hx.bool, hy.bool, q.plain fg gh (.bl _)⟩
    · cases ho
  · cases ho
/-! in -/
def cIn (d e : PyData) : Option PyData := match e with
  | .list xs => if SeqAt.shaped d = true ∧ SeqAt.shaped (.list xs) = true then some (.bool (xs.any fun z => PyData.eqv z d)) else none
  | .tuple xs => if SeqAt.shaped d = true ∧ SeqAt.shaped (.tuple xs) = true then some (.bool (xs.any fun z => PyData.eqv z d)) else none
  | .str t => match d with
    | .str s => some (.bool (!(Builtin.Str.occurrences t s 0 t.length 1).isEmpty))
    | _ => none
  | _ => none
def bNot (o : Option PyData) : Option PyData := match o with
  | some (.bool b) => some (.bool (!b))
  | _ => none
def cNotIn (d e : PyData) : Option PyData := bNot (cIn d e)
def rInT (K : PySem.W.Frag) (b : Bool) : R2 := fun x y H Q => ∃ d ds, Dp K H x d ∧ Dp K H y (.tuple ds) ∧ SeqAt.shaped d = true ∧ SeqAt.shaped (.tuple ds) = true ∧ Q (.bl (b ^^ ds.any fun z => PyData.eqv z d)) H
theorem op_inT (hu : X.A.units + 65 < cLine) : OpR X (compareOp .In) (rInT X.K false) := by
  intro pins s σ H x y v u Q I rx ry h
  obtain ⟨d, ds, hd, he, sd, se, q⟩ := h
  obtain ⟨as, r1⟩ := Dp.reads I d x v hd rx
  obtain ⟨bs, r2⟩ := Dp.reads I (.tuple ds) y u he ry
  rw [Bool.false_xor] at q
  exact SeqAt.in_tuple_reads r2 r1 (SeqAt.canLay_of_shaped se) (SeqAt.canLay_of_shaped sd) (room_in_shaped sd hu) ⟨.bl _, H, I, rfl, q⟩
theorem op_notInT (hu : X.A.units + 65 < cLine) : OpR X (compareOp .NotIn) (rInT X.K true) := by
  intro pins s σ H x y v u Q I rx ry h
  obtain ⟨d, ds, hd, he, sd, se, q⟩ := h
  obtain ⟨as, r1⟩ := Dp.reads I d x v hd rx
  obtain ⟨bs, r2⟩ := Dp.reads I (.tuple ds) y u he ry
  rw [Bool.true_xor] at q
  exact SeqAt.notIn_tuple_reads r2 r1 (SeqAt.canLay_of_shaped se) (SeqAt.canLay_of_shaped sd) (room_in_shaped sd hu) ⟨.bl _, H, I, rfl, q⟩
theorem o_in (hK : X.K = C.K) (hu : X.A.units + 65 < cLine) : OpR X (compareOp .In) (RD2 C .va cIn) := by
  refine op_imp ((op_inD hu).or ((op_inT hu).or op_in_str)) fun x y H Q ⟨F, G, d, e, r, fg, gh, hx, hy, ho, q⟩ => ?_
  unfold cIn at ho
  rw [hK]
  split at ho
  · obtain ⟨⟨h1, h2⟩, rfl⟩ := bool_ite ho
    exact .inl ⟨d, _, dq_dp (dp_same gh (hx.dp fg)), dq_dp (dp_same gh (hy.dp fg)), h1, h2, q.plain fg gh (.bl _)⟩
  · obtain ⟨⟨h1, h2⟩, rfl⟩ := bool_ite ho
    exact .inr (.inl ⟨d, _, dq_dp (dp_same gh (hx.dp fg)), dq_dp (dp_same gh (hy.dp fg)), h1, h2, by rw [Bool.false_xor]; exact q.plain fg gh (.bl _)⟩)
  · split at ho
    · cases ho
      exact .inr (.inr ⟨_, _, hx.str, hy.str, q.plain fg gh (.bl _)⟩)
    · cases ho
  · cases ho
theorem o_notIn (hK : X.K = C.K) (hu : X.A.units + 65 < cLine) : OpR X (compareOp .NotIn) (RD2 C .va cNotIn) := by
  refine op_imp ((op_notInD hu).or ((op_notInT hu).or op_notin_str)) fun x y H Q ⟨F, G, d, e, r, fg, gh, hx, hy, ho, q⟩ => ?_
  unfold cNotIn bNot at ho
  split at ho
  · rename_i b hb
    cases ho
    unfold cIn at hb
    rw [hK]
    split at hb
    · obtain ⟨⟨h1, h2⟩, e⟩ := bool_ite hb
      cases e
      exact .inl ⟨d, _, dq_dp (dp_same gh (hx.dp fg)), dq_dp (dp_same gh (hy.dp fg)), h1, h2, q.plain fg gh (.bl _)⟩
    · obtain ⟨⟨h1, h2⟩, e⟩ := bool_ite hb
      cases e
      exact .inr (.inl ⟨d, _, dq_dp (dp_same gh (hx.dp fg)), dq_dp (dp_same gh (hy.dp fg)), h1, h2, by rw [Bool.true_xor]; exact q.plain fg gh (.bl _)⟩)
    · split at hb
      · cases hb
        exact .inr (.inr ⟨_, _, hx.str, hy.str, q.plain fg gh (.bl _)⟩)
      · cases hb
    · cases hb
  · cases ho
end
end Dv
set_option Elab.async false
set_option linter.all false
set_option maxRecDepth 100000
set_option maxHeartbeats 1000000
/-! Part 5: subscripts, slices, built-in functions on data. -/
namespace Dv
open PySem PySem.Spec PyProof.Rows L2

section
variable {X : Cx} {C : Ct} {m : Mode} {a b : Expr} {fa fb : Ex} {pos : Pos}
def bIx : PyData → PyData → Option PyData
  | .list xs, .int i => atI xs i
  | .tuple xs, .int i => atI xs i
  | .str z, .int i => if z.length ≤ sizeLine then (atI z.cps.toList i).map fun c => .str ⟨#[c]⟩ else none
  | _, _ => none
theorem atI_dq {K : PySem.W.Frag} {F : Hp} {vs : List V} {xs : List PyData} {i : Int} {d : PyData} (h : DqAll K F vs xs) (e : atI xs i = some d) : ∃ v, atI vs i = some v ∧ Dq K F v d := by
  unfold atI at e ⊢
  rw [dpa_len h]
  cases q : ixN xs.length i with
  | none => rw [q] at e; cases e
  | some j =>
    rw [q] at e
    exact dpa_get' h e
theorem o_ix (hK : X.K = C.K) : IxR X (RD2 C .va bIx) := by
  intro value slice p s σ H x y v u Q I rx ry ⟨F, G, d, e, r, fg, gh, hx, hy, ho, q⟩ hsub
  refine ix_seq (X := X) value slice p s σ H x y v u Q I rx ry ?_ hsub
  unfold bIx at ho
  split at ho
  · obtain ⟨a, vs, rfl, h1, h2⟩ := hx.list fg gh
    obtain ⟨z, hz, dz⟩ := atI_dq h2 ho
    exact .inl ⟨a, vs, _, z, rfl, hy.int, SqL.of h1, hz, q.plain fg gh dz⟩
  · obtain ⟨a, vs, rfl, h1, h2⟩ := hx.tuple fg gh
    obtain ⟨z, hz, dz⟩ := atI_dq h2 ho
    exact .inr (.inl ⟨a, vs, _, z, rfl, hy.int, hK ▸ h1, hz, q.plain fg gh dz⟩)
  · rename_i z i
    split at ho
    · rename_i hl
      cases hc : atI z.cps.toList i with
      | none => rw [hc] at ho; cases ho
      | some c =>
        rw [hc] at ho
        cases ho
        exact .inr (.inr ⟨z, i, c, hx.str, hy.int, hl, hc, q.plain fg gh (.str _)⟩)
    · cases ho
  · cases ho
theorem x_ix {f : PyData → PyData → Option PyData} {m1 m2 : Mode} (ho : IxR X (RD2 C .va f)) (ha : PE X a (TX C m1 fa)) (hb : PE X b (TX C m2 fb)) (hs : PlainIx b) : PE X (.Subscript a b pos) (TX C .va (e2 f fa fb)) := by
  refine pe_weak (pe_ix ho ha hb hs) fun σ H Q ⟨ρ, W, F, G, d, W', R, ef, q⟩ => ?_
  obtain ⟨x, W1, y, ea, eb, hop⟩ := e2_some ef
  refine ⟨ρ, W, F, G, x, W1, R, ea, fun v F1 G1 H1 x1 R1 r1 => ⟨ρ, W1, F1, G1, y, _, R1, eb, fun v2 F2 G2 H2 x2 R2 r2 => ?_⟩⟩
  refine ⟨F2, G2, x, y, _, R2.fg, R2.gh, r1.vw.ext x2.f x2.g, r2.vw, hop, fun v3 F3 G3 H3 g3 r3 => ?_⟩
  exact q v3 F3 G3 H3 ((x1.trans x2).trans g3.ext) (R2.gr g3) r3

/-! ### slices -/
def cutG {α : Type} (xs : List α) (lo hi : Option Int) : List α := (xs.drop (HT.sIx xs.length 0 lo)).take (HT.sIx xs.length xs.length hi - HT.sIx xs.length 0 lo)
def oSl (d : PyData) (lo hi : Option Int) : Option PyData := match d with
  | .list xs => some (.list (cutG xs lo hi))
  | .tuple xs => some (.tuple (cutG xs lo hi))
  | .str z => if z.length ≤ sizeLine then some (.str (cutS z lo hi)) else none
  | _ => none
theorem cutG_whole {α : Type} {xs : List α} {lo hi : Option Int} (h : HT.sIx xs.length 0 lo = 0 ∧ HT.sIx xs.length xs.length hi = xs.length) : cutG xs lo hi = xs := by
  unfold cutG
  rw [h.1, h.2, List.drop_zero, Nat.sub_zero, List.take_length]
theorem cut_dq {K : PySem.W.Frag} {F : Hp} {vs : List V} {xs : List PyData} {lo hi : Option Int} (h : DqAll K F vs xs) : DqAll K F (cutV vs lo hi) (cutG xs lo hi) := by
  unfold cutV cutG
  rw [dpa_len h]
  exact dpa_take _ (dpa_drop _ h)
def RDs (C : Ct) : V → Option Int → Option Int → Hp → VK → Prop := fun x lo hi H Q => ∃ F G d r, Same F G ∧ Same G H ∧ Vw C F G x d ∧ oSl d lo hi = some r ∧ End1 C .nw F G H r Q
theorem slr_imp {r r' : V → Option Int → Option Int → Hp → VK → Prop} (h : SlR X r) (w : ∀ x lo hi H Q, r' x lo hi H Q → r x lo hi H Q) : SlR X r' :=
  fun p s σ H x v vl vu lo hi sl Q I rx hs pl pu q => h p s σ H x v vl vu lo hi sl Q I rx hs pl pu (w _ _ _ _ _ q)
theorem o_sl (hK : X.K = C.K) : SlR X (RDs C) := by
  refine slr_imp (sl_list.or (sl_tupA.or sl_str)) fun x lo hi H Q ⟨F, G, d, r, fg, gh, hx, ho, q⟩ => ?_
  unfold oSl at ho
  split at ho
  · cases ho
    obtain ⟨a, vs, rfl, h1, h2⟩ := hx.list fg gh
    exact .inl ⟨a, vs, rfl, SqL.of h1, fun p n => q.lst fg gh (cut_dq h2) n⟩
  · cases ho
    obtain ⟨a, vs, rfl, h1, h2⟩ := hx.tuple fg gh
    refine .inr (.inl ⟨a, vs, rfl, hK ▸ h1, fun w => ?_, fun w p n => q.tup fg gh (cut_dq h2) n⟩)
    rw [dpa_len h2] at w
    rw [cutG_whole w] at q
    refine q.plainN fg gh ?_
    rcases hx with hx | ⟨_, _, _, _, z, _⟩
    · exact hx
    · cases z
  · obtain ⟨hz, rfl⟩ := bool_ite ho
    exact .inr (.inr ⟨_, hx.str, hz, q.plainN fg gh (.str _)⟩)
  · cases ho
/-- a part of a slice -/
abbrev Px := Rho → Src → Option (Option Int × Src)
def pNo : Px := fun _ W => some (none, W)
def pOf (f : Ex) : Px := fun ρ W => match f ρ W with
  | some (.int i, W1) => some (some i, W1)
  | _ => none
def TP0 (C : Ct) (f : Px) : TO := fun σ H Q => ∃ ρ W F G i W', Rel C ρ W F G σ H ∧ f ρ W = some (i, W') ∧ ∀ F' G' H', Ext C.Z F G H F' G' H' → Rel C ρ W' F' G' σ H' → Q i H'
theorem po_weak {o : Option Expr} {t t' : TO} (h : PO X o t) (w : ∀ σ H Q, t' σ H Q → t σ H Q) : PO X o t' := ⟨fun p s σ H Q I q => h.run p s σ H Q I (w σ H Q q)⟩
theorem p_no : PO X none (TP0 C pNo) := po_weak po_none fun σ H Q ⟨ρ, W, F, G, d, W', R, ef, q⟩ => by
  cases ef
  exact q F G H (Ext.refl ..) R
theorem p_of (h : PE X a (TX C m fa)) : PO X (some a) (TP0 C (pOf fa)) := po_weak (po_some h) fun σ H Q ⟨ρ, W, F, G, d, W', R, ef, q⟩ => by
  unfold pOf at ef
  split at ef
  · rename_i i W1 h1
    cases ef
    exact ⟨ρ, W, F, G, _, _, R, h1, fun v F1 G1 H1 x1 R1 r1 => ⟨i, r1.vw.int, q F1 G1 H1 x1 R1⟩⟩
  · cases ef
def eSl (a : Ex) (lo hi : Px) : Ex := fun ρ W => match a ρ W with
  | some (x, W1) => match lo ρ W1 with
    | some (l, W2) => match hi ρ W2 with
      | some (u, W3) => (oSl x l u).map fun r => (r, W3)
      | none => none
    | none => none
  | none => none
theorem x_sl {lo hi : Option Expr} {fl fh : Px} {p2 : Pos} (ho : SlR X (RDs C)) (ha : PE X a (TX C m fa)) (hl : PO X lo (TP0 C fl)) (hh : PO X hi (TP0 C fh)) : PE X (.Subscript a (.Slice lo hi none p2) pos) (TX C .nw (eSl fa fl fh)) := by
  refine pe_weak (pe_slice ho ha hl hh) fun σ H Q ⟨ρ, W, F, G, d, W', R, ef, q⟩ => ?_
  unfold eSl at ef
  split at ef
  · rename_i x W1 ea
    split at ef
    · rename_i l W2 el
      split at ef
      · rename_i u W3 eu
        cases hop : oSl x l u with
        | none => rw [hop] at ef; cases ef
        | some r =>
          rw [hop] at ef
          cases ef
          refine ⟨ρ, W, F, G, x, W1, R, ea, fun v F1 G1 H1 x1 R1 r1 => ⟨ρ, W1, F1, G1, l, W2, R1, el, fun F2 G2 H2 x2 R2 => ⟨ρ, W2, F2, G2, u, _, R2, eu, fun F3 G3 H3 x3 R3 => ?_⟩⟩⟩
          have x13 := (x1.trans x2).trans x3
          exact ⟨F3, G3, x, _, R3.fg, R3.gh, r1.vw.ext (x2.trans x3).f (x2.trans x3).g, hop, fun v4 F4 G4 H4 g4 r4 => q v4 F4 G4 H4 (x13.trans g4.ext) (R3.gr g4) (r4.back x13)⟩
      · cases ef
    · cases ef
  · cases ef

/-! ### built-in functions -/
theorem vwa_one {F G : Hp} {vs : List V} {d : PyData} (h : VwAll C F G vs [d]) : ∃ v, vs = [v] ∧ Vw C F G v d := by
  cases h with
  | cons a r => cases r; exact ⟨_, rfl, a⟩
theorem vwa_two {F G : Hp} {vs : List V} {d e : PyData} (h : VwAll C F G vs [d, e]) : ∃ v w, vs = [v, w] ∧ Vw C F G v d ∧ Vw C F G w e := by
  cases h with
  | cons a r => cases r with
    | cons b r => cases r; exact ⟨_, _, rfl, a, b⟩
def fLen : List PyData → Option PyData
  | [.list xs] => some (.int xs.length)
  | [.tuple xs] => some (.int xs.length)
  | [.str z] => if z.length ≤ sizeLine then some (.int z.length) else none
  | _ => none
theorem o_len (hK : X.K = C.K) : CallR X (.builtin "len") (RDn C .va fLen) := by
  refine call_imp (call_or call_len_seq call_len_str) fun xs H Q ⟨F, G, ds, r, fg, gh, hx, ho, q⟩ => ?_
  unfold fLen at ho
  rw [hK]
  split at ho
  · cases ho
    obtain ⟨v, rfl, hv⟩ := vwa_one hx
    obtain ⟨a, vs, rfl, h1, h2⟩ := hv.list fg gh
    exact .inl ⟨a, vs, rfl, .inl (SqL.of h1), by rw [dpa_len h2]; exact q.plain fg gh (.int _)⟩
  · cases ho
    obtain ⟨v, rfl, hv⟩ := vwa_one hx
    obtain ⟨a, vs, rfl, h1, h2⟩ := hv.tuple fg gh
    exact .inl ⟨a, vs, rfl, .inr h1, by rw [dpa_len h2]; exact q.plain fg gh (.int _)⟩
  · obtain ⟨hz, rfl⟩ := bool_ite ho
    obtain ⟨v, rfl, hv⟩ := vwa_one hx
    exact .inr ⟨_, by rw [hv.str], hz, q.plain fg gh (.int _)⟩
  · cases ho
def fTuple : List PyData → Option PyData
  | [.list xs] => some (.tuple xs)
  | [.tuple xs] => some (.tuple xs)
  | _ => none
theorem o_tuple (hK : X.K = C.K) : CallR X (.type "tuple") (RDn C .va fTuple) := by
  refine call_imp call_tuple_of fun xs H Q ⟨F, G, ds, r, fg, gh, hx, ho, q⟩ => ?_
  unfold fTuple at ho
  rw [hK]
  split at ho
  · cases ho
    obtain ⟨v, rfl, hv⟩ := vwa_one hx
    obtain ⟨a, vs, rfl, h1, h2⟩ := hv.list fg gh
    exact ⟨a, vs, rfl, .inl ⟨SqL.of h1, fun p n => q.tup fg gh h2 n⟩⟩
  · cases ho
    obtain ⟨v, rfl, hv⟩ := vwa_one hx
    obtain ⟨a, vs, rfl, h1, h2⟩ := hv.tuple fg gh
    refine ⟨a, vs, rfl, .inr ⟨h1, q.plain fg gh ?_⟩⟩
    rcases hv with hv | ⟨_, _, _, _, z, _⟩
    · exact hv
    · cases z
  · cases ho
def fList : List PyData → Option PyData
  | [.list xs] => some (.list xs)
  | [.tuple xs] => some (.list xs)
  | _ => none
theorem o_list (hK : X.K = C.K) : CallR X (.type "list") (RDn C .nw fList) := by
  refine call_imp call_list_of fun xs H Q ⟨F, G, ds, r, fg, gh, hx, ho, q⟩ => ?_
  unfold fList at ho
  rw [hK]
  split at ho
  · cases ho
    obtain ⟨v, rfl, hv⟩ := vwa_one hx
    obtain ⟨a, vs, rfl, h1, h2⟩ := hv.list fg gh
    exact ⟨a, vs, rfl, .inl (SqL.of h1), fun p n => q.lst fg gh h2 n⟩
  · cases ho
    obtain ⟨v, rfl, hv⟩ := vwa_one hx
    obtain ⟨a, vs, rfl, h1, h2⟩ := hv.tuple fg gh
    exact ⟨a, vs, rfl, .inr h1, fun p n => q.lst fg gh h2 n⟩
  · cases ho
def fInt : List PyData → Option PyData
  | [.int i] => some (.int i)
  | [.bool b] => some (.int (if b then 1 else 0))
  | _ => none
theorem o_int : CallR X (.type "int") (RDn C .va fInt) := by
  refine call_imp call_int1 fun xs H Q ⟨F, G, ds, r, fg, gh, hx, ho, q⟩ => ?_
  unfold fInt at ho
  split at ho
  · cases ho
    obtain ⟨v, rfl, hv⟩ := vwa_one hx
    exact .inl ⟨_, by rw [hv.int], q.plain fg gh (.int _)⟩
  · cases ho
    obtain ⟨v, rfl, hv⟩ := vwa_one hx
    exact .inr ⟨_, by rw [hv.bool], q.plain fg gh (.int _)⟩
  · cases ho
def fAbs : List PyData → Option PyData
  | [.int i] => some (.int (if i < 0 then -i else i))
  | _ => none
theorem o_abs : CallR X (.builtin "abs") (RDn C .va fAbs) := by
  refine call_imp call_abs fun xs H Q ⟨F, G, ds, r, fg, gh, hx, ho, q⟩ => ?_
  unfold fAbs at ho
  split at ho
  · cases ho
    obtain ⟨v, rfl, hv⟩ := vwa_one hx
    exact ⟨_, by rw [hv.int], q.plain fg gh (.int _)⟩
  · cases ho
def fMax : List PyData → Option PyData
  | [.int i, .int j] => some (.int (if j > i then j else i))
  | _ => none
theorem o_max (hc : X.calm = true) : CallR X (.builtin "max") (RDn C .va fMax) := by
  refine call_imp (call_max2 hc) fun xs H Q ⟨F, G, ds, r, fg, gh, hx, ho, q⟩ => ?_
  unfold fMax at ho
  split at ho
  · cases ho
    obtain ⟨v, w, rfl, hv, hw⟩ := vwa_two hx
    exact ⟨_, _, by rw [hv.int, hw.int], q.plain fg gh (.int _)⟩
  · cases ho
def fGcd : List PyData → Option PyData
  | [.int i, .int j] => some (.int ((Nat.gcd i.natAbs j.natAbs : Nat) : Int))
  | _ => none
theorem o_gcd : CallR X (.builtin "math.gcd") (RDn C .va fGcd) := by
  refine call_imp cr_gcd fun xs H Q ⟨F, G, ds, r, fg, gh, hx, ho, q⟩ => ?_
  unfold fGcd at ho
  split at ho
  · cases ho
    obtain ⟨v, w, rfl, hv, hw⟩ := vwa_two hx
    exact ⟨_, _, by rw [hv.int, hw.int], q.plain fg gh (.int _)⟩
  · cases ho
/-- a module's name for a built-in function -/
theorem x_callM {x : Str} {p : Pos} {id : String} {es : List Expr} {f : List PyData → Option PyData} {fl : Lx} (hc : CallR X (.builtin id) (RDn C m f)) (hg : Gl X x) (hm : X.mg x = some (.builtin id)) (ha : PA X (a :: es) (TV C fl)) (hdb : (x == ("__debug__" : Str)) = false)
    (he : starEach (a :: es) X.env = (false, eval a X.env) :: starEach es X.env) (hpl : (backTo pos (starEach es X.env)).any (·.1) = false) : PE X (.Call (.Name x p) (a :: es) [] pos) (TX C m (eN f fl)) := by
  refine pe_weak (pe_callBfun hc hg hm ha hdb he hpl) fun σ H Q ⟨ρ, W, F, G, d, W', R, ef, q⟩ => ?_
  obtain ⟨xs, h1, h2⟩ := eN_some ef
  exact ⟨ρ, W, F, G, xs, W', R, h1, fun vs F1 G1 H1 x1 R1 r1 => ⟨F1, G1, xs, d, R1.fg, R1.gh, r1, h2, fun v3 F3 G3 H3 g3 r3 => q v3 F3 G3 H3 (x1.trans g3.ext) (R1.gr g3) (r3.back x1)⟩⟩
end
end Dv
set_option Elab.async false
set_option linter.all false
set_option maxRecDepth 100000
set_option maxHeartbeats 1000000
/-! Part 6: repr, isinstance, all, calls of defs by what they are worth. -/
namespace Dv
open PySem PySem.Spec PyProof.Rows L2

section
variable {X : Cx} {C : Ct} {m : Mode} {a b : Expr} {fa fb : Ex} {pos : Pos}
/-- repr -/
def canShow (d : PyData) : Bool := d.showable && !d.hasDict && decide (d.depth ≤ 60) && decide (d.shown.length ≤ sizeLine)
def fRepr : List PyData → Option PyData
  | [d] => if canShow d = true then some (.str d.shown) else none
  | _ => none
theorem o_repr (hK : X.K = C.K) (hg : X.A.guards = some []) (hu : X.A.units + 64 < cLine) : CallR X (.builtin "repr") (RDn C .va fRepr) := by
  intro pins s σ H xs us Q I rx ⟨F, G, ds, r, fg, gh, hx, ho, q⟩
  unfold fRepr at ho
  split at ho
  · rename_i d
    obtain ⟨hs, rfl⟩ := bool_ite ho
    unfold canShow at hs
    simp only [Bool.and_eq_true, decide_eq_true_eq, Bool.not_eq_true'] at hs
    obtain ⟨⟨⟨s1, s2⟩, s3⟩, s4⟩ := hs
    obtain ⟨v, rfl, hv⟩ := vwa_one hx
    obtain ⟨u, rfl, ru⟩ := Vals.one rx
    have hd : Dp X.K H v d := hK ▸ dq_dp (dp_same gh (hv.dp fg))
    obtain ⟨as, rr⟩ := Dp.reads I d v u hd ru
    have fin : ∀ (h' : Heap) (tu tk : Nat), (∀ b o, s.heap.get? b = some o → h'.get? b = some o) → EP X pins σ Q (.str d.shown tu) { s with heap := h', toks := tk } := fun h' tu tk hk =>
      ⟨.str d.shown, H, I.kept hk, ⟨tu, rfl⟩, q.plain fg gh (.str _)⟩
    cases hd with
    | non => cases ru; exact PySem.P.repr_of_none ⟨.str _, H, I.tok _, ⟨_, rfl⟩, q.plain fg gh (.str _)⟩
    | bl b =>
      cases ru
      refine PySem.P.repr_of_bool ⟨.str _, H, I.tok _, ⟨_, rfl⟩, ?_⟩
      cases b <;> exact q.plain fg gh (.str _)
    | int i =>
      obtain ⟨t, rfl⟩ := ru
      refine PySem.P.repr_of_int (of_decide_eq_true s1) ⟨.str _, H, I.tok _, ⟨_, rfl⟩, ?_⟩
      exact q.plain fg gh (.str _)
    | str z =>
      obtain ⟨t, rfl⟩ := ru
      exact PySem.P.repr_of_str ⟨.str _, H, I.tok _, ⟨_, rfl⟩, q.plain fg gh (.str _)⟩ s4
    | lst h1 h2 =>
      cases ru
      exact repr_of_reads' rr s1 (fun z => by rw [s2] at z; cases z) hg (by omega) (fun _ _ e => e) fin s4
    | tup h1 h2 =>
      cases ru
      exact repr_of_reads' rr s1 (fun z => by rw [s2] at z; cases z) hg (by omega) (fun _ _ e => e) fin s4
  · cases ho

/-- isinstance(x, T), T built-in -/
def iTy : PyData → String
  | .none => "NoneType"
  | .bool _ => "bool"
  | .int _ => "int"
  | .str _ => "str"
  | .list _ => "list"
  | .tuple _ => "tuple"
  | .dict _ => "dict"
def isT (T : String) (d : PyData) : Option PyData := (kitB (iTy d) T).map .bool
theorem tyx_of {F G H : Hp} {v : V} {d : PyData} (fg : Same F G) (gh : Same G H) (h : Vw C F G v d) : TyX C.K H v (.type (iTy d)) := by
  have hd := dp_same gh (h.dp fg)
  cases hd with
  | non => exact .base .non
  | bl b => exact .base (.bl b)
  | int i => exact .base (.int i)
  | str z => exact .base (.str z)
  | lst g r => exact .base (.lst g)
  | tup g r =>
    rcases g with g | ⟨o, its, n, h1, h2, _⟩
    · rcases g with g | ⟨o, g⟩
      · exact .base (.tup g)
      · exact .fTuple g
    · exact .kTuple h1 h2
theorem x_isi {p pt : Pos} {T : Str} {tn : String} (hK : X.K = C.K) (hg : Gl X "isinstance") (hm : X.mg "isinstance" = none) (hgT : Gl X T) (hmT : X.mg T = none) (hvT : bootBuiltins T = some (.type tn)) (hn : T ≠ "__name__") (hdT : (T == ("__debug__" : Str)) = false)
    (ha : PE X a (TX C m fa)) (he : starEach [a, .Name T pt] X.env = (false, eval a X.env) :: starEach [.Name T pt] X.env) (hpl : (backTo pos (starEach [.Name T pt] X.env)).any (·.1) = false) :
    PE X (.Call (.Name "isinstance" p) [a, .Name T pt] [] pos) (TX C .va (e1 (isT tn) fa)) := by
  have hT : PE X (.Name T pt) (tC (.ty tn)) := pe_bltn hgT hmT hvT rfl hn hdT
  refine pe_weak (pe_callB call_isi hg hm (by decide +kernel) (pa_cons ha (pa_cons hT pa_nil) he) (by decide) (by decide) he hpl) fun σ H Q ⟨ρ, W, F, G, d, W', R, ef, q⟩ => ?_
  unfold e1 at ef
  cases h1 : fa ρ W with
  | none => rw [h1] at ef; cases ef
  | some p =>
    obtain ⟨x, W1⟩ := p
    rw [h1] at ef
    unfold isT at ef
    cases hk : kitB (iTy x) tn with
    | none => simp only [hk] at ef; cases ef
    | some b =>
      simp only [hk] at ef
      cases ef
      refine ⟨ρ, W, F, G, x, _, R, h1, fun v F1 G1 H1 x1 R1 r1 => ?_⟩
      refine ⟨v, .ty tn, _, _, b, rfl, .ty tn, hK ▸ tyx_of R1.fg R1.gh r1.vw, kit_ty hk, ?_⟩
      exact q _ F1 G1 H1 x1 R1 (.bl b)

/-- all, any over a list of truth values -/
def asBools : List PyData → Option (List Bool)
  | [] => some []
  | .bool b :: r => (asBools r).map fun l => b :: l
  | _ => none
theorem asBools_some : ∀ {ds : List PyData} {l : List Bool}, asBools ds = some l → ds = l.map PyData.bool
  | [], l, h => by cases h; rfl
  | d :: r, l, h => by
    cases d with
    | bool b =>
      have h' : (asBools r).map (fun l => b :: l) = some l := h
      cases e : asBools r with
      | none => rw [e] at h'; cases h'
      | some m =>
        rw [e] at h'
        cases h'
        rw [asBools_some e]
        rfl
    | _ => cases h
theorem dqa_bools {K : PySem.W.Frag} {F : Hp} : ∀ {l : List Bool} {vs : List V}, DqAll K F vs (l.map PyData.bool) → vs = l.map V.bl
  | [], _, .nil => rfl
  | i :: l, _, .cons a r => by
    cases a
    rw [dqa_bools r]
    rfl
def fAll : List PyData → Option PyData
  | [.list xs] => (asBools xs).map fun l => .bool (l.all id)
  | _ => none
def fAny : List PyData → Option PyData
  | [.list xs] => (asBools xs).map fun l => .bool (l.any id)
  | _ => none
theorem o_all (hK : X.K = C.K) (hc : X.calm = true) : CallR X (.builtin "all") (RDn C .va fAll) := by
  refine call_imp (cr_all hc) fun xs H Q ⟨F, G, ds, r, fg, gh, hx, ho, q⟩ => ?_
  unfold fAll at ho
  split at ho
  · rename_i ys
    cases e : asBools ys with
    | none => rw [e] at ho; cases ho
    | some l =>
      rw [e] at ho
      cases ho
      rw [asBools_some e] at hx
      obtain ⟨v, rfl, hv⟩ := vwa_one hx
      obtain ⟨a, vs, rfl, h1, h2⟩ := hv.list fg gh
      rw [dqa_bools h2] at h1
      exact ⟨a, l, rfl, SqL.of h1, q.plain fg gh (.bl _)⟩
  · cases ho
theorem o_any (hK : X.K = C.K) (hc : X.calm = true) : CallR X (.builtin "any") (RDn C .va fAny) := by
  refine call_imp (cr_any hc) fun xs H Q ⟨F, G, ds, r, fg, gh, hx, ho, q⟩ => ?_
  unfold fAny at ho
  split at ho
  · rename_i ys
    cases e : asBools ys with
    | none => rw [e] at ho; cases ho
    | some l =>
      rw [e] at ho
      cases ho
      rw [asBools_some e] at hx
      obtain ⟨v, rfl, hv⟩ := vwa_one hx
      obtain ⟨a, vs, rfl, h1, h2⟩ := hv.list fg gh
      rw [dqa_bools h2] at h1
      exact ⟨a, l, rfl, SqL.of h1, q.plain fg gh (.bl _)⟩
  · cases ho
end

/-! ### what a def is worth -/
inductive Ar where
  | d (x : PyData) | src
abbrev Ctr := List Ar → Src → Option (PyData × Src)
def ArOk (K : PySem.W.Frag) (Z : Zn) (F : Hp) : V → Ar → Prop
  | v, .d x => Dq K F v x
  | v, .src => ∃ p, Z = some p ∧ v = .ref p.1
inductive ArsOk (K : PySem.W.Frag) (Z : Zn) (F : Hp) : List V → List Ar → Prop
  | nil : ArsOk K Z F [] []
  | cons {v x vs xs} : ArOk K Z F v x → ArsOk K Z F vs xs → ArsOk K Z F (v :: vs) (x :: xs)
def spC (K : PySem.W.Frag) (φ : Ctr) (n : Nat) : Sp := fun vs H Q _ => vs.length = n ∧ ∃ Z F as W r W', Same F H ∧ SrcAt Z W H ∧ (∀ a, Zm Z a → F a = none) ∧ ArsOk K Z F vs as ∧ φ as W = some (r, W') ∧
  ∀ v F' H', Same F F' → Same F' H' → SrcAt Z W' H' → (∀ a o, H a = some o → ¬ Zm Z a → H' a = some o) → (∀ a o, H a = some o → F a = none → F' a = none) → Dq K F' v r → Q v H'
abbrev Ax := Rho → Src → Option (List Ar × Src)
def aNil : Ax := fun _ W => some ([], W)
def aCons (a : Ex) (r : Ax) : Ax := fun ρ W => match a ρ W with
  | some (x, W1) => match r ρ W1 with
    | some (xs, W2) => some (.d x :: xs, W2)
    | none => none
  | none => none
def aSrc (i : Nat) (r : Ax) : Ax := fun ρ W => match ρ[i]? with
  | some .src => match r ρ W with
    | some (xs, W2) => some (.src :: xs, W2)
    | none => none
  | _ => none
def TA' (C : Ct) (f : Ax) : TA := fun σ H Q => ∃ ρ W F G as W', Rel C ρ W F G σ H ∧ f ρ W = some (as, W') ∧
  ∀ vs F' G' H', Ext C.Z F G H F' G' H' → Rel C ρ W' F' G' σ H' → ArsOk C.K C.Z F' vs as → Q vs H'
def eCall (φ : Ctr) (a : Ax) : Ex := fun ρ W => match a ρ W with
  | some (as, W1) => φ as W1
  | none => none
theorem ArOk.ext {K : PySem.W.Frag} {Z : Zn} {F F' : Hp} {v : V} {x : Ar} (h : ArOk K Z F v x) (f : Same F F') : ArOk K Z F' v x := match x, h with
  | .d _, h => dp_same f h
  | .src, h => h
section
variable {X : Cx} {C : Ct} {a : Expr} {fa : Ex} {pos : Pos}
theorem a_nil : PA X [] (TA' C aNil) := pa_weak pa_nil fun σ H Q ⟨ρ, W, F, G, ds, W', R, ef, q⟩ => by
  cases ef
  exact q [] F G H (Ext.refl ..) R .nil
theorem a_cons {es : List Expr} {fr : Ax} (ha : PE X a (TX C .va fa)) (hr : PA X es (TA' C fr)) (hs : starEach (a :: es) X.env = (false, eval a X.env) :: starEach es X.env) : PA X (a :: es) (TA' C (aCons fa fr)) := by
  refine pa_weak (pa_cons ha hr hs) fun σ H Q ⟨ρ, W, F, G, ds, W', R, ef, q⟩ => ?_
  unfold aCons at ef
  split at ef
  · rename_i x W1 h1
    split at ef
    · rename_i xs W2 h2
      cases ef
      exact ⟨ρ, W, F, G, x, W1, R, h1, fun v F1 G1 H1 x1 R1 r1 => ⟨ρ, W1, F1, G1, xs, _, R1, h2, fun vs F2 G2 H2 x2 R2 r2 => q _ F2 G2 H2 (x1.trans x2) R2 (.cons (ArOk.ext (x := .d x) r1 x2.f) r2)⟩⟩
    · cases ef
  · cases ef
theorem a_src {i : Nat} {x : Str} {p : Pos} {es : List Expr} {fr : Ax} (hN : X.N[i]? = some x) (hv : Vis X.env.scope x) (hd : (x == ("__debug__" : Str)) = false) (hcd : (x == ("__classdict__" : Str)) = false) (hr : PA X es (TA' C fr))
    (hs : starEach (.Name x p :: es) X.env = (false, eval (.Name x p) X.env) :: starEach es X.env) : PA X (.Name x p :: es) (TA' C (aSrc i fr)) := by
  refine pa_weak (pa_cons (pe_var hN hv hd hcd) hr hs) fun σ H Q ⟨ρ, W, F, G, ds, W', R, ef, q⟩ => ?_
  unfold aSrc at ef
  split at ef
  · rename_i h1
    split at ef
    · rename_i xs W2 h2
      cases ef
      obtain ⟨o, g1, g2⟩ := R.sl i _ h1
      cases g2 with
      | src hz => exact ⟨_, g1, ρ, W, F, G, xs, _, R, h2, fun vs F2 G2 H2 x2 R2 r2 => q _ F2 G2 H2 x2 R2 (.cons ⟨_, hz, rfl⟩ r2)⟩
    · cases ef
  · cases ef
/-- what a call leaves -/
theorem call_end {φ : Ctr} {n : Nat} {as : List Ar} {ρ : Rho} {W W' : Src} {F G H : Hp} {σ : L2.St} {r : PyData} {vs : List V} {Q : VK} {E : XK} (R : Rel C ρ W F G σ H) (hn : vs.length = n) (ha : ArsOk C.K C.Z F vs as) (hφ : φ as W = some (r, W'))
    (q : ∀ v F' G' H', Ext C.Z F G H F' G' H' → Rel C ρ W' F' G' σ H' → Res .va C F' G' H v r → Q v H') : spC C.K φ n vs H Q E := by
  refine ⟨hn, C.Z, F, as, W, r, W', R.fh, R.src, fun b hz => R.fg.free (R.gz b hz), ha, hφ, fun v F' H' f1 f2 s1 k1 k2 d1 => ?_⟩
  let G' : Hp := fun b => match F' b with
    | some o => some o
    | none => G b
  have fg' : Same F' G' := fun b o h => by show (match F' b with | some o => some o | none => G b) = some o; rw [h]
  have gg : Same G G' := fun b o h => by
    show (match F' b with | some o => some o | none => G b) = some o
    cases e : F' b with
    | none => exact h
    | some o' =>
      have hb : H b = some o := R.gh b o h
      cases e2 : F b with
      | none => rw [k2 b o hb e2] at e; cases e
      | some o2 =>
        have := f1 b o2 e2
        rw [this] at e
        have h3 := R.fg b o2 e2
        rw [h] at h3
        show some o' = some o
        rw [← e, ← h3]
  have gh' : Same G' H' := fun b o h => by
    have h : (match F' b with | some o => some o | none => G b) = some o := h
    cases e : F' b with
    | some o' => rw [e] at h; rw [← h]; exact f2 b o' e
    | none =>
      rw [e] at h
      exact k1 b o (R.gh b o h) fun hz => by rw [R.gz b hz] at h; cases h
  have x1 : Ext C.Z F G H F' G' H' := by
    refine ⟨f1, gg, k2, fun b o h n => ?_, k1, fun b hz h => ?_⟩
    · show (match F' b with | some o => some o | none => G b) = none
      have fn : F b = none := R.fg.free n
      rw [k2 b o h fn]
      exact n
    · obtain ⟨p, hp, e | e⟩ := hz
      · rw [e, (s1 p hp).2.1]; simp
      · rw [e, (s1 p hp).2.2]; simp
  exact q v F' G' H' x1 (R.ext x1 fg' gh' s1) d1
theorem x_call {φ : Ctr} {n k : Nat} {f : Addr} {fd : FuncData} {ps : List Str} {x : Str} {p : Pos} {es : List Expr} {fl : Ax} (hK : X.K = C.K) (Fn : FG X.prog X.w X.K X.mg X.base CX0 k f fd ps (spC C.K φ n)) (hr : Room k X.A) (hgd : X.A.guards = some []) (hg : Gl X x) (hm : X.mg x = some (.ref f)) (hk : PySem.W.keepIn X.K (.ref f) = true) (hb : Binds X.K fd ps [])
    (ha : PA X (a :: es) (TA' C fl)) (hdb : (x == ("__debug__" : Str)) = false) (he : starEach (a :: es) X.env = (false, eval a X.env) :: starEach es X.env) (hpl : (backTo pos (starEach es X.env)).any (·.1) = false) (hlen : ∀ ρ W as W', fl ρ W = some (as, W') → as.length = n) :
    PE X (.Call (.Name x p) (a :: es) [] pos) (TX C .va (eCall φ fl)) := by
  refine pe_weak (pe_fg (E := E0) Fn hr hgd hg hm hk hb pass0 ha hdb he hpl) fun σ H Q ⟨ρ, W, F, G, d, W', R, ef, q⟩ => ?_
  unfold eCall at ef
  split at ef
  · rename_i as W1 h1
    refine ⟨ρ, W, F, G, as, W1, R, h1, fun vs F1 G1 H1 x1 R1 r1 => ?_⟩
    have hl : vs.length = n := by
      rw [← hlen _ _ _ _ h1]
      clear h1 ef
      induction r1 with
      | nil => rfl
      | cons _ _ ih => simp [ih]
    exact call_end R1 hl r1 ef fun v F2 G2 H2 x2 R2 r2 => q v F2 G2 H2 (x1.trans x2) R2 r2
  · cases ef
end
end Dv
set_option Elab.async false
set_option linter.all false
set_option maxRecDepth 100000
set_option maxHeartbeats 1000000
/-! Part 7: targets, statements, loops, comprehensions. -/
namespace Dv
open PySem PySem.Spec PyProof.Rows L2

inductive Out where
  | nx (ρ : Rho) (W : Src)
  | rt (d : PyData) (W : Src)
  | bk (ρ : Rho) (W : Src)
  | ct (ρ : Rho) (W : Src)
abbrev Sx := Rho → Src → Option Out
def Fin (C : Ct) (F0 : Hp) (D : Ends) : Out → Prop
  | .nx ρ W => ∀ F G σ H, Same F0 F → Rel C ρ W F G σ H → D.nx σ H
  | .rt d W => ∀ v ρ F G σ H, Same F0 F → Rel C ρ W F G σ H → Dq C.K F v d → D.rt v H
  | .bk ρ W => ∀ F G σ H, Same F0 F → Rel C ρ W F G σ H → D.bk σ H
  | .ct ρ W => ∀ F G σ H, Same F0 F → Rel C ρ W F G σ H → D.ct σ H
theorem Fin.mono {C : Ct} {F0 F1 : Hp} {D : Ends} {o : Out} (s : Same F0 F1) (h : Fin C F0 D o) : Fin C F1 D o := by
  cases o with
  | nx ρ W => exact fun F G σ H e => h F G σ H (s.trans e)
  | rt d W => exact fun v ρ F G σ H e => h v ρ F G σ H (s.trans e)
  | bk ρ W => exact fun F G σ H e => h F G σ H (s.trans e)
  | ct ρ W => exact fun F G σ H e => h F G σ H (s.trans e)
def TS' (C : Ct) (f : Sx) : TS := fun D σ H => ∃ ρ W F G o, Rel C ρ W F G σ H ∧ f ρ W = some o ∧ Fin C F D o

/-! ### targets -/
abbrev Gx := PyData → Rho → Option Rho
abbrev Gxs := List PyData → Rho → Option Rho
def gN (i : Nat) : Gx := fun d ρ => some (ρ.set i (.d d))
def gT (n : Nat) (g : Gxs) : Gx := fun d ρ => match d with
  | .tuple xs => if xs.length = n then g xs ρ else none
  | _ => none
def gs0 : Gxs := fun xs ρ => match xs with
  | [] => some ρ
  | _ => none
def gsC (g : Gx) (h : Gxs) : Gxs := fun xs ρ => match xs with
  | x :: r => match g x ρ with
    | some ρ1 => h r ρ1
    | none => none
  | [] => none
def TG' (C : Ct) (vs : List Nat) (g : Gx) : TG := fun v σ H Q => ∃ ρ W F G d ρ', Rel C ρ W F G σ H ∧ Dq C.K F v d ∧ g d ρ = some ρ' ∧ ∀ σ', wipe σ' vs = wipe σ vs → Rel C ρ' W F G σ' H → Q σ' H
def TGs' (C : Ct) (vs : List Nat) (g : Gxs) : TGs := fun us σ H Q => ∃ ρ W F G ds ρ', Rel C ρ W F G σ H ∧ DqAll C.K F us ds ∧ g ds ρ = some ρ' ∧ ∀ σ', wipe σ' vs = wipe σ vs → Rel C ρ' W F G σ' H → Q σ' H
theorem pg_weak {X : Cx} {e : Expr} {t t' : TG} (h : PG X e t) (w : ∀ v σ H Q, t' v σ H Q → t v σ H Q) : PG X e t' := ⟨fun p s σ H v u Q I r q => h.run p s σ H v u Q I r (w v σ H Q q)⟩
theorem pgs_weak {X : Cx} {e : List Expr} {t t' : TGs} (h : PGs X e t) (w : ∀ v σ H Q, t' v σ H Q → t v σ H Q) : PGs X e t' := ⟨fun p s σ H v u Q I r q => h.run p s σ H v u Q I r (w v σ H Q q)⟩
theorem wipe_set {σ : L2.St} {i : Nat} {x : Option V} : ∀ {vs : List Nat}, i ∈ vs → wipe (σ.set i x) vs = wipe σ vs
  | v :: vs, h => by
    show (wipe (σ.set i x) vs).set v none = (wipe σ vs).set v none
    by_cases hi : i ∈ vs
    · rw [wipe_set hi]
    · have e : v = i := by
        rcases List.mem_cons.mp h with z | z
        · exact z.symm
        · exact absurd z hi
      subst e
      have go : ∀ us : List Nat, v ∉ us → wipe (σ.set v x) us = (wipe σ us).set v x := by
        intro us
        induction us with
        | nil => intro _; rfl
        | cons u us ih =>
          intro hn
          show (wipe (σ.set v x) us).set u none = ((wipe σ us).set u none).set v x
          rw [ih (fun z => hn (List.mem_cons_of_mem _ z)), List.set_comm _ _ (fun z => hn (by rw [z]; exact List.mem_cons_self))]
      rw [go vs hi, List.set_set]
theorem wipe_idem {σ : L2.St} (vs : List Nat) : wipe (wipe σ vs) vs = wipe σ vs := by
  have go : ∀ us : List Nat, (∀ u ∈ us, u ∈ vs) → wipe (wipe σ us) vs = wipe σ vs := by
    intro us
    induction us with
    | nil => intro _; rfl
    | cons u us ih =>
      intro h
      show wipe ((wipe σ us).set u none) vs = _
      rw [wipe_set (h u List.mem_cons_self)]
      exact ih fun w hw => h w (List.mem_cons_of_mem _ hw)
  exact go vs fun _ h => h
section
variable {X : Cx} {C : Ct} {pos : Pos} {vs : List Nat}
theorem g_name {i : Nat} {x : Str} (hN : X.N.Nodup) (hi : X.N[i]? = some x) (hx : Loc X.env.scope x) (hf : X.fn x = true ∨ X.env.scope.names.lookup x = some .local) (hv : i ∈ vs) : PG X (.Name x pos) (TG' C vs (gN i)) :=
  pg_weak (pg_name hN hi hx hf) fun v σ H Q ⟨ρ, W, F, G, d, ρ', R, hd, e, q⟩ => by
    cases e
    exact q _ (wipe_set hv) (R.set i hd)
theorem gs_nil : PGs X [] (TGs' C vs gs0) := pgs_weak pgs_nil fun us σ H Q ⟨ρ, W, F, G, ds, ρ', R, hd, e, q⟩ => by
  cases hd with
  | nil => cases e; exact ⟨rfl, q σ rfl R⟩
  | cons _ _ => cases e
theorem gs_cons {e : Expr} {es : List Expr} {g : Gx} {h : Gxs} (h1 : PG X e (TG' C vs g)) (h2 : PGs X es (TGs' C vs h)) (hs : (assignEach (e :: es) X.env).map (·.2) = assign e X.env :: (assignEach es X.env).map (·.2)) : PGs X (e :: es) (TGs' C vs (gsC g h)) :=
  pgs_weak (pgs_cons h1 h2 hs) fun us σ H Q ⟨ρ, W, F, G, ds, ρ', R, hd, e, q⟩ => by
    cases hd with
    | nil => cases e
    | cons a r =>
      unfold gsC at e
      split at e
      · rename_i x r' e1
        cases e1
        split at e
        · rename_i ρ1 e2
          exact ⟨_, _, rfl, ρ, W, F, G, _, ρ1, R, a, e2, fun σ1 w1 R1 => ⟨ρ1, W, F, G, _, ρ', R1, r, e, fun σ2 w2 R2 => q σ2 (w2.trans w1) R2⟩⟩
        · cases e
      · cases e
theorem g_tup {es : List Expr} {k n : Nat} {h : Gxs} (hK : X.K = C.K) (hc : X.calm = true) (hp : PGs X es (TGs' C vs h)) (hn : (assignEach es X.env).length = n) (hst : (assignEach es X.env).findIdx? (·.1) = none) : PG X (.Tuple es k pos) (TG' C vs (gT n h)) :=
  pg_weak (pg_tup hc hp hn hst) fun v σ H Q ⟨ρ, W, F, G, d, ρ', R, hd, e, q⟩ => by
    unfold gT at e
    split at e
    · rename_i xs
      split at e
      · rename_i hl
        cases hd with
        | tup ht r => exact ⟨_, _, rfl, hK ▸ sqt_same R.fh ht, by rw [dpa_len r]; exact hl, ρ, W, F, G, xs, ρ', R, r, e, q⟩
      · cases e
    · cases e

/-! ### blocks -/
def s0 : Sx := fun ρ W => some (.nx ρ W)
def sC (a b : Sx) : Sx := fun ρ W => match a ρ W with
  | some (.nx ρ1 W1) => b ρ1 W1
  | o => o
theorem ss_nil : PSs X [] (TS' C s0) := pss_weak pss_nil fun D σ H ⟨ρ, W, F, G, o, R, e, q⟩ => by
  cases e
  exact q F G σ H (Same.refl _) R
theorem ss_cons {st : Stmt} {rest : List Stmt} {f g : Sx} (h1 : PS X st (TS' C f)) (h2 : PSs X rest (TS' C g)) : PSs X (st :: rest) (TS' C (sC f g)) := pss_weak (pss_cons h1 h2) fun D σ H ⟨ρ, W, F, G, o, R, e, q⟩ => by
  unfold sC at e
  cases hf : f ρ W with
  | none => rw [hf] at e; cases e
  | some o1 =>
    refine ⟨ρ, W, F, G, o1, R, hf, ?_⟩
    rw [hf] at e
    cases o1 with
    | nx ρ1 W1 => exact fun F1 G1 σ1 H1 s1 R1 => ⟨ρ1, W1, F1, G1, o, R1, e, q.mono s1⟩
    | rt d W1 => cases e; exact q
    | bk ρ1 W1 => cases e; exact q
    | ct ρ1 W1 => cases e; exact q
def sPass : Sx := s0
theorem st_pass : PS X (.Pass pos) (TS' C sPass) := ps_weak ps_pass fun D σ H ⟨ρ, W, F, G, o, R, e, q⟩ => by
  cases e
  exact q F G σ H (Same.refl _) R
def sBreak : Sx := fun ρ W => some (.bk ρ W)
theorem st_break : PS X (.Break pos) (TS' C sBreak) := ps_weak ps_break fun D σ H ⟨ρ, W, F, G, o, R, e, q⟩ => by
  cases e
  exact q F G σ H (Same.refl _) R
def sCont : Sx := fun ρ W => some (.ct ρ W)
theorem st_cont : PS X (.Continue pos) (TS' C sCont) := ps_weak ps_continue fun D σ H ⟨ρ, W, F, G, o, R, e, q⟩ => by
  cases e
  exact q F G σ H (Same.refl _) R
def sStuck : Sx := fun _ _ => none
theorem st_stuck {st : Stmt} : PS X st (TS' C sStuck) := ps_weak ps_never fun D σ H ⟨ρ, W, F, G, o, R, e, q⟩ => by cases e
theorem st_doc {x : Str} {j : Nat} {pos' : Pos} : PS X (.Expr (.Constant (.str x) j pos) pos') (TS' C sPass) := ps_weak ps_doc fun D σ H ⟨ρ, W, F, G, o, R, e, q⟩ => by
  cases e
  exact q F G σ H (Same.refl _) R
def sRet (f : Ex) : Sx := fun ρ W => match f ρ W with
  | some (d, W1) => some (.rt d W1)
  | none => none
theorem st_ret {a : Expr} {f : Ex} (h : PE X a (TX C .va f)) : PS X (.Return (some a) pos) (TS' C (sRet f)) := ps_weak (ps_ret h) fun D σ H ⟨ρ, W, F, G, o, R, e, q⟩ => by
  unfold sRet at e
  split at e
  · rename_i d W1 e1
    cases e
    exact ⟨ρ, W, F, G, d, W1, R, e1, fun v F1 G1 H1 x1 R1 r1 => q v ρ F1 G1 σ H1 x1.f R1 r1⟩
  · cases e
def sRetN : Sx := fun ρ W => some (.rt .none W)
theorem st_retN : PS X (.Return none pos) (TS' C sRetN) := ps_weak ps_retN fun D σ H ⟨ρ, W, F, G, o, R, e, q⟩ => by
  cases e
  exact q .non ρ F G σ H (Same.refl _) R .non
def sIf (t : Tx) (a b : Sx) : Sx := fun ρ W => match t ρ W with
  | some (true, W1) => a ρ W1
  | some (false, W1) => b ρ W1
  | none => none
theorem st_if {c : Expr} {a b : List Stmt} {t : Tx} {f g : Sx} (hc : PT X c (TB C t)) (ha : PSs X a (TS' C f)) (hb : PSs X b (TS' C g)) : PS X (.If c a b pos) (TS' C (sIf t f g)) := ps_weak (ps_if hc ha hb) fun D σ H ⟨ρ, W, F, G, o, R, e, q⟩ => by
  unfold sIf at e
  split at e
  · rename_i W1 h1
    refine ⟨ρ, W, F, G, _, W1, R, h1, fun F1 G1 H1 x1 R1 => ?_⟩
    refine iteT ?_
    exact ⟨ρ, W1, F1, G1, o, R1, e, q.mono x1.f⟩
  · rename_i W1 h1
    refine ⟨ρ, W, F, G, _, W1, R, h1, fun F1 G1 H1 x1 R1 => ?_⟩
    refine iteF ?_
    exact ⟨ρ, W1, F1, G1, o, R1, e, q.mono x1.f⟩
  · cases e
def sDrop (f : Ex) : Sx := fun ρ W => match f ρ W with
  | some (_, W1) => some (.nx ρ W1)
  | none => none
theorem st_drop {a : Expr} {m : Mode} {f : Ex} (h : PE X a (TX C m f)) (hs : swapsWith a none pos.line X.env = pure false) : PS X (.Expr a pos) (TS' C (sDrop f)) := ps_weak (ps_expr h hs) fun D σ H ⟨ρ, W, F, G, o, R, e, q⟩ => by
  unfold sDrop at e
  split at e
  · rename_i d W1 e1
    cases e
    exact ⟨ρ, W, F, G, d, W1, R, e1, fun v F1 G1 H1 x1 R1 r1 => q F1 G1 σ H1 x1.f R1⟩
  · cases e
/-! ### assignments -/
def sSet (g : Gx) (f : Ex) : Sx := fun ρ W => match f ρ W with
  | some (d, W1) => match g d ρ with
    | some ρ1 => some (.nx ρ1 W1)
    | none => none
  | none => none
theorem st_set {tg a : Expr} {f : Ex} {g : Gx} (h : PE X a (TX C .va f)) (hg : PG X tg (TG' C vs g)) (hs : swapsWithSole [tg] a pos.line X.env = pure false) (hw : swappedStores [tg] a X.env = pure none) (h1 : (assignEach [tg] X.env).map (·.2) = [assign tg X.env]) :
    PS X (.Assign [tg] a pos) (TS' C (sSet g f)) := ps_weak (ps_asg h hg hs hw h1) fun D σ H ⟨ρ, W, F, G, o, R, e, q⟩ => by
  unfold sSet at e
  split at e
  · rename_i d W1 e1
    split at e
    · rename_i ρ1 e2
      cases e
      exact ⟨ρ, W, F, G, d, W1, R, e1, fun v F1 G1 H1 x1 R1 r1 => ⟨ρ, W1, F1, G1, d, ρ1, R1, r1, e2, fun σ2 w2 R2 => q F1 G1 σ2 H1 x1.f R2⟩⟩
    · cases e
  · cases e
/-- a new list becomes the name's own -/
def sNew (i : Nat) (f : Ex) : Sx := fun ρ W => match f ρ W with
  | some (.list xs, W1) => some (.nx (ρ.set i (.own xs)) W1)
  | some (d, W1) => some (.nx (ρ.set i (.d d)) W1)
  | none => none
theorem Rel.h0 {ρ : Rho} {W : Src} {F G H : Hp} {σ : L2.St} {a : Addr} (R : Rel C ρ W F G σ H) (h : H a = none) : C.H0 a = none := by
  cases e : C.H0 a with
  | none => rfl
  | some o =>
    by_cases hz : Zm C.Z a
    · obtain ⟨o', h'⟩ := R.zh hz
      rw [h] at h'; cases h'
    · rw [R.b2 a o e hz] at h; cases h
theorem own_there {ρ : Rho} {W : Src} {F G H : Hp} {σ : L2.St} {j : Nat} {ys : List PyData} {a : Addr} (R : Rel C ρ W F G σ H) (h1 : ρ[j]? = some (.own ys)) (h2 : σ[j]? = some (some (.ref a))) : ∃ us, G a = some (.lst us) ∧ F a = none ∧ C.H0 a = none ∧ DqAll C.K F us ys := by
  obtain ⟨o, g1, g2⟩ := R.sl j _ h1
  rw [h2] at g1
  cases g1
  cases g2 with
  | own k1 k2 k3 k4 => exact ⟨_, k1, k2, k3, k4⟩
/-- the end of x = a new thing -/
theorem new_end {ρ : Rho} {W W1 : Src} {F G H F1 G1 H1 : Hp} {σ : L2.St} {i : Nat} {d : PyData} {v : V} {o : Out} {D : Ends} (R : Rel C ρ W F G σ H) (x1 : Ext C.Z F G H F1 G1 H1) (R1 : Rel C ρ W1 F1 G1 σ H1) (r : Res .nw C F1 G1 H v d)
    (e : (match (some (d, W1) : Option (PyData × Src)) with | some (.list xs, W1) => some (Out.nx (ρ.set i (.own xs)) W1) | some (d, W1) => some (.nx (ρ.set i (.d d)) W1) | none => none) = some o) (q : Fin C F D o) : D.nx (σ.set i (some v)) H1 := by
  rcases r with ⟨hl, hd⟩ | ⟨a, us, xs, rfl, rfl, h1, h2, h3, h4⟩
  · cases d with
    | list xs => cases hl
    | _ => cases e; exact q F1 G1 _ H1 x1.f (R1.set i hd)
  · cases e
    refine q F1 G1 _ H1 x1.f (R1.setOwn i h1 h2 (R.h0 h3) h4 fun j ys e1 e2 => ?_)
    obtain ⟨us', g1, _⟩ := own_there R e1 e2
    have := R.gh _ _ g1
    rw [h3] at this
    cases this
theorem st_new {a : Expr} {f : Ex} {i : Nat} {x : Str} {pos' : Pos} (hN : X.N.Nodup) (hi : X.N[i]? = some x) (hx : Loc X.env.scope x) (h : PE X a (TX C .nw f)) (hs : swapsWith a (some (.Name x pos')) pos.line X.env = pure false) (hf : X.fn x = true ∨ X.env.scope.names.lookup x = some .local) :
    PS X (.Assign [.Name x pos'] a pos) (TS' C (sNew i f)) := ps_weak (ps_set hN hi hx h hs hf) fun D σ H ⟨ρ, W, F, G, o, R, e, q⟩ => by
  unfold sNew at e
  cases h1 : f ρ W with
  | none => rw [h1] at e; cases e
  | some p =>
    obtain ⟨d, W1⟩ := p
    rw [h1] at e
    exact ⟨ρ, W, F, G, d, W1, R, h1, fun v F1 G1 H1 x1 R1 r1 => new_end R x1 R1 r1 e q⟩
/-- a list is no name's own any more -/
def frz (i : Nat) (ρ : Rho) : Rho := match ρ[i]? with
  | some (.own xs) => ρ.set i (.d (.list xs))
  | _ => ρ
def frzs (is : List Nat) (ρ : Rho) : Rho := is.foldl (fun r i => frz i r) ρ
theorem Rel.frz {ρ : Rho} {W : Src} {F G H : Hp} {σ : L2.St} (R : Rel C ρ W F G σ H) (i : Nat) : ∃ F', Same F F' ∧ Rel C (Dv.frz i ρ) W F' G σ H := by
  unfold Dv.frz
  split
  · rename_i xs hi
    obtain ⟨o, g1, g2⟩ := R.sl i _ hi
    cases g2 with
    | @own a us _ k1 k2 k3 k4 =>
      have sF : Same F (upd F a (.lst us)) := same_none k2
      have fg : Same (upd F a (.lst us)) G := fun b x h => by
        by_cases hb : b = a
        · subst hb; rw [upd_same] at h; rw [k1]; exact h
        · rw [upd_ne hb] at h; exact R.fg b x h
      refine ⟨_, sF, ⟨fg, R.gh, R.src, R.gz, R.b1.trans sF, R.b2, fun b o h n => ?_, by rw [List.length_set]; exact R.len, fun j s e => ?_, fun j k b ys zs e1 e2 e3 e4 => ?_⟩⟩
      · rw [upd_ne (fun z => by subst z; rw [k3] at h; cases h)]
        exact R.b3 b o h n
      · by_cases hj : i = j
        · subst hj
          have hl : i < ρ.length := by simpa using (List.getElem?_eq_some_iff.mp e).1
          rw [List.getElem?_set_self hl] at e
          cases e
          exact ⟨_, g1, .d (.lst upd_same (dpa_same sF k4))⟩
        · rw [List.getElem?_set_ne hj] at e
          obtain ⟨o', q1, q2⟩ := R.sl j s e
          refine ⟨o', q1, ?_⟩
          cases q2 with
          | no => exact .no
          | d h => exact .d (dp_same sF h)
          | src h => exact .src h
          | @own b us2 xs2 p1 p2 p3 p4 =>
            refine .own p1 ?_ p3 (dpa_same sF p4)
            rw [upd_ne (fun z => hj (R.ap i j a xs xs2 hi e g1 (by rw [← z]; exact q1)))]
            exact p2
      · have hj : i ≠ j := fun z => by
          subst z
          have hl : i < ρ.length := by simpa using (List.getElem?_eq_some_iff.mp e1).1
          rw [List.getElem?_set_self hl] at e1
          cases e1
        have hk : i ≠ k := fun z => by
          subst z
          have hl : i < ρ.length := by simpa using (List.getElem?_eq_some_iff.mp e2).1
          rw [List.getElem?_set_self hl] at e2
          cases e2
        rw [List.getElem?_set_ne hj] at e1
        rw [List.getElem?_set_ne hk] at e2
        exact R.ap j k b ys zs e1 e2 e3 e4
  · exact ⟨F, Same.refl _, R⟩
theorem Rel.frzs {ρ : Rho} {W : Src} {F G H : Hp} {σ : L2.St} (is : List Nat) (R : Rel C ρ W F G σ H) : ∃ F', Same F F' ∧ Rel C (Dv.frzs is ρ) W F' G σ H := by
  induction is generalizing ρ F with
  | nil => exact ⟨F, Same.refl _, R⟩
  | cons i is ih =>
    obtain ⟨F1, s1, R1⟩ := R.frz i
    obtain ⟨F2, s2, R2⟩ := ih R1
    exact ⟨F2, s1.trans s2, R2⟩
def sFrz (is : List Nat) (f : Sx) : Sx := fun ρ W => f (frzs is ρ) W
theorem st_frz {st : Stmt} {f : Sx} (is : List Nat) (h : PS X st (TS' C f)) : PS X st (TS' C (sFrz is f)) := ps_weak h fun D σ H ⟨ρ, W, F, G, o, R, e, q⟩ => by
  obtain ⟨F1, s1, R1⟩ := R.frzs is
  exact ⟨_, W, F1, G, o, R1, e, q.mono s1⟩
/-- xs.append(e) -/
def sApp (i : Nat) (f : Ex) : Sx := fun ρ W => match f ρ W with
  | some (d, W1) => match ρ[i]? with
    | some (.own xs) => if xs.length < sizeLine then some (.nx (ρ.set i (.own (xs ++ [d]))) W1) else none
    | _ => none
  | none => none
theorem Rel.mutOwn {ρ : Rho} {W : Src} {F G H : Hp} {σ : L2.St} {i : Nat} {a : Addr} {xs ys : List PyData} {us : List V} (R : Rel C ρ W F G σ H) (h1 : ρ[i]? = some (.own xs)) (h2 : σ[i]? = some (some (.ref a))) (h3 : DqAll C.K F us ys) :
    Rel C (ρ.set i (.own ys)) W F (upd G a (.lst us)) σ (upd H a (.lst us)) := by
  obtain ⟨ws, g1, g2, g3, g4⟩ := own_there R h1 h2
  have hz : ¬ Zm C.Z a := fun z => by rw [R.gz a z] at g1; cases g1
  have hi : i < σ.length := (List.getElem?_eq_some_iff.mp h2).1
  refine ⟨fun b x h => ?_, fun b x h => ?_, fun q hq => ?_, fun b hb => ?_, R.b1, fun b o h n => ?_, R.b3, by rw [List.length_set]; exact R.len, fun j s e => ?_, fun j k b zs1 zs2 e1 e2 e3 e4 => ?_⟩
  · rw [upd_ne (fun z => by subst z; rw [g2] at h; cases h)]
    exact R.fg b x h
  · by_cases hb : b = a
    · subst hb; rw [upd_same] at h ⊢; exact h
    · rw [upd_ne hb] at h ⊢; exact R.gh b x h
  · obtain ⟨k1, k2, k3⟩ := R.src q hq
    refine ⟨k1, ?_, ?_⟩
    · rw [upd_ne (fun z => hz ⟨q, hq, .inl z.symm⟩)]; exact k2
    · rw [upd_ne (fun z => hz ⟨q, hq, .inr z.symm⟩)]; exact k3
  · rw [upd_ne (fun z => hz (by rw [← z]; exact hb))]; exact R.gz b hb
  · rw [upd_ne (fun z => by subst z; rw [g3] at h; cases h)]; exact R.b2 b o h n
  · by_cases hj : i = j
    · subst hj
      rw [List.getElem?_set_self (R.len ▸ hi)] at e
      cases e
      exact ⟨_, h2, .own upd_same g2 g3 h3⟩
    · rw [List.getElem?_set_ne hj] at e
      obtain ⟨o', q1, q2⟩ := R.sl j s e
      refine ⟨o', q1, ?_⟩
      cases q2 with
      | no => exact .no
      | d h => exact .d h
      | src h => exact .src h
      | @own b us2 xs2 p1 p2 p3 p4 =>
        refine .own ?_ p2 p3 p4
        rw [upd_ne (fun z => hj (R.ap i j a xs xs2 h1 e h2 (by rw [← z]; exact q1)))]
        exact p1
  · have back : ∀ (n : Nat) (zs : List PyData), (ρ.set i (.own ys))[n]? = some (.own zs) → ∃ ws, ρ[n]? = some (.own ws) := fun n zs e => by
      by_cases hn : i = n
      · subst hn; exact ⟨_, h1⟩
      · rw [List.getElem?_set_ne hn] at e; exact ⟨_, e⟩
    obtain ⟨w1, k1⟩ := back j zs1 e1
    obtain ⟨w2, k2⟩ := back k zs2 e2
    exact R.ap j k b w1 w2 k1 k2 e3 e4
theorem lOne {f : Ex} {ρ : Rho} {W W' : Src} {d : PyData} (h : f ρ W = some (d, W')) : lCons f lNil ρ W = some ([d], W') := by
  unfold lCons lNil
  rw [h]
theorem st_app {a : Expr} {f : Ex} {i : Nat} {x : Str} {p1 ap cp pos : Pos} (hK : X.K = C.K) (hN : X.N[i]? = some x) (hv : Vis X.env.scope x) (hd : (x == ("__debug__" : Str)) = false) (hcd : (x == ("__classdict__" : Str)) = false) (h : PE X a (TX C .va f))
    (hbase : attributeBase (.Name x p1) "append" X.env (eval (.Name x p1) X.env) = eval (.Name x p1) X.env)
    (hfew : ((backTo cp (starEach [a] X.env)).all (fun x => !x.1) && (backToKw cp (keywordEach [] X.env)).all (fun x => x.1.isSome) && decide ([a].length + ([] : List Keyword).length + (if ([] : List Keyword).isEmpty then 0 else 1) < 30)) = true)
    (hline : (ap.endLine == cp.line) = true) (hs : starEach [a] X.env = (false, eval a X.env) :: starEach [] X.env) (hpl : (backTo cp (starEach [] X.env)).any (·.1) = false)
    (hsw : swapsWith (.Call (.Attribute (.Name x p1) "append" ap) [a] [] cp) none pos.line X.env = pure false) :
    PS X (.Expr (.Call (.Attribute (.Name x p1) "append" ap) [a] [] cp) pos) (TS' C (sApp i f)) := by
  refine ps_weak (ps_expr (pe_bm PySem.F.plainAttrs_list PySem.F.slot_list_append PySem.F.type_list_append mt_append (pe_var hN hv hd hcd) (l_cons h l_nil hs) hbase hfew hline hs hpl) hsw) fun D σ H ⟨ρ, W, F, G, o, R, e, q⟩ => ?_
  unfold sApp at e
  split at e
  · rename_i d W1 e1
    split at e
    · rename_i xs e2
      split at e
      · rename_i hz
        cases e
        obtain ⟨ov, g1, g2⟩ := R.sl i _ e2
        cases g2 with
        | @own b us _ k1 k2 k3 k4 =>
          refine ⟨.ref b, g1, .inl ⟨rfl, us, SqL.of (R.gh _ _ k1)⟩, ρ, W, F, G, [d], W1, R, lOne e1, fun vs F1 G1 H1 x1 R1 r1 => ?_⟩
          cases r1 with
          | @cons y _ ys _ ry rn =>
            cases rn
            refine ⟨b, us, y, rfl, rfl, R1.gh _ _ (x1.g _ _ k1), by rw [dpa_len k4]; exact hz, ?_⟩
            exact q F1 _ σ _ x1.f (R1.mutOwn e2 g1 (dpa_append (dpa_same x1.f k4) (.cons ry .nil)))
      · cases e
    · cases e
  · cases e
end
end Dv
set_option Elab.async false
set_option linter.all false
set_option maxRecDepth 100000
set_option maxHeartbeats 1000000
/-! Part 8: what is walked, for, while, list comprehensions. -/
namespace Dv
open PySem PySem.Spec PyProof.Rows L2

/-- a walk over data -/
structure Walk (C : Ct) (J : It) (F1 : Hp) (ds : List PyData) : Prop where
  go : ∀ (i : Nat) (F G H : Hp), Same F1 F → Same F G → Same G H → i < ds.length → J.go i H ∧ ∀ x H', J.yld i H x H' → ∃ F' G' d, Gr F G H F' G' H' ∧ ds[i]? = some d ∧ Dq C.K F' x d
  stop : ∀ (i : Nat) (F G H : Hp), Same F1 F → Same F G → Same G H → ds.length = i → J.stop i H
def TI' (C : Ct) (f : Lx) : TI := fun σ H R => ∃ ρ W F G ds W', Rel C ρ W F G σ H ∧ f ρ W = some (ds, W') ∧
  ∀ J F' G' H', Ext C.Z F G H F' G' H' → Rel C ρ W' F' G' σ H' → Walk C J F' ds → R J H'
theorem pi_weak {X : Cx} {tg e : Expr} {t t' : TI} (h : PI X tg e t) (w : ∀ σ H Q, t' σ H Q → t σ H Q) : PI X tg e t' := ⟨fun p s σ H Q I q => h.run p s σ H Q I (w σ H Q q)⟩
theorem pi_or {X : Cx} {tg e : Expr} {t t' : TI} (h : PI X tg e t) (h' : PI X tg e t') : PI X tg e (fun σ H Q => t σ H Q ∨ t' σ H Q) := ⟨fun p s σ H Q I q => q.elim (h.run p s σ H Q I) (h'.run p s σ H Q I)⟩
/-- the items of a list or tuple -/
def iSeq (f : Ex) : Lx := fun ρ W => match f ρ W with
  | some (.list xs, W1) => some (xs, W1)
  | some (.tuple xs, W1) => some (xs, W1)
  | _ => none
def rng (lo : Int) (n : Nat) : List PyData := (List.range n).map fun (k : Nat) => PyData.int (lo + k)
def big62 (i : Int) : Bool := -(2 ^ 62) ≤ i && i < 2 ^ 62
def iR1 (f : Ex) : Lx := fun ρ W => match f ρ W with
  | some (.int j, W1) => if big62 j = true then some (rng 0 j.toNat, W1) else none
  | _ => none
def iR2 (f g : Ex) : Lx := fun ρ W => match f ρ W with
  | some (.int i, W1) => match g ρ W1 with
    | some (.int j, W2) => if big62 i = true ∧ big62 j = true then some (rng i (j - i).toNat, W2) else none
    | _ => none
  | _ => none
section
variable {X : Cx} {C : Ct} {tg : Expr} {pos : Pos}
theorem walk_list {K : PySem.W.Frag} {F1 : Hp} {a : Addr} {vs : List V} {ds : List PyData} (hK : K = C.K) (h : F1 a = some (.lst vs)) (r : DqAll C.K F1 vs ds) : Walk C (Itl K a) F1 ds where
  go := fun i F G H f fg gh hi => by
    obtain ⟨d, hd⟩ : ∃ d, ds[i]? = some d := ⟨_, List.getElem?_eq_getElem hi⟩
    obtain ⟨v, hv, dv⟩ := dpa_get' r hd
    have hq : SqL K H a vs := SqL.of (gh _ _ (fg _ _ (f _ _ h)))
    refine ⟨⟨vs, v, hq, hv⟩, fun x H' y => ?_⟩
    obtain ⟨e, y⟩ := y
    subst e
    have := y vs hq
    rw [hv] at this
    cases this
    exact ⟨F, G, d, Gr.refl fg gh, hd, dp_same f dv⟩
  stop := fun i F G H f fg gh hi => ⟨vs, SqL.of (gh _ _ (fg _ _ (f _ _ h))), by rw [dpa_len r]; exact Nat.le_of_eq hi⟩
theorem walk_tuple {K : PySem.W.Frag} {F1 : Hp} {a : Addr} {vs : List V} {ds : List PyData} (hK : K = C.K) (h : SqT C.K F1 a vs) (r : DqAll C.K F1 vs ds) : Walk C (Itt K a) F1 ds where
  go := fun i F G H f fg gh hi => by
    obtain ⟨d, hd⟩ : ∃ d, ds[i]? = some d := ⟨_, List.getElem?_eq_getElem hi⟩
    obtain ⟨v, hv, dv⟩ := dpa_get' r hd
    have hq : SqT K H a vs := hK ▸ sqt_same ((f.trans fg).trans gh) h
    refine ⟨⟨vs, v, hq, hv⟩, fun x H' y => ?_⟩
    obtain ⟨e, y⟩ := y
    subst e
    have := y vs hq
    rw [hv] at this
    cases this
    exact ⟨F, G, d, Gr.refl fg gh, hd, dp_same f dv⟩
  stop := fun i F G H f fg gh hi => ⟨vs, hK ▸ sqt_same ((f.trans fg).trans gh) h, by rw [dpa_len r]; exact Nat.le_of_eq hi⟩
theorem rng_get {lo : Int} {n i : Nat} (h : i < n) : (rng lo n)[i]? = some (.int (lo + i)) := by
  unfold rng
  rw [List.getElem?_map, List.getElem?_range h]
  rfl
theorem rng_len {lo : Int} {n : Nat} : (rng lo n).length = n := by
  unfold rng
  rw [List.length_map, List.length_range]
theorem walk_rng {F1 : Hp} {lo : Int} {n : Nat} : Walk C (Itr lo n) F1 (rng lo n) where
  go := fun i F G H f fg gh hi => by
    rw [rng_len] at hi
    refine ⟨hi, fun x H' y => ?_⟩
    obtain ⟨e, rfl⟩ := y
    subst e
    exact ⟨F, G, _, Gr.refl fg gh, rng_get hi, .int _⟩
  stop := fun i F G H f fg gh hi => by
    rw [rng_len] at hi
    exact Nat.le_of_eq hi
theorem i_seq {a : Expr} {f : Ex} (hK : X.K = C.K) (h : PE X a (TX C .va f)) : PI X tg a (TI' C (iSeq f)) := by
  refine pi_weak (pi_or (pi_list h) (pi_tup h)) fun σ H Q ⟨ρ, W, F, G, ds, W', R, e, q⟩ => ?_
  unfold iSeq at e
  split at e
  · rename_i xs W1 e1
    cases e
    refine .inl ⟨ρ, W, F, G, _, _, R, e1, fun v F1 G1 H1 x1 R1 r1 => ?_⟩
    cases r1 with
    | lst g r => exact ⟨_, rfl, ⟨_, SqL.of (R1.fh _ _ g)⟩, q _ F1 G1 H1 x1 R1 (walk_list hK g r)⟩
  · rename_i xs W1 e1
    cases e
    refine .inr ⟨ρ, W, F, G, _, _, R, e1, fun v F1 G1 H1 x1 R1 r1 => ?_⟩
    cases r1 with
    | tup g r => exact ⟨_, rfl, ⟨_, hK ▸ sqt_same R1.fh g⟩, q _ F1 G1 H1 x1 R1 (walk_tuple hK g r)⟩
  · cases e
theorem big62_of {i : Int} (h : big62 i = true) : -(2 ^ 62) ≤ i ∧ i < 2 ^ 62 := by
  unfold big62 at h
  rw [Bool.and_eq_true, decide_eq_true_eq, decide_eq_true_eq] at h
  exact h
theorem i_rng1 {a : Expr} {f : Ex} {m : Mode} {p : Pos} (hg : Gl X "range") (hm : X.mg "range" = none) (h : PE X a (TX C m f)) (hs : starEach [a] X.env = [(false, eval a X.env)]) (hn : starEach [] X.env = []) : PI X tg (.Call (.Name "range" p) [a] [] pos) (TI' C (iR1 f)) := by
  refine pi_weak (pi_range1 hg hm (pa_cons h pa_nil (by rw [hs, hn])) hs) fun σ H Q ⟨ρ, W, F, G, ds, W', R, e, q⟩ => ?_
  unfold iR1 at e
  split at e
  · rename_i j W1 e1
    obtain ⟨hb, e⟩ := bool_ite e
    cases e
    exact ⟨ρ, W, F, G, _, _, R, e1, fun v F1 G1 H1 x1 R1 r1 => ⟨j, by rw [r1.vw.int], (big62_of hb).1, (big62_of hb).2, q _ F1 G1 H1 x1 R1 walk_rng⟩⟩
  · cases e
theorem i_rng2 {a b : Expr} {f g : Ex} {m m2 : Mode} {p : Pos} (hg : Gl X "range") (hm : X.mg "range" = none) (h : PE X a (TX C m f)) (h2 : PE X b (TX C m2 g)) (hs : starEach [a, b] X.env = [(false, eval a X.env), (false, eval b X.env)]) (hs2 : starEach [b] X.env = [(false, eval b X.env)]) (hn : starEach [] X.env = []) :
    PI X tg (.Call (.Name "range" p) [a, b] [] pos) (TI' C (iR2 f g)) := by
  refine pi_weak (pi_range2 hg hm (pa_cons h (pa_cons h2 pa_nil (by rw [hs2, hn])) (by rw [hs, hs2])) hs hs2) fun σ H Q ⟨ρ, W, F, G, ds, W', R, e, q⟩ => ?_
  unfold iR2 at e
  split at e
  · rename_i i W1 e1
    split at e
    · rename_i j W2 e2
      obtain ⟨⟨hb, hb2⟩, e⟩ := bool_ite e
      cases e
      exact ⟨ρ, W, F, G, _, _, R, e1, fun v F1 G1 H1 x1 R1 r1 => ⟨ρ, W1, F1, G1, _, _, R1, e2, fun v2 F2 G2 H2 x2 R2 r2 => ⟨i, j, by rw [r1.vw.int, r2.vw.int], ⟨(big62_of hb).1, (big62_of hb).2, (big62_of hb2).1, (big62_of hb2).2⟩, q _ F2 G2 H2 (x1.trans x2) R2 walk_rng⟩⟩⟩
    · cases e
  · cases e

/-! ### for -/
def forL (g : Gx) (b : Sx) : List PyData → Sx
  | [], ρ, W => some (.nx ρ W)
  | d :: ds, ρ, W => match g d ρ with
    | none => none
    | some ρ1 => match b ρ1 W with
      | some (.nx ρ2 W2) => forL g b ds ρ2 W2
      | some (.ct ρ2 W2) => forL g b ds ρ2 W2
      | some (.bk ρ2 W2) => some (.nx ρ2 W2)
      | some (.rt d2 W2) => some (.rt d2 W2)
      | none => none
def sFor (it : Lx) (g : Gx) (b : Sx) : Sx := fun ρ W => match it ρ W with
  | some (ds, W1) => forL g b ds ρ W1
  | none => none
/-- behind a turn -/
def Nxt (C : Ct) (F1 : Hp) (g : Gx) (b : Sx) (ds : List PyData) (o : Out) (σ' : L2.St) (H' : Hp) : Prop := ∃ ρ' W' F' G', Rel C ρ' W' F' G' σ' H' ∧ Same F1 F' ∧ forL g b ds ρ' W' = some o
theorem st_for {iter : Expr} {body : List Stmt} {it : Lx} {g : Gx} {b : Sx} {vs : List Nat} (hp : PassesOwn (model X.prog X.w) X.A X.env X.xe) (hc : X.calm = true) (hi : PI X tg iter (TI' C it)) (hg : PG X tg (TG' C vs g)) (hb : PSs X body (TS' C b)) (hs : ∀ x, foldedSetIterable iter X.env x = pure x) :
    PS X (.For tg iter body [] pos) (TS' C (sFor it g b)) := by
  refine ps_weak (ps_for hp hc hi hg hb hs) fun D σ H ⟨ρ, W, F, G, o, R, e, q⟩ => ?_
  unfold sFor at e
  split at e
  · rename_i ds W1 e1
    refine ⟨ρ, W, F, G, ds, W1, R, e1, fun J F1 G1 H1 x1 R1 wk => ?_⟩
    have q1 := q.mono x1.f
    refine ⟨fun i m σ' H' => m = ds.length - i ∧ i ≤ ds.length ∧ Nxt C F1 g b (ds.drop i) o σ' H',
      ⟨_, rfl, Nat.zero_le _, ρ, W1, F1, G1, R1, Same.refl _, e⟩, ?_⟩
    rintro i m σ2 H2 ⟨rfl, hle, ρ2, W2, F2, G2, R2, s2, e2⟩
    by_cases hi : i < ds.length
    · obtain ⟨hgo, hy⟩ := wk.go i F2 G2 H2 s2 R2.fg R2.gh hi
      refine .inr ⟨hgo, Nxt C F1 g b (ds.drop (i + 1)) o, fun σ' H' hN => ⟨_, by omega, rfl, hi, hN⟩, fun x H3 y => ?_⟩
      obtain ⟨F3, G3, d, g3, hd, dd⟩ := hy x H3 y
      have R3 := R2.gr g3
      have s3 := s2.trans g3.f
      have hdr : ds.drop i = d :: ds.drop (i + 1) := by
        obtain ⟨hlt, hx⟩ := List.getElem?_eq_some_iff.mp hd
        rw [List.drop_eq_getElem_cons hlt, hx]
      rw [hdr] at e2
      unfold forL at e2
      split at e2
      · cases e2
      · rename_i ρ3 eg
        refine ⟨ρ2, W2, F3, G3, d, ρ3, R3, dd, eg, fun σ4 w4 R4 => ?_⟩
        split at e2
        · rename_i ρ5 W5 eb
          exact ⟨ρ3, W2, F3, G3, _, R4, eb, fun F5 G5 σ5 H5 s5 R5 => ⟨ρ5, W5, F5, G5, R5, s3.trans s5, e2⟩⟩
        · rename_i ρ5 W5 eb
          exact ⟨ρ3, W2, F3, G3, _, R4, eb, fun F5 G5 σ5 H5 s5 R5 => ⟨ρ5, W5, F5, G5, R5, s3.trans s5, e2⟩⟩
        · rename_i ρ5 W5 eb
          cases e2
          exact ⟨ρ3, W2, F3, G3, _, R4, eb, fun F5 G5 σ5 H5 s5 R5 => q1 F5 G5 σ5 H5 (s3.trans s5) R5⟩
        · rename_i d5 W5 eb
          cases e2
          exact ⟨ρ3, W2, F3, G3, _, R4, eb, fun v ρ5 F5 G5 σ5 H5 s5 R5 r5 => q1 v ρ5 F5 G5 σ5 H5 (s3.trans s5) R5 r5⟩
        · cases e2
    · have hd : ds.drop i = [] := List.drop_eq_nil_of_le (by omega)
      rw [hd] at e2
      cases e2
      exact .inl ⟨wk.stop i F2 G2 H2 s2 R2.fg R2.gh (by omega), q1 F2 G2 σ2 H2 s2 R2⟩
  · cases e

/-! ### while: n turns at most -/
def whL (fz : List Nat) (t : Tx) (b : Sx) : Nat → Sx
  | 0, _, _ => none
  | n + 1, ρ, W => match t (frzs fz ρ) W with
    | some (true, W1) => match b (frzs fz ρ) W1 with
      | some (.nx ρ2 W2) => whL fz t b n ρ2 W2
      | some (.ct ρ2 W2) => whL fz t b n ρ2 W2
      | some (.bk ρ2 W2) => some (.nx ρ2 W2)
      | some (.rt d2 W2) => some (.rt d2 W2)
      | none => none
    | some (false, W1) => some (.nx (frzs fz ρ) W1)
    | none => none
def Wht (C : Ct) (F1 : Hp) (fz : List Nat) (t : Tx) (b : Sx) (o : Out) (n : Nat) (σ' : L2.St) (H' : Hp) : Prop := ∃ ρ' W' F' G', Rel C ρ' W' F' G' σ' H' ∧ Same F1 F' ∧ whL fz t b n ρ' W' = some o
theorem st_while {c : Expr} {body : List Stmt} {t : Tx} {b : Sx} (fz : List Nat) (n : Nat) (hp : PassesOwn (model X.prog X.w) X.A X.env X.xe) (hc : PT X c (TB C t)) (hb : PSs X body (TS' C b)) : PS X (.While c body [] pos) (TS' C (whL fz t b n)) := by
  refine ps_weak (ps_while hp hc hb) fun D σ H ⟨ρ, W, F, G, o, R, e, q⟩ => ?_
  refine ⟨fun m σ' H' => Wht C F fz t b o m σ' H', ⟨n, ρ, W, F, G, R, Same.refl _, e⟩, ?_⟩
  rintro m σ2 H2 ⟨ρ2, W2, F2, G2, R2, s2, e2⟩
  cases m with
  | zero => cases e2
  | succ m =>
    unfold whL at e2
    obtain ⟨F3, s3, R3⟩ := R2.frzs fz
    split at e2
    · rename_i W3 et
      refine ⟨_, W2, F3, G2, true, W3, R3, et, fun F4 G4 H4 x4 R4 => ?_⟩
      have s4 := (s2.trans s3).trans x4.f
      refine iteT ⟨fun σ' H' => Wht C F fz t b o m σ' H', fun σ' H' hN => ⟨m, Nat.lt_succ_self m, hN⟩, ?_⟩
      split at e2
      · rename_i ρ5 W5 eb
        exact ⟨_, W3, F4, G4, _, R4, eb, fun F5 G5 σ5 H5 s5 R5 => ⟨ρ5, W5, F5, G5, R5, s4.trans s5, e2⟩⟩
      · rename_i ρ5 W5 eb
        exact ⟨_, W3, F4, G4, _, R4, eb, fun F5 G5 σ5 H5 s5 R5 => ⟨ρ5, W5, F5, G5, R5, s4.trans s5, e2⟩⟩
      · rename_i ρ5 W5 eb
        cases e2
        exact ⟨_, W3, F4, G4, _, R4, eb, fun F5 G5 σ5 H5 s5 R5 => q F5 G5 σ5 H5 (s4.trans s5) R5⟩
      · rename_i d5 W5 eb
        cases e2
        exact ⟨_, W3, F4, G4, _, R4, eb, fun v ρ5 F5 G5 σ5 H5 s5 R5 r5 => q v ρ5 F5 G5 σ5 H5 (s4.trans s5) R5 r5⟩
      · cases e2
    · rename_i W3 et
      cases e2
      refine ⟨_, W2, F3, G2, false, W3, R3, et, fun F4 G4 H4 x4 R4 => ?_⟩
      exact iteF (q F4 G4 σ2 H4 ((s2.trans s3).trans x4.f) R4)
    · cases e2

/-! ### list comprehensions of one clause -/
def wipeR (ρ : Rho) : List Nat → Rho
  | [] => ρ
  | v :: vs => (wipeR ρ vs).set v .no
theorem Rel.wipe {ρ : Rho} {W : Src} {F G H : Hp} {σ : L2.St} (R : Rel C ρ W F G σ H) : ∀ vs : List Nat, Rel C (wipeR ρ vs) W F G (L2.wipe σ vs) H
  | [] => R
  | v :: vs => by
    have R' := R.wipe vs
    show Rel C ((wipeR ρ vs).set v .no) W F G ((L2.wipe σ vs).set v none) H
    refine ⟨R'.fg, R'.gh, R'.src, R'.gz, R'.b1, R'.b2, R'.b3, by rw [List.length_set, List.length_set]; exact R'.len, fun j s e => ?_, fun j k a xs ys e1 e2 e3 e4 => ?_⟩
    · by_cases hj : v = j
      · subst hj
        have hl : v < (wipeR ρ vs).length := by simpa using (List.getElem?_eq_some_iff.mp e).1
        rw [List.getElem?_set_self hl] at e
        cases e
        exact ⟨none, List.getElem?_set_self (R'.len ▸ hl), .no⟩
      · rw [List.getElem?_set_ne hj] at e ⊢
        exact R'.sl j s e
    · have hj : v ≠ j := fun z => by
        subst z
        have hl : v < (wipeR ρ vs).length := by simpa using (List.getElem?_eq_some_iff.mp e1).1
        rw [List.getElem?_set_self hl] at e1
        cases e1
      have hk : v ≠ k := fun z => by
        subst z
        have hl : v < (wipeR ρ vs).length := by simpa using (List.getElem?_eq_some_iff.mp e2).1
        rw [List.getElem?_set_self hl] at e2
        cases e2
      rw [List.getElem?_set_ne hj] at e1 e3
      rw [List.getElem?_set_ne hk] at e2 e4
      exact R'.ap j k a xs ys e1 e2 e3 e4
def tYs : Tx := fun _ W => some (true, W)
def cmpL (g : Gx) (t : Tx) (e : Ex) (ρ : Rho) : List PyData → List PyData → Src → Option (List PyData × Src)
  | [], acc, W => some (acc, W)
  | d :: ds, acc, W => match g d ρ with
    | none => none
    | some ρ1 => match t ρ1 W with
      | some (true, W1) => match e ρ1 W1 with
        | some (x, W2) => if acc.length < sizeLine then cmpL g t e ρ ds (acc ++ [x]) W2 else none
        | none => none
      | some (false, W1) => cmpL g t e ρ ds acc W1
      | none => none
def eComp (vs : List Nat) (it : Lx) (g : Gx) (t : Tx) (e : Ex) : Ex := fun ρ W => match it ρ W with
  | some (ds, W1) => match cmpL g t e (wipeR ρ vs) ds [] W1 with
    | some (xs, W2) => some (.list xs, W2)
    | none => none
  | none => none
def TBs (C : Ct) (f : Tx) : TT := TB C f
theorem pts_weak {ifs : List Expr} {t t' : TT} (h : PTs X ifs t) (w : ∀ σ H Q, t' σ H Q → t σ H Q) : PTs X ifs t' := ⟨fun p s σ H Q I q => h.run p s σ H Q I (w σ H Q q)⟩
theorem ts_nil : PTs X [] (TB C tYs) := pts_weak pts_nil fun σ H Q ⟨ρ, W, F, G, b, W', R, e, q⟩ => by
  cases e
  exact q F G H (Ext.refl ..) R
theorem ts_one {c : Expr} {t : Tx} (h : PT X c (TB C t)) : PTs X [c] (TB C t) := pts_one h
/-- while the list is made -/
structure Mk (C : Ct) (vs : List Nat) (F1 G1 H1 : Hp) (D : Addr) (acc : List PyData) (W : Src) (F G H : Hp) : Prop where
  x : Ext C.Z F1 G1 H1 F G H
  fg : Same F G
  gh : Same G H
  src : SrcAt C.Z W H
  gd : G D = none
  l : ∃ us, H D = some (.lst us) ∧ DqAll C.K F us acc
theorem comp_read {own : List (Str × Nat)} {it : Lx} {g : Gx} {t : Tx} {e : Ex} {σ : L2.St} {H : Hp} {Q : VK} (h : TX C .nw (eComp (own.map (·.2)) it g t e) σ H Q) : tLc (TI' C it) (TG' C (own.map (·.2)) g) (TB C t) (TX C .va e) (own.map (·.2)) σ H Q := by
  obtain ⟨ρ, W, F, G, d, W', R, ef, q⟩ := h
  generalize own.map (·.2) = vs at ef ⊢
  unfold eComp at ef
  split at ef
  · rename_i ds W1 e1
    split at ef
    · rename_i xs W2 e2
      cases ef
      refine ⟨ρ, W, F, G, ds, W1, R, e1, fun J F1 G1 H1 x1 R1 wk D nD => ?_⟩
      have zD : ¬ Zm C.Z D := fun z => by
        obtain ⟨o, h⟩ := R1.zh z
        rw [nD] at h; cases h
      have gD : G1 D = none := R1.gh.free nD
      have Rw := R1.wipe vs
      have mk0 : Mk C vs F1 G1 H1 D [] W1 F1 G1 (upd H1 D (.lst [])) := by
        refine ⟨⟨Same.refl _, Same.refl _, fun _ _ _ h => h, fun _ _ _ h => h, fun a o h _ => same_none nD a o h, fun a _ h => ?_⟩, R1.fg, R1.gh.trans (same_none nD), srcAt_upd R1.src nD, gD, [], upd_same, .nil⟩
        cases q2 : H1 a with
        | none => exact absurd q2 h
        | some o => rw [same_none nD a o q2]; simp
      refine ⟨fun i m H' => m = ds.length - i ∧ i ≤ ds.length ∧ ∃ acc Wb F' G', Mk C vs F1 G1 H1 D acc Wb F' G' H' ∧ cmpL g t e (wipeR ρ vs) (ds.drop i) acc Wb = some (xs, W'),
        ⟨_, rfl, Nat.zero_le _, [], W1, F1, G1, mk0, e2⟩, ?_⟩
      rintro i m H2 ⟨rfl, hle, acc, Wa, F2, G2, mk, e3⟩
      have Ro : Rel C ρ Wa F2 G2 σ H2 := R1.ext mk.x mk.fg mk.gh mk.src
      have R2 : Rel C (wipeR ρ vs) Wa F2 G2 (L2.wipe σ vs) H2 := Ro.wipe vs
      obtain ⟨us, hD, dus⟩ := mk.l
      by_cases hi : i < ds.length
      · obtain ⟨hgo, hy⟩ := wk.go i F2 G2 H2 mk.x.f mk.fg mk.gh hi
        refine .inr ⟨hgo, fun H' => ∃ acc Wb F' G', Mk C vs F1 G1 H1 D acc Wb F' G' H' ∧ cmpL g t e (wipeR ρ vs) (ds.drop (i + 1)) acc Wb = some (xs, W'), fun H' hN => ⟨_, by omega, rfl, hi, hN⟩, fun x H3 y => ?_⟩
        obtain ⟨F3, G3, d, g3, hd, dd⟩ := hy x H3 y
        have hdr : ds.drop i = d :: ds.drop (i + 1) := by
          obtain ⟨hlt, hx⟩ := List.getElem?_eq_some_iff.mp hd
          rw [List.drop_eq_getElem_cons hlt, hx]
        rw [hdr] at e3
        unfold cmpL at e3
        have R3 := R2.gr g3
        split at e3
        · cases e3
        · rename_i ρ1 eg
          refine ⟨_, Wa, F3, G3, d, ρ1, R3, dd, eg, fun σ4 w4 R4 => ⟨by rw [w4, wipe_idem], ?_⟩⟩
          -- behind the target: the made list stands
          have keep : ∀ {F5 G5 H5 : Hp} {W5 : Src}, Ext C.Z F3 G3 H3 F5 G5 H5 → Same F5 G5 → Same G5 H5 → SrcAt C.Z W5 H5 → Mk C vs F1 G1 H1 D acc W5 F5 G5 H5 := fun {F5 G5 H5 W5} x5 fg5 gh5 sr5 => by
            have h3 : H3 D = some (.lst us) := g3.h _ _ hD
            have g3D : G3 D = none := g3.gn D _ hD mk.gd
            exact ⟨(mk.x.trans g3.ext).trans x5, fg5, gh5, sr5, x5.gn D _ h3 g3D, us, x5.h D _ h3 zD, dpa_same (g3.f.trans x5.f) dus⟩
          split at e3
          · rename_i W5 et
            refine ⟨ρ1, Wa, F3, G3, true, W5, R4, et, fun F5 G5 H5 x5 R5 => ?_⟩
            refine iteT ?_
            split at e3
            · rename_i y W6 ee
              obtain ⟨hz, e3⟩ := (show acc.length < sizeLine ∧ cmpL g t e (wipeR ρ vs) (ds.drop (i + 1)) (acc ++ [y]) W6 = some (xs, W') by
                split at e3
                · exact ⟨by assumption, e3⟩
                · cases e3)
              refine ⟨ρ1, W5, F5, G5, y, W6, R5, ee, fun v F6 G6 H6 x6 R6 r6 => ?_⟩
              have mk6 := keep (x5.trans x6) R6.fg R6.gh R6.src
              obtain ⟨us6, hD6, dus6⟩ := mk6.l
              refine ⟨us6, hD6, by rw [dpa_len dus6]; exact hz, acc ++ [y], W6, F6, G6, ?_, e3⟩
              refine ⟨⟨mk6.x.f, mk6.x.g, mk6.x.fn, mk6.x.gn, fun a o h n => ?_, fun a hz h => ?_⟩, mk6.fg, fun b o h => ?_, fun p hp => ?_, mk6.gd, _, upd_same, dpa_append dus6 (.cons r6 .nil)⟩
              · rw [upd_ne (fun z => by subst z; rw [nD] at h; cases h)]
                exact mk6.x.h a o h n
              · rw [upd_ne (fun z => zD (by rw [← z]; exact hz))]
                exact mk6.x.z a hz h
              · rw [upd_ne (fun z => by subst z; rw [mk6.gd] at h; cases h)]
                exact mk6.gh b o h
              · obtain ⟨k1, k2, k3⟩ := mk6.src p hp
                refine ⟨k1, ?_, ?_⟩
                · rw [upd_ne (fun z => zD ⟨p, hp, .inl z.symm⟩)]; exact k2
                · rw [upd_ne (fun z => zD ⟨p, hp, .inr z.symm⟩)]; exact k3
            · cases e3
          · rename_i W5 et
            refine ⟨ρ1, Wa, F3, G3, false, W5, R4, et, fun F5 G5 H5 x5 R5 => ?_⟩
            exact iteF ⟨acc, W5, F5, G5, keep x5 R5.fg R5.gh R5.src, e3⟩
          · cases e3
      · have hd : ds.drop i = [] := List.drop_eq_nil_of_le (by omega)
        rw [hd] at e3
        cases e3
        refine .inl ⟨wk.stop i F2 G2 H2 mk.x.f mk.fg mk.gh (by omega), ?_⟩
        -- the list joins G
        have hne : ∀ {b : Addr} {o : HO}, G2 b = some o → b ≠ D := fun h z => by
          rw [z, mk.gd] at h
          cases h
        have x2 : Ext C.Z F G H F2 (upd G2 D (.lst us)) H2 := by
          have xx := x1.trans mk.x
          refine ⟨xx.f, fun b o h => ?_, xx.fn, fun b o h n => ?_, xx.h, xx.z⟩
          · rw [upd_ne (hne (xx.g b o h))]; exact xx.g b o h
          · have hb : b ≠ D := fun z => by
              subst z
              obtain ⟨o', h'⟩ := x1.there h
              rw [nD] at h'; cases h'
            rw [upd_ne hb]; exact xx.gn b o h n
        refine q (.ref D) F2 (upd G2 D (.lst us)) H2 x2 (R.ext x2 (fun b o h => ?_) (fun b o h => ?_) mk.src) (.inr ⟨D, us, _, rfl, rfl, upd_same, mk.fg.free mk.gd, ?_, dus⟩)
        · rw [upd_ne (hne (mk.fg b o h))]; exact mk.fg b o h
        · by_cases hb : b = D
          · subst hb; rw [upd_same] at h; rw [hD]; exact h
          · rw [upd_ne hb] at h; exact mk.gh b o h
        · cases hh : H D with
          | none => rfl
          | some o =>
            obtain ⟨o', h'⟩ := x1.there hh
            rw [nD] at h'; cases h'
    · cases ef
  · cases ef
theorem x_comp {elt iter : Expr} {ifs : List Expr} {scope : Scope} {own : List (Str × Nat)} {it : Lx} {g : Gx} {t : Tx} {e : Ex} (hc : X.calm = true) (hN : X.N.Nodup) (hi : PI X tg iter (TI' C it)) (ok : BlkOk X.N X.env.scope scope own)
    (hg : ∀ (s : Shared) (H : Hp) (A : Addr) (cl : List (Str × Addr)) (fp : List Addr), PG (X.blk s H scope (compEnvC scope cl A X.env) fp) tg (TG' C (own.map (·.2)) g))
    (ht : ∀ (s : Shared) (H : Hp) (A : Addr) (cl : List (Str × Addr)) (fp : List Addr), PTs (X.blk s H scope (compEnvC scope cl A X.env) fp) ifs (TB C t))
    (he : ∀ (s : Shared) (H : Hp) (A : Addr) (cl : List (Str × Addr)) (fp : List Addr), PE (X.blk s H scope (compEnvC scope cl A X.env) fp) elt (TX C .va e)) (hs : ∀ x, foldedSetIterable iter X.env x = pure x) :
    PE X (.ListComp elt [⟨tg, iter, ifs, 0⟩] scope pos) (TX C .nw (eComp (own.map (·.2)) it g t e)) := by
  refine pe_weak (pe_lc hc hN hi ok hg ht he hs) fun σ H Q hh => ?_
  exact comp_read hh
end
end Dv
set_option Elab.async false
set_option linter.all false
set_option maxRecDepth 100000
set_option maxHeartbeats 1000000
/-! Part 9: a, b = x, y (new lists become names' own), name op= e, [..] given to a name. -/
namespace Dv
open PySem PySem.Spec PyProof.Rows L2

/-- a value to be stored: frozen, or a new list; Hs: the heap ahead -/
def Rn (n : Bool) (C : Ct) (F G Hs : Hp) (v : V) (d : PyData) : Prop :=
  ((n = false ∨ isL d = false) ∧ Dq C.K F v d) ∨ (n = true ∧ ∃ a us xs, v = .ref a ∧ d = .list xs ∧ G a = some (.lst us) ∧ F a = none ∧ Hs a = none ∧ DqAll C.K F us xs)
def put (n : Bool) (i : Nat) (d : PyData) (ρ : Rho) : Rho := match n, d with
  | true, .list xs => ρ.set i (.own xs)
  | _, d => ρ.set i (.d d)
def NoAl (ρ : Rho) (σ : L2.St) (v : V) : Prop := ∀ (j : Nat) (ys : List PyData), ρ[j]? = some (.own ys) → σ[j]? ≠ some (some v)
theorem put_frz {n : Bool} {i : Nat} {d : PyData} {ρ : Rho} (h : n = false ∨ isL d = false) : put n i d ρ = ρ.set i (.d d) := by
  rcases h with rfl | h
  · rfl
  · cases d <;> first | (cases n <;> rfl) | cases h
section
variable {X : Cx} {C : Ct} {pos : Pos} {ρ : Rho} {W : Src} {F G H Hs : Hp} {σ : L2.St}
theorem Rel.put {n : Bool} {v : V} {d : PyData} (i : Nat) (R : Rel C ρ W F G σ H) (r : Rn n C F G Hs v d) (h0 : ∀ a, Hs a = none → C.H0 a = none) (na : isL d = true → n = true → NoAl ρ σ v) : Rel C (Dv.put n i d ρ) W F G (σ.set i (some v)) H := by
  rcases r with ⟨h, hd⟩ | ⟨rfl, a, us, xs, rfl, rfl, h1, h2, h3, h4⟩
  · rw [put_frz h]; exact R.set i hd
  · exact R.setOwn i h1 h2 (h0 a h3) h4 fun j ys e1 e2 => absurd e2 (na rfl rfl j ys e1)
theorem noal_put {n : Bool} {v u : V} {d : PyData} {i : Nat} (h : NoAl ρ σ u) (hl : i < ρ.length → i < σ.length) (ne : isL d = true → n = true → v ≠ u) : NoAl (put n i d ρ) (σ.set i (some v)) u := by
  intro j ys e1 e2
  by_cases hj : i = j
  · subst hj
    have hi : i < ρ.length := by
      unfold put at e1
      split at e1 <;> simpa using (List.getElem?_eq_some_iff.mp e1).1
    rw [List.getElem?_set_self (hl hi)] at e2
    have e2' : v = u := Option.some.inj (Option.some.inj e2)
    unfold put at e1
    split at e1
    · exact ne rfl rfl e2'
    · rw [List.getElem?_set_self hi] at e1; cases e1
  · rw [List.getElem?_set_ne hj] at e2
    unfold put at e1
    split at e1 <;> (rw [List.getElem?_set_ne hj] at e1; exact h j ys e1 e2)
/-- values to be stored, one behind another -/
inductive Nws (C : Ct) (F G Hs : Hp) : List Bool → List V → List PyData → Prop
  | nil : Nws C F G Hs [] [] []
  | cons {n ns v vs d ds} : Rn n C F G Hs v d → (isL d = true → n = true → ∀ (j : Nat) (m : Bool) (u : V) (e : PyData), ns[j]? = some m → vs[j]? = some u → ds[j]? = some e → isL e = true → m = true → v ≠ u) → Nws C F G Hs ns vs ds → Nws C F G Hs (n :: ns) (v :: vs) (d :: ds)
theorem Rn.ext {Z : Zn} {n : Bool} {F' G' H' : Hp} {v : V} {d : PyData} (r : Rn n C F G Hs v d) (gh : Same G H) (x : Ext Z F G H F' G' H') : Rn n C F' G' Hs v d := by
  rcases r with ⟨h, hd⟩ | ⟨e, a, us, xs, e1, e2, h1, h2, h3, h4⟩
  · exact .inl ⟨h, dp_same x.f hd⟩
  · exact .inr ⟨e, a, us, xs, e1, e2, x.g _ _ h1, x.fn _ _ (gh _ _ h1) h2, h3, dpa_same x.f h4⟩
theorem Rn.back {Z : Zn} {n : Bool} {F0 G0 Hs' : Hp} {v : V} {d : PyData} (r : Rn n C F G Hs' v d) (x : Ext Z F0 G0 Hs F G Hs') : Rn n C F G Hs v d := by
  rcases r with h | ⟨e, a, us, xs, e1, e2, h1, h2, h3, h4⟩
  · exact .inl h
  · refine .inr ⟨e, a, us, xs, e1, e2, h1, h2, ?_, h4⟩
    cases q : Hs a with
    | none => rfl
    | some o =>
      obtain ⟨o', q'⟩ := x.there q
      rw [h3] at q'; cases q'
end
abbrev Nx := Bool × Ex
def lx : List Nx → Lx
  | [] => lNil
  | (_, f) :: r => lCons f (lx r)
def TN (C : Ct) (fs : List Nx) : TA := fun σ H Q => ∃ ρ W F G ds W', Rel C ρ W F G σ H ∧ lx fs ρ W = some (ds, W') ∧
  ∀ vs F' G' H', Ext C.Z F G H F' G' H' → Rel C ρ W' F' G' σ H' → Nws C F' G' H (fs.map (·.1)) vs ds → Q vs H'
theorem res_rn {C : Ct} {F G Hs : Hp} {v : V} {d : PyData} (h : Res .nw C F G Hs v d) : Rn true C F G Hs v d := by
  rcases h with ⟨hl, h⟩ | ⟨a, us, xs, e1, e2, h1, h2, h3, h4⟩
  · exact .inl ⟨.inr hl, h⟩
  · exact .inr ⟨rfl, a, us, xs, e1, e2, h1, h2, h3, h4⟩
theorem rn_own {C : Ct} {F G Hs : Hp} {n : Bool} {v : V} {d : PyData} (h : Rn n C F G Hs v d) (hl : isL d = true) (hn : n = true) : ∃ a us xs, v = .ref a ∧ d = .list xs ∧ G a = some (.lst us) ∧ Hs a = none := by
  rcases h with ⟨h, _⟩ | ⟨e, a, us, xs, e1, e2, h1, h2, h3, h4⟩
  · rcases h with h | h
    · rw [hn] at h; cases h
    · rw [hl] at h; cases h
  · exact ⟨a, us, xs, e1, e2, h1, h3⟩
section
variable {X : Cx} {C : Ct} {pos : Pos}
theorem n_nil : PA X [] (TN C []) := pa_weak pa_nil fun σ H Q ⟨ρ, W, F, G, ds, W', R, ef, q⟩ => by
  cases ef
  exact q [] F G H (Ext.refl ..) R .nil
theorem n_cons {a : Expr} {es : List Expr} {m : Bool} {f : Ex} {fs : List Nx} (ha : PE X a (TX C (if m then .nw else .va) f)) (hr : PA X es (TN C fs)) (hs : starEach (a :: es) X.env = (false, eval a X.env) :: starEach es X.env) : PA X (a :: es) (TN C ((m, f) :: fs)) := by
  refine pa_weak (pa_cons ha hr hs) fun σ H Q ⟨ρ, W, F, G, ds, W', R, ef, q⟩ => ?_
  obtain ⟨x, W1, xs, h1, h2, rfl⟩ := lCons_some ef
  refine ⟨ρ, W, F, G, x, W1, R, h1, fun v F1 G1 H1 x1 R1 r1 => ⟨ρ, W1, F1, G1, xs, W', R1, h2, fun vs F2 G2 H2 x2 R2 r2 => q _ F2 G2 H2 (x1.trans x2) R2 ?_⟩⟩
  have r1' : Rn m C F1 G1 H v x := by
    cases m with
    | true => exact res_rn r1
    | false => exact .inl ⟨.inl rfl, r1⟩
  have back : ∀ {ns : List Bool} {us : List V} {es : List PyData}, Nws C F2 G2 H1 ns us es → Nws C F2 G2 H ns us es := by
    intro ns us es h
    induction h with
    | nil => exact .nil
    | cons a b _ ih =>
      refine .cons ?_ b ih
      rcases a with a | ⟨e, a', us', xs', e1, e2, g1, g2, g3, g4⟩
      · exact .inl a
      · refine .inr ⟨e, a', us', xs', e1, e2, g1, g2, ?_, g4⟩
        cases hh : H a' with
        | none => rfl
        | some o =>
          obtain ⟨o', h'⟩ := x1.there hh
          rw [g3] at h'; cases h'
  refine .cons (r1'.ext R1.gh x2) (fun hl hm j m' u e e1 e2 e3 hle hm' => ?_) (back r2)
  obtain ⟨a', us', ys, rfl, _, g1, _⟩ := rn_own r1' hl hm
  have get : ∀ {ns : List Bool} {us : List V} {es : List PyData}, Nws C F2 G2 H1 ns us es → ∀ (j : Nat), ns[j]? = some m' → us[j]? = some u → es[j]? = some e → Rn m' C F2 G2 H1 u e := by
    intro ns us es h
    induction h with
    | nil => intro j z; simp at z
    | cons a b _ ih =>
      intro j z1 z2 z3
      cases j with
      | zero => simp at z1 z2 z3; subst z1 z2 z3; exact a
      | succ j => exact ih j (by simpa using z1) (by simpa using z2) (by simpa using z3)
  obtain ⟨b', _, _, e', _, _, g2⟩ := rn_own (get r2 j e1 e2 e3) hle hm'
  rw [e']
  intro z
  have z' : a' = b' := V.ref.inj z
  have := R1.gh _ _ g1
  rw [z', g2] at this
  cases this
/-- what is stored -/
def puts : List Nat → List Bool → List PyData → Rho → Option Rho
  | [], [], [], ρ => some ρ
  | i :: is, n :: ns, d :: ds, ρ => puts is ns ds (put n i d ρ)
  | _, _, _, _ => none
def sPars (is : List Nat) (fs : List Nx) : Sx := fun ρ W => match lx fs ρ W with
  | some (ds, W1) => match puts is (fs.map (·.1)) ds ρ with
    | some ρ1 => some (.nx ρ1 W1)
    | none => none
  | none => none
def sets : List Nat → List V → L2.St → L2.St
  | i :: is, v :: vs, σ => sets is vs (σ.set i (some v))
  | _, _, σ => σ
theorem put_len {n : Bool} {i : Nat} {d : PyData} {ρ : Rho} : (put n i d ρ).length = ρ.length := by
  unfold put
  split <;> rw [List.length_set]
theorem Rel.puts {W : Src} {F G H Hs : Hp} (h0 : ∀ a, Hs a = none → C.H0 a = none) : ∀ {is : List Nat} {ns : List Bool} {vs : List V} {ds : List PyData} {ρ ρ' : Rho} {σ : L2.St}, Rel C ρ W F G σ H → Nws C F G Hs ns vs ds → Dv.puts is ns ds ρ = some ρ' →
    (∀ (j : Nat) (m : Bool) (u : V) (e : PyData), ns[j]? = some m → vs[j]? = some u → ds[j]? = some e → isL e = true → m = true → NoAl ρ σ u) → Rel C ρ' W F G (sets is vs σ) H := by
  intro is ns vs ds ρ ρ' σ R h
  induction h generalizing is ρ σ with
  | nil =>
    intro e _
    cases is with
    | nil => cases e; exact R
    | cons => cases e
  | @cons n ns v vs d ds a b _ ih =>
    intro e na
    cases is with
    | nil => cases e
    | cons i is =>
      have R1 := R.put i a h0 fun hl hn => na 0 n v d rfl rfl rfl hl hn
      refine ih R1 e fun j m u e' z1 z2 z3 hl hm => ?_
      exact noal_put (na (j + 1) m u e' (by simpa using z1) (by simpa using z2) (by simpa using z3) hl hm) (fun hi => R.len ▸ hi) fun hl' hn' => b hl' hn' j m u e' z1 z2 z3 hl hm
theorem noal_new {ρ : Rho} {W : Src} {F G H F' G' : Hp} {σ : L2.St} {n : Bool} {v : V} {d : PyData} (R : Rel C ρ W F G σ H) (r : Rn n C F' G' H v d) (hl : isL d = true) (hn : n = true) : NoAl ρ σ v := by
  obtain ⟨a, us, xs, rfl, _, _, h⟩ := rn_own r hl hn
  intro j ys e1 e2
  obtain ⟨us', g1, _⟩ := own_there R e1 e2
  have := R.gh _ _ g1
  rw [h] at this
  cases this
theorem nws_get {F G Hs : Hp} : ∀ {ns : List Bool} {us : List V} {es : List PyData}, Nws C F G Hs ns us es → ∀ (j : Nat) (m : Bool) (u : V) (e : PyData), ns[j]? = some m → us[j]? = some u → es[j]? = some e → Rn m C F G Hs u e := by
  intro ns us es h
  induction h with
  | nil => intro j _ _ _ z; simp at z
  | cons a b _ ih =>
    intro j m u e z1 z2 z3
    cases j with
    | zero => simp at z1 z2 z3; subst z1 z2 z3; exact a
    | succ j => exact ih j m u e (by simpa using z1) (by simpa using z2) (by simpa using z3)
theorem nws_len {F G Hs : Hp} {ns : List Bool} {us : List V} {es : List PyData} (h : Nws C F G Hs ns us es) : us.length = ns.length ∧ es.length = ns.length := by
  induction h with
  | nil => exact ⟨rfl, rfl⟩
  | cons _ _ _ ih => simp [ih.1, ih.2]
/-- the end of a, b, .. = x, y, .. -/
theorem pars_end {is : List Nat} {fs : List Nx} {ρ : Rho} {W W1 : Src} {F G H F1 G1 H1 : Hp} {σ : L2.St} {ds : List PyData} {vs : List V} {o : Out} {D : Ends} (R : Rel C ρ W F G σ H) (x1 : Ext C.Z F G H F1 G1 H1) (R1 : Rel C ρ W1 F1 G1 σ H1) (r : Nws C F1 G1 H (fs.map (·.1)) vs ds)
    (e : (match puts is (fs.map (·.1)) ds ρ with | some ρ1 => some (Out.nx ρ1 W1) | none => none) = some o) (q : Fin C F D o) : D.nx (sets is vs σ) H1 := by
  split at e
  · rename_i ρ1 e1
    cases e
    refine q F1 G1 _ H1 x1.f (R1.puts (Hs := H) (fun a h => R.h0 h) r e1 fun j m u e' z1 z2 z3 hl hm => ?_)
    exact noal_new R (nws_get r j m u e' z1 z2 z3) hl hm
  · cases e
theorem st_par2 {i j : Nat} {x y : Str} {a b : Expr} {fs : List Nx} {px py pt : Pos} {kt k2 : Nat} {pt2 : Pos} (hc : X.calm = true) (hN : X.N.Nodup) (hi : X.N[i]? = some x) (hj : X.N[j]? = some y) (hij : i ≠ j) (hx : X.env.scope.names.lookup x = some .local) (hy : X.env.scope.names.lookup y = some .local) (ha : PA X [a, b] (TN C fs)) (hfs : fs.length = 2)
    (hw : swappedStores [.Tuple [.Name x px, .Name y py] kt pt] (.Tuple [a, b] k2 pt2) X.env = pure (some [x, y])) :
    PS X (.Assign [.Tuple [.Name x px, .Name y py] kt pt] (.Tuple [a, b] k2 pt2) pos) (TS' C (sPars [i, j] fs)) := by
  refine ps_weak (ps_par hc hN hi hj hij hx hy ha hw) fun D σ H ⟨ρ, W, F, G, o, R, e, q⟩ => ?_
  unfold sPars at e
  split at e
  · rename_i ds W1 e1
    refine ⟨ρ, W, F, G, ds, W1, R, e1, fun vs F1 G1 H1 x1 R1 r1 => ?_⟩
    have := (nws_len r1).1
    rw [List.length_map, hfs] at this
    match vs, this with
    | [v, w], _ => exact ⟨v, w, rfl, pars_end R x1 R1 r1 e q⟩
  · cases e
theorem st_par3 {i j l : Nat} {x y z : Str} {a b c : Expr} {fs : List Nx} {px py pz pt : Pos} {kt k2 : Nat} {pt2 : Pos} (hc : X.calm = true) (hN : X.N.Nodup) (hi : X.N[i]? = some x) (hj : X.N[j]? = some y) (hl : X.N[l]? = some z) (hij : i ≠ j) (hil : i ≠ l) (hjl : j ≠ l) (hx : X.env.scope.names.lookup x = some .local) (hy : X.env.scope.names.lookup y = some .local) (hz : X.env.scope.names.lookup z = some .local)
    (ha : PA X [a, b, c] (TN C fs)) (hfs : fs.length = 3)
    (hw : swappedStores [.Tuple [.Name x px, .Name y py, .Name z pz] kt pt] (.Tuple [a, b, c] k2 pt2) X.env = pure (some [x, y, z])) :
    PS X (.Assign [.Tuple [.Name x px, .Name y py, .Name z pz] kt pt] (.Tuple [a, b, c] k2 pt2) pos) (TS' C (sPars [i, j, l] fs)) := by
  refine ps_weak (ps_par3 hc hN hi hj hl hij hil hjl hx hy hz ha hw) fun D σ H ⟨ρ, W, F, G, o, R, e, q⟩ => ?_
  unfold sPars at e
  split at e
  · rename_i ds W1 e1
    refine ⟨ρ, W, F, G, ds, W1, R, e1, fun vs F1 G1 H1 x1 R1 r1 => ?_⟩
    have := (nws_len r1).1
    rw [List.length_map, hfs] at this
    match vs, this with
    | [v, w, u], _ => exact ⟨v, w, u, rfl, pars_end R x1 R1 r1 e q⟩
  · cases e
/-- plain names as targets -/
def TNm (is : List Nat) : TGs := fun us σ H Q => us.length = is.length ∧ Q (sets is us σ) H
theorem nm_nil : PGs X [] (TNm []) := pgs_weak pgs_nil fun us σ H Q ⟨h, q⟩ => by
  cases us with
  | nil => exact ⟨rfl, q⟩
  | cons => cases h
theorem nm_cons {i : Nat} {is : List Nat} {x : Str} {p : Pos} {es : List Expr} (hN : X.N.Nodup) (hi : X.N[i]? = some x) (hx : Loc X.env.scope x) (hf : X.fn x = true ∨ X.env.scope.names.lookup x = some .local) (h : PGs X es (TNm is)) (hs : (assignEach (.Name x p :: es) X.env).map (·.2) = assign (.Name x p) X.env :: (assignEach es X.env).map (·.2)) :
    PGs X (.Name x p :: es) (TNm (i :: is)) := pgs_weak (pgs_cons (pg_name hN hi hx hf) h hs) fun us σ H Q ⟨hl, q⟩ => by
  cases us with
  | nil => cases hl
  | cons u us => exact ⟨u, us, rfl, by simpa using hl, q⟩
/-- through a tuple -/
theorem st_pars {is : List Nat} {ts es : List Expr} {fs : List Nx} {pt pt2 : Pos} {kt k2 : Nat} (hK : X.K = C.K) (hc : X.calm = true) (ha : PA X es (TN C fs)) (hg : PGs X ts (TNm is)) (hn : (assignEach ts X.env).length = is.length) (hst : (assignEach ts X.env).findIdx? (·.1) = none) (hfs : fs.length = is.length) (hz : fs.length ≤ sizeLine)
    (hs : swapsWithSole [.Tuple ts kt pt] (.Tuple es k2 pt2) pos.line X.env = pure false) (hw : swappedStores [.Tuple ts kt pt] (.Tuple es k2 pt2) X.env = pure none) (h1 : (assignEach [.Tuple ts kt pt] X.env).map (·.2) = [assign (.Tuple ts kt pt) X.env]) :
    PS X (.Assign [.Tuple ts kt pt] (.Tuple es k2 pt2) pos) (TS' C (sPars is fs)) := by
  refine ps_weak (ps_asg (pe_tup ha) (pg_tup hc hg hn hst) hs hw h1) fun D σ H ⟨ρ, W, F, G, o, R, e, q⟩ => ?_
  unfold sPars at e
  split at e
  · rename_i ds W1 e1
    refine ⟨ρ, W, F, G, ds, W1, R, e1, fun vs F1 G1 H1 x1 R1 r1 => ?_⟩
    have hl := (nws_len r1).1
    rw [List.length_map] at hl
    refine ⟨by rw [hl]; exact hz, fun p np => ?_⟩
    have gp : G1 p = none := R1.gh.free np
    have zp : ¬ Zm C.Z p := fun z => by
      obtain ⟨o', h⟩ := R1.zh z
      rw [np] at h; cases h
    have R2 : Rel C ρ W1 F1 G1 σ (upd H1 p (.tup vs)) := R1.side _ gp zp (R1.h0 np)
    refine ⟨p, vs, rfl, SqT.of upd_same, by rw [hl, hfs], by rw [hl, hfs], ?_⟩
    have x2 : Ext C.Z F G H F1 G1 (upd H1 p (.tup vs)) := ⟨x1.f, x1.g, x1.fn, x1.gn, fun a o' h n => same_none np a o' (x1.h a o' h n), fun a hz h => by
      have := x1.z a hz h
      cases q2 : H1 a with
      | none => exact absurd q2 this
      | some o' => rw [same_none np a o' q2]; simp⟩
    exact pars_end R x2 R2 r1 e q
  · cases e
/-- name = [..] on one line -/
theorem st_newLc {i : Nat} {y : Str} {py spos : Pos} {elt tg iter : Expr} {ifs : List Expr} {scope : Scope} {own : List (Str × Nat)} {it : Lx} {g : Gx} {t : Tx} {e : Ex} (hc : X.calm = true) (hN : X.N.Nodup) (hy : X.N[i]? = some y) (hyl : X.env.scope.names.lookup y = some .local)
    (hsw : swapsWith (.ListComp elt [⟨tg, iter, ifs, 0⟩] scope pos) (some (.Name y py)) spos.line X.env = pure true) (hi : PI X tg iter (TI' C it)) (ok : BlkOk X.N X.env.scope scope own)
    (hg : ∀ (s : Shared) (H : Hp) (A : Addr) (cl : List (Str × Addr)) (fp : List Addr), PG (X.blk s H scope (compEnvC scope cl A X.env) fp) tg (TG' C (own.map (·.2)) g))
    (ht : ∀ (s : Shared) (H : Hp) (A : Addr) (cl : List (Str × Addr)) (fp : List Addr), PTs (X.blk s H scope (compEnvC scope cl A X.env) fp) ifs (TB C t))
    (he : ∀ (s : Shared) (H : Hp) (A : Addr) (cl : List (Str × Addr)) (fp : List Addr), PE (X.blk s H scope (compEnvC scope cl A X.env) fp) elt (TX C .va e)) (hs : ∀ x, foldedSetIterable iter X.env x = pure x) :
    PS X (.Assign [.Name y py] (.ListComp elt [⟨tg, iter, ifs, 0⟩] scope pos) spos) (TS' C (sNew i (eComp (own.map (·.2)) it g t e))) := by
  refine ps_weak (ps_setLc hc hN hy hyl hsw hi ok hg ht he hs) fun D σ H ⟨ρ, W, F, G, o, R, ef, q⟩ => ?_
  unfold sNew at ef
  cases h1 : eComp (own.map (·.2)) it g t e ρ W with
  | none => rw [h1] at ef; cases ef
  | some p =>
    obtain ⟨d, W1⟩ := p
    rw [h1] at ef
    exact comp_read ⟨ρ, W, F, G, d, W1, R, h1, fun v F1 G1 H1 x1 R1 r1 => new_end R x1 R1 r1 ef q⟩
/-- name op= e, on data that is not changed in place -/
def sAug (i : Nat) (op : PyData → PyData → Option PyData) (f : Ex) : Sx := fun ρ W => match ρ[i]? with
  | some (.d x) => match f ρ W with
    | some (y, W1) => match op x y with
      | some r => some (.nx (ρ.set i (.d r)) W1)
      | none => none
    | none => none
  | _ => none
def aAdd : PyData → PyData → Option PyData
  | .int i, .int j => some (.int (i + j))
  | _, _ => none
def aSub : PyData → PyData → Option PyData
  | .int i, .int j => some (.int (i - j))
  | _, _ => none
theorem st_aug {i : Nat} {x : Str} {a : Expr} {f : Ex} {m : Mode} {op : Operator} {fo : PyData → PyData → Option PyData} {p' : Pos} (hN : X.N.Nodup) (hi : X.N[i]? = some x) (hx : Loc X.env.scope x) (hf : X.fn x = true ∨ X.env.scope.names.lookup x = some .local) (h : PE X a (TX C m f)) (ho : OpR X (inplaceOp op) (RD2 C .va fo)) :
    PS X (.AugAssign (.Name x p') op a pos) (TS' C (sAug i fo f)) := by
  refine ps_weak (ps_aug hN hi hx h (ti := RD2 C .va fo) (fun p s σ H x y v u Q I rx ry q => ho p s σ H x y v u Q I rx ry q) hf) fun D σ H ⟨ρ, W, F, G, o, R, e, q⟩ => ?_
  unfold sAug at e
  split at e
  · rename_i x0 e0
    split at e
    · rename_i y W1 e1
      split at e
      · rename_i r e2
        cases e
        obtain ⟨ov, g1, g2⟩ := R.sl i _ e0
        cases g2 with
        | d h =>
          refine ⟨_, g1, ρ, W, F, G, y, W1, R, e1, fun v F1 G1 H1 x1 R1 r1 => ⟨F1, G1, x0, y, r, R1.fg, R1.gh, .inl (dp_same x1.f h), r1.vw, e2, fun v3 F3 G3 H3 g3 r3 => ?_⟩⟩
          exact q F3 G3 _ H3 (x1.f.trans g3.f) ((R1.gr g3).set i r3)
      · cases e
    · cases e
  · cases e
theorem o_iadd : OpR X (inplaceOp .Add) (RD2 C .va aAdd) := by
  refine op_imp iop_add fun x y H Q ⟨F, G, d, e, r, fg, gh, hx, hy, ho, q⟩ => ?_
  unfold aAdd at ho
  split at ho
  · cases ho
    exact ⟨_, _, hx.int, hy.int, q.plain fg gh (.int _)⟩
  · cases ho
theorem o_isub : OpR X (inplaceOp .Sub) (RD2 C .va aSub) := by
  refine op_imp iop_sub fun x y H Q ⟨F, G, d, e, r, fg, gh, hx, hy, ho, q⟩ => ?_
  unfold aSub at ho
  split at ho
  · cases ho
    exact ⟨_, _, hx.int, hy.int, q.plain fg gh (.int _)⟩
  · cases ho
end
end Dv
set_option Elab.async false
set_option linter.all false
set_option maxRecDepth 100000
set_option maxHeartbeats 1000000
/-! Part 9s: sorted of data; methods of lists that give data. -/
namespace Dv
open PySem PySem.Spec PyProof.Rows L2
open PySem.Calls

def alikeB (ds : List PyData) : Bool := ds.all fun d => ds.all fun e => PySem.W.alike d e
def isTup1 : PyData → Bool
  | .tuple (_ :: _) => true
  | _ => false
def noTup : PyData → Bool
  | .none => false
  | .tuple _ => false
  | _ => true
def sortOk (ds : List PyData) : Bool := alikeB ds && (ds.all isTup1 || ds.all noTup) && ds.all (fun d => decide (d.depth ≤ 60)) && decide (ds.length ≤ sizeLine)
def sortd (ds : List PyData) : List PyData := ds.mergeSort (PySem.W.dataLe false id)
def fSort : List PyData → Option PyData
  | [.list xs] => if sortOk xs = true then some (.list (sortd xs)) else none
  | [.tuple xs] => if sortOk xs = true then some (.list (sortd xs)) else none
  | _ => none
theorem sortOk_alike {ds : List PyData} (h : sortOk ds = true) : PySem.W.AllAlike ds := by
  unfold sortOk alikeB at h
  simp only [Bool.and_eq_true, List.all_eq_true] at h
  exact fun d hd e he => h.1.1.1 d hd e he
theorem sortOk_kind {ds : List PyData} (h : sortOk ds = true) : PySem.W.Sortable ds := by
  unfold sortOk at h
  simp only [Bool.and_eq_true, Bool.or_eq_true, List.all_eq_true] at h
  rcases h.1.1.2 with h | h
  · refine .inl fun d hd => ?_
    have := h d hd
    unfold isTup1 at this
    split at this
    · exact ⟨_, _, rfl⟩
    · cases this
  · refine .inr fun d hd => ?_
    have := h d hd
    unfold noTup at this
    split at this
    · cases this
    · cases this
    · rename_i h1 h2
      exact ⟨h1, h2⟩
theorem sortOk_depth {ds : List PyData} (h : sortOk ds = true) : ∀ d ∈ ds, d.depth ≤ 60 := by
  unfold sortOk at h
  simp only [Bool.and_eq_true, List.all_eq_true, decide_eq_true_eq] at h
  exact h.1.2
theorem sortOk_len {ds : List PyData} (h : sortOk ds = true) : ds.length ≤ sizeLine := by
  unfold sortOk at h
  simp only [Bool.and_eq_true, decide_eq_true_eq] at h
  exact h.2

section
variable {prog : Program} {w : World} {A : Around} {E : Value → Shared → Prop} {s : Shared} {β : Type} {vs : List Value} {bs : List β} {enc : β → PyData} {R : Value → β → Prop}
/-- sorted(xs), xs a list or a tuple of alike data -/
theorem sorted_seq {l : Addr} {T : String} {o : Obj} {n : Nat} {Q : Value → Shared → Prop} (hT : T = "list" ∨ T = "tuple") (ho : s.heap.get? l = some o) (hc : o.cls = .type T) (hd : o.data = .seq vs.toArray n)
    (e : PySem.W.EachIs R vs bs) (er : PySem.W.EachIs (fun v b => ∃ as, Reads s.heap v (enc b) as) vs bs) (hal : PySem.W.AllAlike (bs.map enc)) (hk : PySem.W.Sortable (bs.map enc)) (hL : bs.length ≤ sizeLine)
    (hu : ∀ b, b ∈ bs → A.units + 2 + (enc b).depth < cLine)
    (h : ∀ (h' : Heap) (d : Addr) (out : List Value), out.length = bs.length → PySem.W.EachIs R out (bs.mergeSort (PySem.W.dataLe false enc)) → (∀ b u, s.heap.get? b = some u → h'.get? b = some u) → s.heap.get? d = none → (∃ m, h'.get? d = some (seqObj "list" out.toArray m)) → Q (.ref d) { s with heap := h' }) :
    wpAny (model prog w) A (call (.builtin "sorted") [.ref l]) Q E s := by
  have hL2 : vs.length ≤ sizeLine := by rw [e.length]; exact hL
  refine call_function_entry_kw kind_sorted plain_sorted entry_sorted (PyProof.Rows.args_sorted1 _) ?_
  unfold Builtin.«sorted»
  refine wpAny_bind (m := checkCount "sorted" 1 1 _) (wpAny_pure ?_)
  refine wpAny_bind (wpAny_collect_seq l hT ho hc hd (fun h1 k1 => ?_) (by simpa using hL2))
  refine wpAny_bind (wpAny_newList ?_ hL2)
  have hat : (h1.push (seqObj "list" vs.toArray 0)).get? h1.objs.size = some (seqObj "list" vs.toArray 0) := Heap.get?_push_size _ rfl
  have hle : s.heap.get? h1.objs.size = none := by
    cases q : s.heap.get? h1.objs.size with
    | none => rfl
    | some u => exact absurd (Heap.lt_size (k1 _ u q)) (Nat.lt_irrefl _)
  have keep : ∀ b u, s.heap.get? b = some u → (h1.push (seqObj "list" vs.toArray 0)).get? b = some u ∧ b ≠ h1.objs.size := fun b u q => ⟨Heap.get?_push_of_some _ (k1 b u q), Nat.ne_of_lt (Heap.lt_size (k1 b u q))⟩
  have er' : PySem.W.EachIs (fun v b => ∃ as, Reads (PySem.W.sortingHeap (h1.push (seqObj "list" vs.toArray 0)) h1.objs.size vs) v (enc b) as) vs bs := er.mono fun _ _ ⟨as, r⟩ => ⟨as, PyProof.Rows.Reads.keeps (fun b u q => PySem.W.sortingHeap_old (keep b u q).2 (keep b u q).1) r⟩
  refine wpAny_bind (wpAny_holding (wpAny_call_entry_kw slot_list_sort ⟨_, hat, rfl⟩ entry_list_sort (PySem.W.list_sort_vals (κ := PySem.W.dataKind (PySem.W.sortingHeap (h1.push (seqObj "list" vs.toArray 0)) h1.objs.size vs) (bs.map enc)) hat (PySem.W.SortsAt.data (s := { s with heap := PySem.W.sortingHeap (h1.push (seqObj "list" vs.toArray 0)) h1.objs.size vs }) (PySem.W.each_map (R := fun v d => ∃ as, Reads _ v d as) enc er') hal hk (PySem.W.bound_map hu)) hL2 ⟨_, rfl, ?_⟩) (PyProof.Rows.args_list_sort _)))
  exact wpAny_pure ⟨_, rfl, h _ _ _ (by rw [PySem.W.sortVals_length false rfl]; exact e.length) (PySem.W.sortVals_data false e er' hal) (fun b u q => (sortedHeap_old (keep b u q).2 (Heap.lt_size (keep b u q).1)).trans (keep b u q).1) hle (sortedHeap_at hat)⟩
end
theorem objok_there {P : Program} {w : World} {H : Hp} {h : Heap} {a : Addr} {o : HO} (x : ObjOk P w H h a o) : ∃ u, h.get? a = some u := by
  cases o with
  | lst xs => obtain ⟨_, _, _, _, e⟩ := x; exact ⟨_, e⟩
  | tup xs => obtain ⟨_, _, _, u, e, _⟩ := x; exact ⟨_, e⟩
  | dK kvs => obtain ⟨_, _, _, _, o, _, _, e, _⟩ := x; exact ⟨_, e⟩
  | dT kvs => obtain ⟨_, _, _, _, o, _, _, e, _⟩ := x; exact ⟨_, e⟩
  | set S n => obtain ⟨o, _, _, _, e, _⟩ := x; exact ⟨_, e⟩
  | ins C dx fs => obtain ⟨_, _, _, e, _⟩ := x; exact ⟨_, e⟩
  | own y => obtain ⟨_, e⟩ := x; exact ⟨_, e⟩
  | xd fs => obtain ⟨_, ⟨_, _, _, e, _⟩, _⟩ := x; exact ⟨_, e⟩
  | rng lo hi => obtain ⟨_, _, _, e⟩ := x; exact ⟨_, e⟩
  | frz ob u => obtain ⟨e, _⟩ := x; exact ⟨_, e⟩
  | tbl ps => exact ⟨_, (show h.get? a = some _ from x)⟩
  | met f y => exact ⟨_, (show h.get? a = some _ from x)⟩
  | ext φ => obtain ⟨_, ⟨_, e⟩, _⟩ := x; exact ⟨_, e⟩
theorem hok_none {P : Program} {w : World} {H : Hp} {h : Heap} {a : Addr} (x : HOk P w H h) (e : h.get? a = none) : H a = none := by
  cases q : H a with
  | none => rfl
  | some o =>
    obtain ⟨u, h2⟩ := objok_there (x a o q)
    rw [e] at h2
    cases h2
section
variable {X : Cx} {C : Ct} {m : Mode}
theorem zip_each {K : PySem.W.Frag} {F : Hp} : ∀ {vs : List V} {us : List Value} {ds : List PyData}, Vals vs us → DqAll K F vs ds → PySem.W.EachIs (fun (v : Value) (b : V × PyData) => RelV b.1 v ∧ Dq K F b.1 b.2) us (vs.zip ds)
  | [], _, _, .nil, .nil => .nil
  | _ :: _, _, _, .cons r t, .cons d e => .cons ⟨r, d⟩ (zip_each t e)
theorem zip_reads {pins : List (Addr × Obj)} {s : Shared} {σ : L2.St} {H : Hp} (I : Inv X pins σ H s) {us : List Value} {bs : List (V × PyData)} {F : Hp} (fh : Same F H) (e : PySem.W.EachIs (fun (v : Value) (b : V × PyData) => RelV b.1 v ∧ Dq X.K F b.1 b.2) us bs) :
    PySem.W.EachIs (fun v b => ∃ as, Reads s.heap v b.2 as) us bs := e.mono fun v b h => Dp.reads I b.2 b.1 v (dq_dp (dp_same fh h.2)) h.1
theorem unzip_each {K : PySem.W.Frag} {F : Hp} {us : List Value} {bs : List (V × PyData)} (e : PySem.W.EachIs (fun (v : Value) (b : V × PyData) => RelV b.1 v ∧ Dq K F b.1 b.2) us bs) : Vals (bs.map (·.1)) us ∧ DqAll K F (bs.map (·.1)) (bs.map (·.2)) := by
  induction e with
  | nil => exact ⟨.nil, .nil⟩
  | cons h _ ih => exact ⟨.cons h.1 ih.1, .cons h.2 ih.2⟩
theorem o_sort (hK : X.K = C.K) (hu : X.A.units + 65 < cLine) : CallR X (.builtin "sorted") (RDn C .nw fSort) := by
  intro pins s σ H xs us Q I r h
  obtain ⟨F, G, ds, rr, fg, gh, hx, ho, q⟩ := h
  have core : ∀ (a : Addr) (vs : List V) (zs : List PyData) (T : String) (o : Obj) (n : Nat) (its : List Value), (T = "list" ∨ T = "tuple") → s.heap.get? a = some o → o.cls = .type T → o.data = .seq its.toArray n → Vals vs its → DqAll C.K F vs zs → sortOk zs = true → rr = .list (sortd zs) →
      wpAny (model X.prog X.w) X.A (call (.builtin "sorted") [.ref a]) (EP X pins σ Q) X.xe s := by
    intro a vs zs T o n its hT h1 h2 h3 rv dv hok hr
    subst hr
    rw [← hK] at dv
    have e := zip_each rv dv
    have hsnd : (vs.zip zs).map (·.2) = zs := by
      rw [List.map_snd_zip]
      rw [dpa_len dv]
      exact Nat.le_refl _
    refine sorted_seq (vs := its) (bs := vs.zip zs) (enc := fun b => b.2) (R := fun (v : Value) (b : V × PyData) => RelV b.1 v ∧ Dq X.K F b.1 b.2) hT h1 h2 h3 e (zip_reads I (fg.trans gh) e) (by rw [hsnd]; exact sortOk_alike hok) (by rw [hsnd]; exact sortOk_kind hok) ?_ (fun b hb => ?_) ?_
    · have := sortOk_len hok
      rw [← hsnd, List.length_map] at this
      exact this
    · have : b.2 ∈ zs := by rw [← hsnd]; exact List.mem_map.mpr ⟨b, hb, rfl⟩
      have := sortOk_depth hok _ this
      show X.A.units + 2 + b.2.depth < cLine
      omega
    · intro h' d out hlen eo kp hn hat
      obtain ⟨m, hat⟩ := hat
      obtain ⟨v1, v2⟩ := unzip_each eo
      have hs2 : ((vs.zip zs).mergeSort (PySem.W.dataLe false fun b => b.2)).map (·.2) = sortd zs := by
        unfold sortd
        have z : ((vs.zip zs).mergeSort (PySem.W.dataLe false fun b => b.2)).map (fun b => b.2) = ((vs.zip zs).map (fun b => b.2)).mergeSort (PySem.W.dataLe false id) := List.map_mergeSort (fun _ _ _ _ => rfl)
        rw [hsnd] at z
        exact z
      rw [hs2] at v2
      have hH := hok_none I.hok hn
      refine ⟨.ref d, upd H d (.lst _), I.laidN (t' := s.toks) kp hn hH ⟨?_, out, m, v1, hat⟩, rfl, q.lst fg gh (by rw [← hK]; exact v2) hH⟩
      rw [v1.length, hlen, ← List.length_map (f := (·.2)), hsnd]
      exact sortOk_len hok
  unfold fSort at ho
  split at ho
  · rename_i zs
    split at ho
    · rename_i hok
      cases ho
      obtain ⟨v, rfl, hv⟩ := vwa_one hx
      obtain ⟨a, vs, rfl, h1, h2⟩ := hv.list fg gh
      obtain ⟨u, rfl, ru⟩ := vals1 r
      obtain rfl : u = Value.ref a := ru
      obtain ⟨its, rv, pl, hz⟩ := I.list (SqL.of h1)
      obtain ⟨o, g1, g2, n, g3⟩ := pl.isList
      exact core a vs zs "list" o n its (.inl rfl) g1 g2 g3 rv h2 hok rfl
    · cases ho
  · rename_i zs
    split at ho
    · rename_i hok
      cases ho
      obtain ⟨v, rfl, hv⟩ := vwa_one hx
      obtain ⟨a, vs, rfl, h1, h2⟩ := hv.tuple fg gh
      obtain ⟨u, rfl, ru⟩ := vals1 r
      obtain rfl : u = Value.ref a := ru
      obtain ⟨its, rv, ⟨o, g1, g2, n, g3⟩, hz⟩ := I.tuple (by rw [hK]; exact h1)
      exact core a vs zs "tuple" o n its (.inr rfl) g1 g2 g3 rv h2 hok rfl
    · cases ho
  · cases ho

/-! ### methods of lists that give data -/
def noSt : Expr → Bool
  | .Starred .. => false
  | _ => true
theorem noSt_star {e : Expr} {es : List Expr} {env : Env} (h : noSt e = true) : starEach (e :: es) env = (false, eval e env) :: starEach es env := by
  cases e <;> first | rfl | cases h
theorem noSt_few {cp : Pos} {a : Expr} {env : Env} (h : noSt a = true) : ((backTo cp (starEach [a] env)).all (fun x => !x.1) && (backToKw cp (keywordEach [] env)).all (fun x => x.1.isSome) && decide ([a].length + ([] : List Keyword).length + (if ([] : List Keyword).isEmpty then 0 else 1) < 30)) = true := by
  rw [noSt_star h]
  rfl
def mIndex : PyData → PyData → Option PyData
  | .list xs, d => if SeqAt.shaped d = true ∧ SeqAt.shaped (.list xs) = true then (xs.findIdx? fun z => PyData.eqv z d).map fun j => .int (j : Nat) else none
  | _, _ => none
theorem findIdx_spec {p : PyData → Bool} {xs : List PyData} {j : Nat} (h : xs.findIdx? p = some j) : ∃ z, xs[j]? = some z ∧ p z = true ∧ ∀ (m : Nat) (z' : PyData), m < j → xs[m]? = some z' → p z' = false := by
  rw [List.findIdx?_eq_some_iff_getElem] at h
  obtain ⟨h1, h2, h3⟩ := h
  refine ⟨xs[j], List.getElem?_eq_getElem h1, h2, fun m z hm hz => ?_⟩
  have := h3 m hm
  obtain ⟨h4, rfl⟩ := List.getElem?_eq_some_iff.mp hz
  simpa using this
theorem mt_ix (hK : X.K = C.K) (hu : X.A.units + 65 < cLine) : MtR X "list.index" (fun x xs H Q => ∃ y, xs = [y] ∧ RD2 C .va mIndex x y H Q) := by
  intro pins s σ H x xs v us Q I rx rxs h
  refine mt_indexD hu pins s σ H x xs v us Q I rx rxs ?_
  obtain ⟨y, rfl, F, G, d, e, r, fg, gh, hx, hy, ho, q⟩ := h
  unfold mIndex at ho
  split at ho
  · rename_i zs
    split at ho
    · rename_i hsh
      cases hj : zs.findIdx? (fun z => PyData.eqv z e) with
      | none => rw [hj] at ho; cases ho
      | some j =>
        rw [hj] at ho
        cases ho
        obtain ⟨z, z1, z2, z3⟩ := findIdx_spec hj
        have l1 : Dp X.K H x (.list zs) := by
          rw [hK]
          exact dq_dp (dp_same gh (hx.dp fg))
        obtain ⟨a, vs, rfl, _, _⟩ := hx.list fg gh
        exact ⟨a, y, e, zs, j, z, rfl, rfl, l1, by rw [hK]; exact dq_dp (dp_same gh (hy.dp fg)), hsh.2, hsh.1, z1, z2, z3, q.plain fg gh (.int _)⟩
    · cases ho
  · cases ho
variable {o e : Expr} {fo fe : Ex} {name : Str} {apos cpos : Pos} {id : String}
theorem x_meth {op : PyData → PyData → Option PyData} {m1 m2 : Mode} (hK : X.K = C.K) (slot : Slot "list" name id) (hty : typeOf (.builtin id) = pure (.type "method_descriptor")) (hm : MtR X id (fun x xs H Q => ∃ y, xs = [y] ∧ RD2 C m op x y H Q)) (hl : ∀ x y r, op x y = some r → ∃ zs, x = .list zs)
    (ho : PE X o (TX C m1 fo)) (he : PE X e (TX C m2 fe)) (hbase : attributeBase o name X.env (eval o X.env) = eval o X.env) (hs : noSt e = true) (hline : (apos.endLine == cpos.line) = true) :
    PE X (.Call (.Attribute o name apos) [e] [] cpos) (TX C m (e2 op fo fe)) := by
  refine pe_weak (pe_bm PySem.F.plainAttrs_list slot hty hm ho (v_cons he v_nil (noSt_star hs)) hbase (noSt_few hs) hline (noSt_star hs) rfl) fun σ H Q ⟨ρ, W, F, G, d, W', R, ef, q⟩ => ?_
  obtain ⟨x, W1, y, h1, h2, h3⟩ := e2_some ef
  refine ⟨ρ, W, F, G, x, W1, R, h1, fun v F1 G1 H1 x1 R1 r1 => ⟨?_, ρ, W1, F1, G1, [y], W', R1, ?_, fun vs F2 G2 H2 x2 R2 r2 => ?_⟩⟩
  · obtain ⟨zs, rfl⟩ := hl _ _ _ h3
    obtain ⟨a, us, rfl, g1, g2⟩ := r1.vw.list R1.fg R1.gh
    exact .inl ⟨rfl, us, SqL.of g1⟩
  · simp only [lCons, lNil, h2]
  · cases r2 with
    | cons ry rn =>
      cases rn
      exact ⟨_, rfl, F2, G2, x, y, d, R2.fg, R2.gh, r1.vw.ext x2.f x2.g, ry, h3, fun v3 F3 G3 H3 g3 r3 => q v3 F3 G3 H3 ((x1.trans x2).trans g3.ext) (R2.gr g3) (r3.back (x1.trans x2))⟩
end

/-! ### range with a step -/
def rngC (lo c : Int) (n : Nat) : List PyData := (List.range n).map fun (k : Nat) => PyData.int (lo + (k : Nat) * c)
def rgOk (i j c : Int) : Bool := decide (c ≠ 0) && decide (c.natAbs < 1073741824) && Builtin.Range.small i j c && decide (0 ≤ Builtin.Range.rangeSize i j c)
def oR3 : List PyData → Option (List PyData)
  | [.int i, .int j, .int c] => if rgOk i j c = true then some (rngC i c (Builtin.Range.rangeSize i j c).toNat) else none
  | _ => none
def iR3 (a : Lx) : Lx := fun ρ W => match a ρ W with
  | some (v, W1) => (oR3 v).map fun ds => (ds, W1)
  | none => none
theorem walk_rngC {C : Ct} {lo c : Int} {n : Nat} {F : Hp} : Walk C (Itc lo c n) F (rngC lo c n) where
  go := fun i F G H _ fg gh hi => by
    have hl : i < n := by
      unfold rngC at hi
      rw [List.length_map, List.length_range] at hi
      exact hi
    refine ⟨hl, fun x H' hy => ?_⟩
    obtain ⟨rfl, rfl⟩ := hy
    refine ⟨F, G, .int (lo + (i : Nat) * c), Gr.refl fg gh, ?_, .int _⟩
    unfold rngC
    rw [List.getElem?_map, List.getElem?_range hl]
    rfl
  stop := fun i F G H _ _ _ hi => by
    unfold rngC at hi
    rw [List.length_map, List.length_range] at hi
    exact Nat.le_of_eq hi
theorem i_rng3 {X : Cx} {C : Ct} {a b c tg : Expr} {f : Lx} {p pos : Pos} (hg : Gl X "range") (hm : X.mg "range" = none) (ha : PA X [a, b, c] (TV C f)) (hs : starEach [a, b, c] X.env = (false, eval a X.env) :: starEach [b, c] X.env) (hpl : (backTo pos (starEach [b, c] X.env)).any (·.1) = false) :
    PI X tg (.Call (.Name "range" p) [a, b, c] [] pos) (TI' C (iR3 f)) := by
  refine pi_weak (pi_range3 hg hm ha hs hpl) fun σ H Q ⟨ρ, W, F, G, ds, W', R, e, q⟩ => ?_
  unfold iR3 at e
  cases e1 : f ρ W with
  | none => rw [e1] at e; cases e
  | some z =>
    obtain ⟨v, W1⟩ := z
    simp only [e1] at e
    cases e2 : oR3 v with
    | none => rw [e2] at e; cases e
    | some ds2 =>
      rw [e2] at e
      cases e
      unfold oR3 at e2
      split at e2
      · rename_i i j k
        split at e2
        · rename_i hok
          cases e2
          refine ⟨ρ, W, F, G, _, _, R, e1, fun vs F1 G1 H1 x1 R1 r1 => ?_⟩
          cases r1 with
          | cons v1 r1 =>
            cases r1 with
            | cons v2 r1 =>
              cases r1 with
              | cons v3 r1 =>
                cases r1
                unfold rgOk at hok
                simp only [Bool.and_eq_true, decide_eq_true_eq] at hok
                exact ⟨i, j, k, _, by rw [v1.int, v2.int, v3.int], ⟨hok.1.1.1, hok.1.1.2, hok.1.2, (Int.toNat_of_nonneg hok.2).symm⟩, q _ F1 G1 H1 x1 R1 walk_rngC⟩
        · cases e2
      · cases e2
end Dv
set_option Elab.async false
set_option linter.all false
set_option maxRecDepth 100000
set_option maxHeartbeats 1000000
/-! Part 9t: x[::-1] of lists and tuples, max and sum of ints, str of an int. -/
namespace Dv
open PySem PySem.Spec PyProof.Rows L2

section
variable {prog : Program} {w : World} {A : Around} {E : Value → Shared → Prop} {s : Shared}
theorem adj_back (n : Nat) : Builtin.Slice.sliceAdjust none none (-1) (n : Int) = ((n : Int) - 1, -1) := by
  unfold Builtin.Slice.sliceAdjust
  have h1 : ((-1 : Int) < 0) := by omega
  simp only [h1, if_true]
theorem plc_back (n : Nat) : Builtin.Slice.slicePlaces ((n : Int) - 1) (-1) (-1) = n := by
  unfold Builtin.Slice.slicePlaces
  have h1 : ¬ ((-1 : Int) > 0) := by omega
  have h2 : (- -1 : Int) = 1 := rfl
  simp only [h1, if_false, h2, Int.ediv_one]
  split <;> omega
theorem app_back {sl : Addr} {vs : Value} {n : Nat} {Q : Int × Int × Nat → Shared → Prop} (hs : s.heap.IsSliceOf sl .none .none vs) (ps : IsPart vs (some (-1)))
    (h : Q ((n : Int) - 1, -1, n) s) : wpAny (model prog w) A (Builtin.Slice.sliceApplied (.ref sl) (pure (n : Int))) Q E s := by
  obtain ⟨o, ho, _, hd⟩ := id hs
  unfold Builtin.Slice.sliceApplied Builtin.Slice.sliceFields
  refine wpAny_bind (wpAny_bind (wpAny_field ho hd (x := .none) rfl
    (wpAny_bind (wpAny_field ho hd (x := .none) rfl (wpAny_bind (wpAny_field ho hd (x := vs) rfl (wpAny_pure ?_)))))))
  refine wpAny_bind (HT.slicePart_ ps ?_)
  show wpAny _ _ (if ((-1 : Int) == 0) = true then _ else _) _ _ s
  rw [if_neg (by decide)]
  refine wpAny_bind (slicePart_none (wpAny_bind (slicePart_none (wpAny_bind (wpAny_pure ?_)))))
  show wpAny _ _ (match Builtin.Slice.sliceAdjust none none (-1) (n : Int) with
    | (lo, hi) => pure (lo, (-1 : Int), Builtin.Slice.slicePlaces lo hi (-1))) _ _ s
  rw [adj_back n]
  show wpAny _ _ (pure ((n : Int) - 1, (-1 : Int), Builtin.Slice.slicePlaces ((n : Int) - 1) (-1) (-1))) _ _ s
  rw [plc_back]
  exact wpAny_pure h
theorem pick_back (xs : List Value) : ∀ k, k ≤ xs.length → ((List.range k).filterMap fun (m : Nat) => xs.toArray[((xs.length : Int) - 1 + (m : Int) * (-1)).toNat]?) = xs.reverse.take k := by
  intro k
  induction k with
  | zero => intro _; rfl
  | succ k ih =>
    intro hk
    rw [List.range_succ, List.filterMap_append, ih (by omega), List.take_add_one]
    congr 1
    have e : ((xs.length : Int) - 1 + (k : Int) * (-1)).toNat = xs.length - 1 - k := by omega
    have hl : xs.length - 1 - k < xs.length := by omega
    have hr : k < xs.reverse.length := by rw [List.length_reverse]; omega
    rw [List.filterMap_cons, List.filterMap_nil, e, List.getElem?_toArray, List.getElem?_eq_getElem hl, List.getElem?_eq_getElem hr, List.getElem_reverse]
    rfl
theorem get_back {t sl : Addr} {xs : List Value} {vs : Value} {Q : Value → Shared → Prop} (ht : IsTup s.heap t xs.toArray) (hs : s.heap.IsSliceOf sl .none .none vs) (ps : IsPart vs (some (-1)))
    (h : Q (.ref s.heap.objs.size) { s with heap := s.heap.push { cls := .type "tuple", data := .seq xs.reverse.toArray } })
    (hsz : xs.length ≤ sizeLine) : wpAny (model prog w) A (getItem (.ref t) (.ref sl)) Q E s := by
  have fits : sizeOk (.seq xs.reverse.toArray) := by
    show xs.reverse.toArray.size ≤ sizeLine
    rw [List.size_toArray, List.length_reverse]
    exact hsz
  obtain ⟨o, ho, hc, hd⟩ := id hs
  have tyS : s.TypeIs (.ref sl) "slice" := ⟨o, ho, hc⟩
  unfold getItem
  try with_reducible refine wpAny_holding ?_
  first
    | refine wpAny_bind (wpAny_pure ?_)
    | skip
  refine wpAny_bind (wpAny_sequenceKey ht.typeIs (by decide) ?_)
  refine wpAny_bind (wpAny_callSpecial?_slot (name := Str.ofString "__getitem__")
    ht.typeIs slot_tuple_getitem
    (wpAny_call_entry slot_tuple_getitem ht.typeIs
      entry_tuple_getitem ?_ (args_tuple_getitem _ _)))
  show wpAny _ _ (Builtin.Tuple.tupleItemsOf
    (.ref t) >>= _) _ _ s
  refine wpAny_bind (tupleItemsOf_ ht ?_)
  refine wpAny_bind (wpAny_typeOf tyS ?_)
  rw [if_pos (by decide)]
  have e0 : xs.toArray.size = xs.length := List.size_toArray
  rw [e0]
  refine wpAny_bind (app_back hs ps ?_)
  show wpAny _ _ (if (((xs.length : Int) - 1) == 0 && (-1 : Int) == 1 && xs.length == xs.length) = true then _ else _) _ _ s
  rw [if_neg (by
    intro q
    rw [Bool.and_eq_true, Bool.and_eq_true] at q
    exact absurd (eq_of_beq q.1.2) (by decide))]
  rw [pick_back xs xs.length (Nat.le_refl _), List.take_of_length_le (by rw [List.length_reverse]; exact Nat.le_refl _)]
  first
    | exact wpAny_bind (m := Builtin.Tuple.tupleExact _)
        (wpAny_newObj_type (wpAny_pure ⟨_, rfl, wpAny_pure h⟩) fits)
    | exact wpAny_bind (m := Builtin.Tuple.tupleExact _)
        (wpAny_newObj_type (wpAny_bind (wpAny_pure (wpAny_pure ⟨_, rfl, wpAny_pure h⟩))) fits)
    | exact wpAny_bind (wpAny_bind (m := Builtin.Tuple.tupleExact _)
        (wpAny_newObj_type (wpAny_pure (wpAny_pure ⟨_, rfl, wpAny_pure h⟩)) fits))
    | exact wpAny_bind (wpAny_bind (m := Builtin.Tuple.tupleExact _)
        (wpAny_newObj_type (wpAny_pure ⟨_, rfl, wpAny_pure h⟩) fits))
end
def tRevT (K : PySem.W.Frag) (te : TE) : TE := fun σ H Q => te σ H fun x H1 => ∃ a xs, x = .ref a ∧ SqT K H1 a xs ∧ ∀ p, H1 p = none → Q (.ref p) (upd H1 p (.tup xs.reverse))
section
variable {X : Cx} {C : Ct}
theorem pe_revT {e : Expr} {te : TE} {k : Nat} {p1 p2 p3 pos : Pos} (he : PE X e te) : PE X (.Subscript e (.Slice none none (some (.UnaryOp .USub (.Constant (.int 1) k p1) p2)) p3) pos) (tRevT X.K te) := by
  refine ⟨fun pins s σ H Q I h => Subscript_ (thn (he.run pins s σ H _ I h) fun v s1 ⟨x, H1, I1, r1, q1⟩ => ?_)⟩
  obtain ⟨a, xs, rfl, hx, q⟩ := q1
  cases r1
  have one : PO X (some (.UnaryOp .USub (.Constant (.int 1) k p1) p2)) (tPart (tUn (rU fun i => .int (-i)) (tC (.int 1)))) := po_some (pe_un un_neg pe_int)
  refine wpAny_Slice (thn (po_none.run pins s1 σ H1 (fun o H2 => o = none ∧ H2 = H1) I1 ⟨rfl, rfl⟩) fun vl s2 ⟨l, H2, I2, pl, el, e2⟩ => ?_)
  obtain rfl := el
  obtain rfl := e2
  refine thn (po_none.run pins s2 σ H2 (fun o H3 => o = none ∧ H3 = H2) I2 ⟨rfl, rfl⟩) fun vu s3 ⟨u, H3, I3, pu, eu, e3⟩ => ?_
  obtain rfl := eu
  obtain rfl := e3
  refine thn (one.run pins s3 σ H3 (fun o H4 => o = some (-1) ∧ H4 = H3) I3 ⟨1, rfl, -1, rfl, rfl, rfl⟩) fun vs s4 ⟨o, H4, I4, ps, eo, e4⟩ => ?_
  obtain rfl := eo
  obtain rfl := e4
  have I5 : Inv X pins σ H4 { s4 with heap := s4.heap.push { cls := .type "slice", data := .fields #[vl, vu, vs] } } :=
    I4.kept (t' := s4.toks) fun _ _ z => Heap.get?_push_of_some _ z
  obtain ⟨its, r, ht, hz⟩ := I5.tuple hx
  have hlen := r.length
  cases pl
  cases pu
  refine tail_any (value := e) (ops := [.ref a, .ref s4.heap.objs.size]) ht.typeIs (slot_tuple_getitem.lookup) ?_ (by with_unfolding_all rfl)
  refine get_back (s := { s4 with heap := s4.heap.push { cls := .type "slice", data := .fields #[.none, .none, vs] } }) ht (Heap.IsSliceOf.new _ .none .none vs) ps ?_ (by omega)
  refine ⟨.ref _, _, I5.laid (t' := s4.toks) (o := .tup xs.reverse) (fun _ _ z => Heap.get?_push_of_some _ z) (Nat.le_refl _) ?_, rfl, q _ (I5.hok.fresh (Nat.le_refl _))⟩
  exact ⟨by rw [List.length_reverse]; exact hz, _, r.reverse, IsTup.new _ _⟩
end

/-! ### sum, max, min of ints in a tuple -/
section
variable {prog : Program} {w : World} {A : Around} {E : Value → Shared → Prop} {s : Shared} {l : Addr}
theorem it_tup {xs : Array Value} {Q : Value → Shared → Prop} (ht : s.heap.IsTuple l xs)
    (h : ∀ s2 : Shared, s2 = { s with heap := s.heap.push { cls := .type "tuple_iterator", data := .fields #[.ref l, .int 0 0] } } →
      (s2.heap.IsTupleIter s.heap.objs.size l 0 ∧ s2.heap.IsTuple l xs) → (∀ b ∈ [s.heap.objs.size, l], b < s2.heap.objs.size) → l ≠ s.heap.objs.size →
      (∀ h' : Heap, (∀ b o, b ∉ [s.heap.objs.size] → s2.heap.get? b = some o → h'.get? b = some o) → ∀ b o, s.heap.get? b = some o → h'.get? b = some o) → Q (.ref s.heap.objs.size) s2) :
    wpAny (model prog w) A (pyIter (.ref l)) Q E s := by
  have lt : l < s.heap.objs.size := by
    obtain ⟨_, e, _⟩ := ht
    exact Heap.lt_size e
  refine wpAny_pyIter_tuple ht (h _ rfl ⟨⟨_, Heap.get?_push_size _ rfl, rfl, rfl⟩, ?_⟩ (fun b hb => ?_) (Nat.ne_of_lt lt) fun h' k b o e => ?_)
  · obtain ⟨o, e, r⟩ := ht
    exact ⟨o, Heap.get?_push_of_some _ e, r⟩
  · show b < (s.heap.push _).objs.size
    rw [Heap.size_push]
    simp only [List.mem_cons, List.not_mem_nil, or_false] at hb
    rcases hb with hb | hb
    · rw [hb]; exact Nat.lt_succ_self _
    · rw [hb]; exact Nat.lt_succ_of_lt lt
  · refine k b o (fun m => ?_) (Heap.get?_push_of_some _ e)
    simp only [List.mem_cons, List.not_mem_nil, or_false] at m
    rw [m] at e
    exact absurd (Heap.lt_size e) (Nat.lt_irrefl _)
theorem sum_tup {its : List Value} {ns : List Int} {Q : Value → Shared → Prop} (hh : A.handled = none) (ht : s.heap.IsTuple l its.toArray) (hi : IntsAre its ns)
    (h : ∀ h' tk t', (∀ b o, s.heap.get? b = some o → h'.get? b = some o) → Q (.int ns.sum t') { s with heap := h', toks := tk }) : wpAny (model prog w) A (call (.builtin "sum") [.ref l]) Q E s := by
  obtain ⟨xs, e⟩ := hi.allInts.items
  have hn : numsOf (intItems xs).toList = ns := by rw [← e]; exact hi.numsOf
  rw [nums_intItems] at hn
  rw [e] at ht
  refine call_sum_walkG (it_tup ht fun s2 e2 st fp ne old => ?_)
  refine ⟨_, _, _, _, _, _, numAt xs, rfl, Walks.tuple (A := A.in1) hh _ l ne (intItems xs), st, fp, fun _ _ => intItems_at, fun h' tk t' k => ?_⟩
  have q := h h' tk t' (old h' k)
  subst e2
  have z : (intItems xs).size = xs.size := by unfold intItems; exact Array.size_map
  rw [z, preSum_eq, List.take_of_length_le (by simp), hn]
  exact q
theorem max_tup {its : List Value} {ns : List Int} {Q : Value → Shared → Prop} (hh : A.handled = none) (ht : s.heap.IsTuple l its.toArray) (hi : IntsAre its ns) (hne : 0 < ns.length)
    (h : ∀ h' tk M t', (∀ b o, s.heap.get? b = some o → h'.get? b = some o) → M ∈ ns → (∀ a, a ∈ ns → a ≤ M) → Q (.int M t') { s with heap := h', toks := tk }) : wpAny (model prog w) A (call (.builtin "max") [.ref l]) Q E s := by
  obtain ⟨xs, e⟩ := hi.allInts.items
  have hn : numsOf (intItems xs).toList = ns := by rw [← e]; exact hi.numsOf
  rw [nums_intItems] at hn
  subst hn
  rw [e] at ht
  have hsz : 0 < xs.size := by simpa using hne
  have z : (intItems xs).size = xs.size := by unfold intItems; exact Array.size_map
  refine call_max_walk (it_tup ht fun s2 e2 st fp ne old => ?_)
  refine ⟨_, _, _, _, _, _, _, rfl, Walks.tuple (A := A.in1) hh _ l ne (intItems xs), st, fp, by rw [z]; exact hsz, CmpOf.ints_gt (numAt xs) (fun _ _ => intItems_at), fun v h' tk hv k => ?_⟩
  obtain ⟨t, rfl⟩ := intItems_at hv
  subst e2
  obtain ⟨h1, h2⟩ := argBest_gt (numAt xs) ((intItems xs).size - 1)
  refine h h' tk _ t (old h' k) ?_ fun a ha => ?_
  · rw [numAt_eq]
    exact PySem.getD_mem (by rw [List.length_map, Array.length_toList]; omega)
  · obtain ⟨j, hj, rfl⟩ := mem_getD ha
    rw [List.length_map, Array.length_toList] at hj
    rw [← numAt_eq]
    exact h2 j (by omega)
theorem min_tup {its : List Value} {ns : List Int} {Q : Value → Shared → Prop} (hh : A.handled = none) (ht : s.heap.IsTuple l its.toArray) (hi : IntsAre its ns) (hne : 0 < ns.length)
    (h : ∀ h' tk M t', (∀ b o, s.heap.get? b = some o → h'.get? b = some o) → M ∈ ns → (∀ a, a ∈ ns → M ≤ a) → Q (.int M t') { s with heap := h', toks := tk }) : wpAny (model prog w) A (call (.builtin "min") [.ref l]) Q E s := by
  obtain ⟨xs, e⟩ := hi.allInts.items
  have hn : numsOf (intItems xs).toList = ns := by rw [← e]; exact hi.numsOf
  rw [nums_intItems] at hn
  subst hn
  rw [e] at ht
  have hsz : 0 < xs.size := by simpa using hne
  have z : (intItems xs).size = xs.size := by unfold intItems; exact Array.size_map
  refine call_min_walk (it_tup ht fun s2 e2 st fp ne old => ?_)
  refine ⟨_, _, _, _, _, _, _, rfl, Walks.tuple (A := A.in1) hh _ l ne (intItems xs), st, fp, by rw [z]; exact hsz, CmpOf.ints_lt (numAt xs) (fun _ _ => intItems_at), fun v h' tk hv k => ?_⟩
  obtain ⟨t, rfl⟩ := intItems_at hv
  subst e2
  obtain ⟨h1, h2⟩ := argBest_lt (numAt xs) ((intItems xs).size - 1)
  refine h h' tk _ t (old h' k) ?_ fun a ha => ?_
  · rw [numAt_eq]
    exact PySem.getD_mem (by rw [List.length_map, Array.length_toList]; omega)
  · obtain ⟨j, hj, rfl⟩ := mem_getD ha
    rw [List.length_map, Array.length_toList] at hj
    rw [← numAt_eq]
    exact h2 j (by omega)
end

/-! ### by data -/
def maxL : List Int → Option Int
  | [] => none
  | [i] => some i
  | i :: j :: r => (maxL (j :: r)).map fun m => if m > i then m else i
def minL : List Int → Option Int
  | [] => none
  | [i] => some i
  | i :: j :: r => (minL (j :: r)).map fun m => if m < i then m else i
theorem maxL_spec : ∀ {ns : List Int} {m : Int}, maxL ns = some m → 0 < ns.length ∧ ∀ k, k ∈ ns → (∀ y, y ∈ ns → y ≤ k) → k = m
  | [i], m, h => by
    cases h
    exact ⟨by simp, fun k hk _ => by simpa using hk⟩
  | i :: j :: r, m, h => by
    unfold maxL at h
    cases q : maxL (j :: r) with
    | none => rw [q] at h; cases h
    | some m' =>
      rw [q] at h
      cases h
      refine ⟨by simp, fun k hk hb => ?_⟩
      obtain ⟨_, ih⟩ := maxL_spec q
      have bound : ∀ y, y ∈ (j :: r) → y ≤ k := fun y hy => hb y (List.mem_cons_of_mem _ hy)
      have hex : m' ∈ (j :: r) ∧ ∀ y ∈ (j :: r), y ≤ m' := maxL_mem q
      have hik := hb i (List.mem_cons_self ..)
      have hmk := bound m' hex.1
      rcases List.mem_cons.mp hk with e | e
      · subst e
        dsimp only
        split <;> omega
      · have := hex.2 k e
        dsimp only
        split <;> omega
where
  maxL_mem : ∀ {ns : List Int} {m : Int}, maxL ns = some m → m ∈ ns ∧ ∀ y ∈ ns, y ≤ m
  | [i], m, h => by
    cases h
    exact ⟨by simp, fun y hy => by simp at hy; omega⟩
  | i :: j :: r, m, h => by
    unfold maxL at h
    cases q : maxL (j :: r) with
    | none => rw [q] at h; cases h
    | some m' =>
      rw [q] at h
      cases h
      obtain ⟨a, b⟩ := maxL_mem q
      dsimp only
      split
      · exact ⟨List.mem_cons_of_mem _ a, fun y hy => by
          rcases List.mem_cons.mp hy with e | e
          · omega
          · exact b y e⟩
      · exact ⟨List.mem_cons_self .., fun y hy => by
          rcases List.mem_cons.mp hy with e | e
          · omega
          · have := b y e; omega⟩
theorem minL_spec : ∀ {ns : List Int} {m : Int}, minL ns = some m → 0 < ns.length ∧ ∀ k, k ∈ ns → (∀ y, y ∈ ns → k ≤ y) → k = m
  | [i], m, h => by
    cases h
    exact ⟨by simp, fun k hk _ => by simpa using hk⟩
  | i :: j :: r, m, h => by
    unfold minL at h
    cases q : minL (j :: r) with
    | none => rw [q] at h; cases h
    | some m' =>
      rw [q] at h
      cases h
      refine ⟨by simp, fun k hk hb => ?_⟩
      have bound : ∀ y, y ∈ (j :: r) → k ≤ y := fun y hy => hb y (List.mem_cons_of_mem _ hy)
      have hex : m' ∈ (j :: r) ∧ ∀ y ∈ (j :: r), m' ≤ y := minL_mem q
      have hik := hb i (List.mem_cons_self ..)
      have hmk := bound m' hex.1
      rcases List.mem_cons.mp hk with e | e
      · subst e
        dsimp only
        split <;> omega
      · have := hex.2 k e
        dsimp only
        split <;> omega
where
  minL_mem : ∀ {ns : List Int} {m : Int}, minL ns = some m → m ∈ ns ∧ ∀ y ∈ ns, m ≤ y
  | [i], m, h => by
    cases h
    exact ⟨by simp, fun y hy => by simp at hy; omega⟩
  | i :: j :: r, m, h => by
    unfold minL at h
    cases q : minL (j :: r) with
    | none => rw [q] at h; cases h
    | some m' =>
      rw [q] at h
      cases h
      obtain ⟨a, b⟩ := minL_mem q
      dsimp only
      split
      · exact ⟨List.mem_cons_of_mem _ a, fun y hy => by
          rcases List.mem_cons.mp hy with e | e
          · omega
          · exact b y e⟩
      · exact ⟨List.mem_cons_self .., fun y hy => by
          rcases List.mem_cons.mp hy with e | e
          · omega
          · have := b y e; omega⟩
def bestOf (best : List Int → Option Int) : List PyData → Option PyData
  | [.list xs] => match asInts xs with
    | some ns => (best ns).map .int
    | none => none
  | [.tuple xs] => match asInts xs with
    | some ns => (best ns).map .int
    | none => none
  | _ => none
/-- max of two ints, or of the ints of a list or tuple -/
def fMaxA (ds : List PyData) : Option PyData := match fMax ds with
  | some r => some r
  | none => bestOf maxL ds
def fMin2 : List PyData → Option PyData
  | [.int i, .int j] => some (.int (if j < i then j else i))
  | _ => none
def fMinA (ds : List PyData) : Option PyData := match fMin2 ds with
  | some r => some r
  | none => bestOf minL ds
def fSum (ds : List PyData) : Option PyData := bestOf (fun ns => some ns.sum) ds
def fStr : List PyData → Option PyData
  | [.int i] => if i.natAbs.log2 < 1920 then some (.str (toString i)) else none
  | _ => none
section
variable {X : Cx} {C : Ct}
theorem best_some {best : List Int → Option Int} {ds : List PyData} {r : PyData} (h : bestOf best ds = some r) :
    ∃ (ns : List Int) (m : Int), best ns = some m ∧ r = .int m ∧ (ds = [.list (ns.map .int)] ∨ ds = [.tuple (ns.map .int)]) := by
  unfold bestOf at h
  split at h
  · rename_i xs
    split at h
    · rename_i ns e
      cases q : best ns with
      | none => rw [q] at h; cases h
      | some m =>
        rw [q] at h
        cases h
        exact ⟨ns, m, q, rfl, .inl (by rw [asInts_some e])⟩
    · cases h
  · rename_i xs
    split at h
    · rename_i ns e
      cases q : best ns with
      | none => rw [q] at h; cases h
      | some m =>
        rw [q] at h
        cases h
        exact ⟨ns, m, q, rfl, .inr (by rw [asInts_some e])⟩
    · cases h
  · cases h
def rOver (K : PySem.W.Frag) (best : List Int → Int → Prop) : List V → Hp → VK → Prop := fun vs H Q =>
  ∃ (a : Addr) (ns : List Int) (m : Int), vs = [V.ref a] ∧ (SqL K H a (ns.map V.int) ∨ SqT K H a (ns.map V.int)) ∧ 0 < ns.length ∧ (∀ k, best ns k → k = m) ∧ Q (.int m) H
def isMax (ns : List Int) (k : Int) : Prop := k ∈ ns ∧ ∀ y, y ∈ ns → y ≤ k
def isMin (ns : List Int) (k : Int) : Prop := k ∈ ns ∧ ∀ y, y ∈ ns → k ≤ y
theorem call_maxO (hc : X.calm = true) : CallR X (.builtin "max") (rOver X.K isMax) := by
  intro pins s σ H vs us Q I r h
  obtain ⟨a, ns, m, rfl, hs, hl, hm, q⟩ := h
  rw [Vals.ref1 r]
  rcases hs with hs | hs
  · obtain ⟨its, rv, p, _⟩ := I.list hs
    exact max_raw (I.ok.hd hc) p.isList rv.ints hl fun h' tk k t' hk h1 h2 => ⟨.int k, H, I.kept hk, ⟨_, rfl⟩, hm k ⟨h1, h2⟩ ▸ q⟩
  · obtain ⟨its, rv, p, _⟩ := I.tuple hs
    exact max_tup (I.ok.hd hc) p rv.ints hl fun h' tk k t' hk h1 h2 => ⟨.int k, H, I.kept hk, ⟨_, rfl⟩, hm k ⟨h1, h2⟩ ▸ q⟩
theorem call_minO (hc : X.calm = true) : CallR X (.builtin "min") (rOver X.K isMin) := by
  intro pins s σ H vs us Q I r h
  obtain ⟨a, ns, m, rfl, hs, hl, hm, q⟩ := h
  rw [Vals.ref1 r]
  rcases hs with hs | hs
  · obtain ⟨its, rv, p, _⟩ := I.list hs
    exact min_raw (I.ok.hd hc) p.isList rv.ints hl fun h' tk k t' hk h1 h2 => ⟨.int k, H, I.kept hk, ⟨_, rfl⟩, hm k ⟨h1, h2⟩ ▸ q⟩
  · obtain ⟨its, rv, p, _⟩ := I.tuple hs
    exact min_tup (I.ok.hd hc) p rv.ints hl fun h' tk k t' hk h1 h2 => ⟨.int k, H, I.kept hk, ⟨_, rfl⟩, hm k ⟨h1, h2⟩ ▸ q⟩
def rSumA (K : PySem.W.Frag) : List V → Hp → VK → Prop := fun vs H Q => ∃ (a : Addr) (ns : List Int), vs = [V.ref a] ∧ (SqL K H a (ns.map V.int) ∨ SqT K H a (ns.map V.int)) ∧ Q (.int ns.sum) H
theorem call_sumO (hc : X.calm = true) : CallR X (.builtin "sum") (rSumA X.K) := by
  intro pins s σ H vs us Q I r h
  obtain ⟨a, ns, rfl, hs, q⟩ := h
  rw [Vals.ref1 r]
  rcases hs with hs | hs
  · obtain ⟨its, rv, p, _⟩ := I.list hs
    exact sum_raw (I.ok.hd hc) p.isList rv.ints fun h' tk t' hk => ⟨.int _, H, I.kept hk, ⟨_, rfl⟩, q⟩
  · obtain ⟨its, rv, p, _⟩ := I.tuple hs
    exact sum_tup (I.ok.hd hc) p rv.ints fun h' tk t' hk => ⟨.int _, H, I.kept hk, ⟨_, rfl⟩, q⟩
theorem over_seq (hK : X.K = C.K) {F G H : Hp} (fg : Same F G) (gh : Same G H) {v : V} {ns : List Int} {ds : List PyData} (h : ds = [.list (ns.map .int)] ∨ ds = [.tuple (ns.map .int)]) (hv : VwAll C F G [v] ds) :
    ∃ a, v = .ref a ∧ (SqL X.K H a (ns.map V.int) ∨ SqT X.K H a (ns.map V.int)) := by
  rcases h with rfl | rfl
  · obtain ⟨v', e, hv⟩ := vwa_one hv
    cases e
    obtain ⟨a, vs, rfl, h1, h2⟩ := hv.list fg gh
    rw [dqa_ints h2] at h1
    exact ⟨a, rfl, .inl (SqL.of h1)⟩
  · obtain ⟨v', e, hv⟩ := vwa_one hv
    cases e
    obtain ⟨a, vs, rfl, h1, h2⟩ := hv.tuple fg gh
    rw [dqa_ints h2] at h1
    exact ⟨a, rfl, .inr (hK ▸ h1)⟩
theorem vwa_one' {F G : Hp} {vs : List V} {d : PyData} (h : VwAll C F G vs [d]) : ∃ v, vs = [v] := let ⟨v, e, _⟩ := vwa_one h; ⟨v, e⟩
theorem o_maxA (hK : X.K = C.K) (hc : X.calm = true) : CallR X (.builtin "max") (RDn C .va fMaxA) := by
  refine call_imp (call_or (call_max2 hc) (call_maxO hc)) fun xs H Q ⟨F, G, ds, r, fg, gh, hx, ho, q⟩ => ?_
  unfold fMaxA at ho
  split at ho
  · rename_i r' e
    cases ho
    unfold fMax at e
    split at e
    · cases e
      obtain ⟨v, w, rfl, hv, hw⟩ := vwa_two hx
      exact .inl ⟨_, _, by rw [hv.int, hw.int], q.plain fg gh (.int _)⟩
    · cases e
  · obtain ⟨ns, m, e, rfl, hd⟩ := best_some ho
    obtain ⟨v, rfl⟩ : ∃ v, xs = [v] := by rcases hd with z | z <;> (rw [z] at hx; exact vwa_one' hx)
    obtain ⟨a, rfl, hs⟩ := over_seq (X := X) hK fg gh hd hx
    obtain ⟨h1, h2⟩ := maxL_spec e
    exact .inr ⟨a, ns, m, rfl, hs, h1, fun k hk => h2 k hk.1 hk.2, q.plain fg gh (.int _)⟩
theorem o_minA (hK : X.K = C.K) (hc : X.calm = true) : CallR X (.builtin "min") (RDn C .va fMinA) := by
  refine call_imp (call_or (call_min2 hc) (call_minO hc)) fun xs H Q ⟨F, G, ds, r, fg, gh, hx, ho, q⟩ => ?_
  unfold fMinA at ho
  split at ho
  · rename_i r' e
    cases ho
    unfold fMin2 at e
    split at e
    · cases e
      obtain ⟨v, w, rfl, hv, hw⟩ := vwa_two hx
      exact .inl ⟨_, _, by rw [hv.int, hw.int], q.plain fg gh (.int _)⟩
    · cases e
  · obtain ⟨ns, m, e, rfl, hd⟩ := best_some ho
    obtain ⟨v, rfl⟩ : ∃ v, xs = [v] := by rcases hd with z | z <;> (rw [z] at hx; exact vwa_one' hx)
    obtain ⟨a, rfl, hs⟩ := over_seq (X := X) hK fg gh hd hx
    obtain ⟨h1, h2⟩ := minL_spec e
    exact .inr ⟨a, ns, m, rfl, hs, h1, fun k hk => h2 k hk.1 hk.2, q.plain fg gh (.int _)⟩
theorem o_sum (hK : X.K = C.K) (hc : X.calm = true) : CallR X (.builtin "sum") (RDn C .va fSum) := by
  refine call_imp (call_sumO hc) fun xs H Q ⟨F, G, ds, r, fg, gh, hx, ho, q⟩ => ?_
  obtain ⟨ns, m, e, rfl, hd⟩ := best_some ho
  obtain ⟨v, rfl⟩ : ∃ v, xs = [v] := by rcases hd with z | z <;> (rw [z] at hx; exact vwa_one' hx)
  obtain ⟨a, rfl, hs⟩ := over_seq (X := X) hK fg gh hd hx
  cases e
  exact ⟨a, ns, rfl, hs, q.plain fg gh (.int _)⟩
theorem o_str : CallR X (.type "str") (RDn C .va fStr) := by
  refine call_imp call_str_int fun xs H Q ⟨F, G, ds, r, fg, gh, hx, ho, q⟩ => ?_
  unfold fStr at ho
  split at ho
  · obtain ⟨hz, rfl⟩ := bool_ite ho
    obtain ⟨v, rfl, hv⟩ := vwa_one hx
    exact ⟨_, by rw [hv.int], hz, q.plain fg gh (.str _)⟩
  · cases ho
theorem px_or {e : Expr} {t t' : TE} (h : PE X e t) (h' : PE X e t') : PE X e (fun σ H Q => t σ H Q ∨ t' σ H Q) := ⟨fun p s σ H Q I q => q.elim (h.run p s σ H Q I) (h'.run p s σ H Q I)⟩
def oRev : PyData → Option PyData
  | .list xs => some (.list xs.reverse)
  | .tuple xs => some (.tuple xs.reverse)
  | _ => none
theorem x_rev {a : Expr} {fa : Ex} {m : Mode} {k : Nat} {p1 p2 p3 pos : Pos} (hK : X.K = C.K) (ha : PE X a (TX C m fa)) :
    PE X (.Subscript a (.Slice none none (some (.UnaryOp .USub (.Constant (.int 1) k p1) p2)) p3) pos) (TX C .nw (e1 oRev fa)) := by
  refine pe_weak (px_or (pe_revL ha) (pe_revT ha)) fun σ H Q ⟨ρ, W, F, G, d, W', R, ef, q⟩ => ?_
  unfold e1 at ef
  split at ef
  · rename_i x W1 h1
    cases ho : oRev x with
    | none => rw [ho] at ef; cases ef
    | some r =>
      rw [ho] at ef
      cases ef
      unfold oRev at ho
      split at ho
      · cases ho
        refine .inl ⟨ρ, W, F, G, _, _, R, h1, fun v F1 G1 H1 x1 R1 r1 => ?_⟩
        obtain ⟨b, vs, rfl, g1, g2⟩ := r1.vw.list R1.fg R1.gh
        refine ⟨b, vs, rfl, SqL.of g1, fun p n => ?_⟩
        exact End1.lst (C := C) (fun v3 F3 G3 H3 g3 r3 => q v3 F3 G3 H3 (x1.trans g3.ext) (R1.gr g3) (r3.back x1)) R1.fg R1.gh (dpa_rev g2) n
      · cases ho
        refine .inr ⟨ρ, W, F, G, _, _, R, h1, fun v F1 G1 H1 x1 R1 r1 => ?_⟩
        obtain ⟨b, vs, rfl, g1, g2⟩ := r1.vw.tuple R1.fg R1.gh
        refine ⟨b, vs, rfl, hK ▸ g1, fun p n => ?_⟩
        exact End1.tup (m := .nw) (C := C) (fun v3 F3 G3 H3 g3 r3 => q v3 F3 G3 H3 (x1.trans g3.ext) (R1.gr g3) (r3.back x1)) R1.fg R1.gh (dpa_rev g2) n
      · cases ho
  · cases ef
end
end Dv
set_option Elab.async false
set_option linter.all false
set_option maxRecDepth 100000
set_option maxHeartbeats 1000000
/-! Part 9u: xs.extend(ys), xs.pop(), xs.pop(i). -/
namespace Dv
open PySem PySem.Spec PyProof.Rows L2
section
open PySem.SeqAt
open PySem.AutoSeq1 (wpAny_loadPart')
open PySem.MeetsSeq PySem.MeetsSeq2 PySem.MeetsSeq3 PySem.AutoSeq1
theorem ext_tup (l : Addr) (xs : Array Value) (n : Nat) (b : Addr) (ys : Array Value) (m : Nat) (dd : Option Addr) (sl : Array (Option Value))
    (h0 : ¬(!xs.isEmpty && Builtin.List.listTooLong (xs.size + ys.size)) = true) (h1 : xs.size ≤ sizeLine) (h2 : xs.size + ys.size ≤ sizeLine + 1) :
    Meets (Builtin.«list.extend» ⟨[.ref l, .ref b], []⟩) (fun _ R s =>
      s.heap.get? l = some { cls := .type "list", dict := none, data := .seq xs n, slots := #[] } ∧
      s.heap.get? b = some { cls := .type "tuple", dict := dd, data := .seq ys m, slots := sl } ∧
      R (.ok (.ret Value.none)) { s with heap := s.heap.update l (Obj.mapSeq fun x => x ++ ys), toks := s.toks }) :=
  .of_wp fun prog w A R s h => by
    obtain ⟨hp, g, d, tk, os⟩ := s
    obtain ⟨hl, hb, h⟩ := h
    have f1 := idx_int
    have f2 := AutoSeq1.sub_tuple_tuple
    have f3 := AutoSeq1.sub_list_list
    have f4 := AutoSeq1.sub_tuple_list
    have f5 := AutoSeq1.sub_list_tuple
    have hz : (xs ++ ys).size ≤ sizeLine + 1 := by
      rw [Array.size_append]
      exact h2
    wp_walk using (wpAny_updateSeq hl rfl (hz := h1) (_hz' := hz)), wpAny_loadPart' hl, wpAny_loadPart' hb
    exact ⟨_, rfl, h⟩
end

section
variable {X : Cx} {C : Ct}
def rExtT (K : PySem.W.Frag) : V → List V → Hp → VK → Prop := fun x vs H Q => ∃ l b xs zs, x = .ref l ∧ vs = [.ref b] ∧ H l = some (.lst xs) ∧ SqT K H b zs ∧ xs.length + zs.length ≤ sizeLine ∧ Q .non (upd H l (.lst (xs ++ zs)))
theorem mt_extT : MtM X "list.extend" (rExtT X.K) := by
  intro pins s σ H x vs v us Q I rx rv h
  obtain ⟨l, b, xs, zs, rfl, rfl, hH, hB, hz, q⟩ := h
  cases rx
  obtain ⟨u, rfl, ru⟩ := rv.one
  cases ru
  obtain ⟨z, its, n, r, hl, e⟩ := I.lstM hH
  obtain ⟨its2, r2, ⟨⟨cc, dd, data, sl⟩, e2, c2, n2, d2⟩, _⟩ := I.tuple hB
  have l1 := r.length
  have l2 := r2.length
  simp only at c2 d2
  subst c2 d2
  have fits : its.toArray.size + its2.toArray.size ≤ sizeLine := by
    rw [List.size_toArray, List.size_toArray]
    omega
  have short : ¬ (!its.toArray.isEmpty && Builtin.List.listTooLong (its.toArray.size + its2.toArray.size)) = true := by
    rw [show Builtin.List.listTooLong (its.toArray.size + its2.toArray.size) = false from notLongL fits, Bool.and_false]
    exact Bool.false_ne_true
  refine call_meets F.slot_list_extend ⟨_, e, rfl⟩ F.entry_list_extend (F.args_list_extend_2 _ _)
    (ext_tup l its.toArray n b its2.toArray n2 dd sl short (by rw [List.size_toArray]; omega) (by omega)) ⟨e, e2, ?_⟩
  refine ⟨.non, _, I.lset (its' := its ++ its2) hH e (by simp) (r.append r2) ?_, rfl, q⟩
  rw [List.length_append]
  omega
theorem mtm_imp {id : String} {r r' : V → List V → Hp → VK → Prop} (h : MtM X id r) (w : ∀ x xs H Q, r' x xs H Q → r x xs H Q) : MtM X id r' := fun p s σ H x xs v us Q I rx rv q => h p s σ H x xs v us Q I rx rv (w x xs H Q q)
theorem mtm_or {id : String} {r r' : V → List V → Hp → VK → Prop} (h : MtM X id r) (h' : MtM X id r') : MtM X id (fun x xs H Q => r x xs H Q ∨ r' x xs H Q) := fun p s σ H x xs v us Q I rx rv q => q.elim (h p s σ H x xs v us Q I rx rv) (h' p s σ H x xs v us Q I rx rv)
/-- xs.extend(e) -/
def sExt (i : Nat) (f : Ex) : Sx := fun ρ W => match iSeq f ρ W with
  | some (ds, W1) => match ρ[i]? with
    | some (.own xs) => if xs.length + ds.length ≤ sizeLine then some (.nx (ρ.set i (.own (xs ++ ds))) W1) else none
    | _ => none
  | none => none
theorem st_ext {a : Expr} {f : Ex} {i : Nat} {x : Str} {p1 ap cp pos : Pos} (hK : X.K = C.K) (hN : X.N[i]? = some x) (hv : Vis X.env.scope x) (hd : (x == ("__debug__" : Str)) = false) (hcd : (x == ("__classdict__" : Str)) = false) (h : PE X a (TX C .va f))
    (hbase : attributeBase (.Name x p1) "extend" X.env (eval (.Name x p1) X.env) = eval (.Name x p1) X.env)
    (hfew : ((backTo cp (starEach [a] X.env)).all (fun x => !x.1) && (backToKw cp (keywordEach [] X.env)).all (fun x => x.1.isSome) && decide ([a].length + ([] : List Keyword).length + (if ([] : List Keyword).isEmpty then 0 else 1) < 30)) = true)
    (hline : (ap.endLine == cp.line) = true) (hs : starEach [a] X.env = (false, eval a X.env) :: starEach [] X.env) (hpl : (backTo cp (starEach [] X.env)).any (·.1) = false)
    (hsw : swapsWith (.Call (.Attribute (.Name x p1) "extend" ap) [a] [] cp) none pos.line X.env = pure false) :
    PS X (.Expr (.Call (.Attribute (.Name x p1) "extend" ap) [a] [] cp) pos) (TS' C (sExt i f)) := by
  refine ps_weak (ps_expr (pe_bm PySem.F.plainAttrs_list PySem.F.slot_list_extend PySem.F.type_list_extend (mtm_or mt_extend mt_extT) (pe_var hN hv hd hcd) (l_cons h l_nil hs) hbase hfew hline hs hpl) hsw) fun D σ H ⟨ρ, W, F, G, o, R, e, q⟩ => ?_
  unfold sExt at e
  split at e
  · rename_i ds W1 e1
    split at e
    · rename_i xs e2
      split at e
      · rename_i hz
        cases e
        obtain ⟨ov, g1, g2⟩ := R.sl i _ e2
        cases g2 with
        | @own b us _ k1 k2 k3 k4 =>
          have lk := dpa_len k4
          unfold iSeq at e1
          split at e1
          · rename_i W2 e3
            cases e1
            refine ⟨.ref b, g1, .inl ⟨rfl, us, SqL.of (R.gh _ _ k1)⟩, ρ, W, F, G, _, W1, R, lOne e3, fun vs F1 G1 H1 x1 R1 r1 => ?_⟩
            cases r1 with
            | @cons y _ ys _ ry rn =>
              cases rn
              cases ry with
              | @lst c zs _ m1 m2 =>
                refine .inl ⟨b, c, us, zs, rfl, rfl, R1.gh _ _ (x1.g _ _ k1), R1.fh _ _ m1, by rw [lk, dpa_len m2]; exact hz, ?_⟩
                exact q F1 _ σ _ x1.f (R1.mutOwn e2 g1 (dpa_append (dpa_same x1.f k4) m2))
          · rename_i W2 e3
            cases e1
            refine ⟨.ref b, g1, .inl ⟨rfl, us, SqL.of (R.gh _ _ k1)⟩, ρ, W, F, G, _, W1, R, lOne e3, fun vs F1 G1 H1 x1 R1 r1 => ?_⟩
            cases r1 with
            | @cons y _ ys _ ry rn =>
              cases rn
              cases ry with
              | @tup c zs _ m1 m2 =>
                refine .inr ⟨b, c, us, zs, rfl, rfl, R1.gh _ _ (x1.g _ _ k1), hK ▸ sqt_same R1.fh m1, by rw [lk, dpa_len m2]; exact hz, ?_⟩
                exact q F1 _ σ _ x1.f (R1.mutOwn e2 g1 (dpa_append (dpa_same x1.f k4) m2))
          · cases e1
      · cases e
    · cases e
  · cases e
/-- y = xs.pop() -/
def sPop (j i : Nat) : Sx := fun ρ W => match ρ[i]? with
  | some (.own xs) => match xs[xs.length - 1]? with
    | some d => some (.nx ((ρ.set i (.own xs.dropLast)).set j (.d d)) W)
    | none => none
  | _ => none
theorem dpa_dropLast {K : PySem.W.Frag} {H : Hp} : ∀ {vs : List V} {ds : List PyData}, DqAll K H vs ds → DqAll K H vs.dropLast ds.dropLast
  | _, _, .nil => .nil
  | _, _, .cons _ .nil => .nil
  | _, _, .cons a (.cons b r) => .cons a (dpa_dropLast (.cons b r))
theorem st_pop {i j : Nat} {x y : Str} {p1 py ap cp pos : Pos} (hnd : X.N.Nodup) (hN : X.N[i]? = some x) (hv : Vis X.env.scope x) (hd : (x == ("__debug__" : Str)) = false) (hcd : (x == ("__classdict__" : Str)) = false)
    (hj : X.N[j]? = some y) (hy : Loc X.env.scope y) (hf : X.fn y = true ∨ X.env.scope.names.lookup y = some .local) (hij : i ≠ j)
    (hline : (ap.endLine == cp.line) = true) :
    PS X (.Assign [.Name y py] (.Call (.Attribute (.Name x p1) "pop" ap) [] [] cp) pos) (TS' C (sPop j i)) := by
  refine ps_weak (ps_set hnd hj hy (pe_bm0 PySem.F.plainAttrs_list PySem.F.slot_list_pop PySem.F.type_list_pop mt_pop (pe_var hN hv hd hcd) rfl hline) rfl hf) fun D σ H ⟨ρ, W, F, G, o, R, e, q⟩ => ?_
  unfold sPop at e
  split at e
  · rename_i xs e2
    split at e
    · rename_i d e3
      cases e
      obtain ⟨ov, g1, g2⟩ := R.sl i _ e2
      cases g2 with
      | @own b us _ k1 k2 k3 k4 =>
        have lk := dpa_len k4
        obtain ⟨u, hu, du⟩ := dpa_get' k4 e3
        refine ⟨.ref b, g1, .inl ⟨rfl, us, SqL.of (R.gh _ _ k1)⟩, b, us, u, rfl, rfl, R.gh _ _ k1, by rw [lk]; exact hu, ?_⟩
        exact q F _ _ _ (Same.refl _) ((R.mutOwn e2 g1 (dpa_dropLast k4)).set j du)
    · cases e
  · cases e
/-- y = xs.pop(e) -/
def sPopAt (j i : Nat) (f : Ex) : Sx := fun ρ W => match f ρ W with
  | some (.int k, W1) => match ρ[i]? with
    | some (.own xs) => if 0 ≤ k ∧ k < xs.length ∧ xs.length ≤ sizeLine then match xs[k.toNat]? with
      | some d => some (.nx ((ρ.set i (.own (xs.eraseIdx k.toNat))).set j (.d d)) W1)
      | none => none else none
    | _ => none
  | _ => none
theorem dpa_erase {K : PySem.W.Frag} {H : Hp} : ∀ {vs : List V} {ds : List PyData} (n : Nat), DqAll K H vs ds → DqAll K H (vs.eraseIdx n) (ds.eraseIdx n)
  | _, _, _, .nil => .nil
  | _, _, 0, .cons _ r => r
  | _, _, n + 1, .cons a r => .cons a (dpa_erase n r)
theorem st_popAt {i j : Nat} {x y : Str} {a : Expr} {f : Ex} {m : Mode} {p1 py ap cp pos : Pos} (hnd : X.N.Nodup) (hN : X.N[i]? = some x) (hv : Vis X.env.scope x) (hd : (x == ("__debug__" : Str)) = false) (hcd : (x == ("__classdict__" : Str)) = false)
    (hj : X.N[j]? = some y) (hy : Loc X.env.scope y) (hf : X.fn y = true ∨ X.env.scope.names.lookup y = some .local) (h : PE X a (TX C .va f))
    (hfew : ((backTo cp (starEach [a] X.env)).all (fun x => !x.1) && (backToKw cp (keywordEach [] X.env)).all (fun x => x.1.isSome) && decide ([a].length + ([] : List Keyword).length + (if ([] : List Keyword).isEmpty then 0 else 1) < 30)) = true)
    (hs : starEach [a] X.env = (false, eval a X.env) :: starEach [] X.env) (hpl : (backTo cp (starEach [] X.env)).any (·.1) = false)
    (hline : (ap.endLine == cp.line) = true) :
    PS X (.Assign [.Name y py] (.Call (.Attribute (.Name x p1) "pop" ap) [a] [] cp) pos) (TS' C (sPopAt j i f)) := by
  refine ps_weak (ps_set hnd hj hy (pe_bm PySem.F.plainAttrs_list PySem.F.slot_list_pop PySem.F.type_list_pop mt_popAt (pe_var hN hv hd hcd) (l_cons h l_nil hs) rfl hfew hline hs hpl) rfl hf) fun D σ H ⟨ρ, W, F, G, o, R, e, q⟩ => ?_
  unfold sPopAt at e
  split at e
  · rename_i k W1 e1
    split at e
    · rename_i xs e2
      split at e
      · rename_i hz
        obtain ⟨z1, z2, z3⟩ := hz
        split at e
        · rename_i d e3
          cases e
          obtain ⟨ov, g1, g2⟩ := R.sl i _ e2
          cases g2 with
          | @own b us _ k1 k2 k3 k4 =>
            have lk := dpa_len k4
            refine ⟨.ref b, g1, .inl ⟨rfl, us, SqL.of (R.gh _ _ k1)⟩, ρ, W, F, G, [.int k], W1, R, lOne e1, fun vs F1 G1 H1 x1 R1 r1 => ?_⟩
            cases r1 with
            | @cons y _ ys _ ry rn =>
              cases rn
              cases ry
              obtain ⟨u, hu, du⟩ := dpa_get' (dpa_same x1.f k4) e3
              rw [sizeLine_eq] at z3
              refine ⟨b, us, k, k.toNat, u, rfl, rfl, R1.gh _ _ (x1.g _ _ k1), by omega, by omega, ?_, hu, ?_⟩
              · unfold seqIndex?
                rw [lk]
                have n0 : ¬ k < 0 := by omega
                simp only [n0, if_false]
                first
                  | rfl
                  | (rw [if_pos (by omega)])
                  | (simp; omega)
              · exact q F1 _ _ _ x1.f ((R1.mutOwn e2 g1 (dpa_erase _ (dpa_same x1.f k4))).set j du)
        · cases e
      · cases e
    · cases e
  · cases e
end
end Dv
set_option Elab.async false
set_option linter.all false
set_option maxRecDepth 100000
set_option maxHeartbeats 1000000
/-! Part 9v: zip(x, y, strict=True), at the library's level. -/
namespace Dv
open PySem PySem.Spec PyProof.Rows L2
abbrev ZipS (h : Heap) (z TI TO : Addr) (f0 : Value) : Prop :=
  h.get? z = some { cls := .type "zip", dict := none, data := .fields #[f0, .bool false, .bool true, .ref TI, .ref TO], slots := #[] }
section
variable {prog : Program} {w : World} {A : Around} {E : Value → Shared → Prop} {s : Shared}
  {z TI TO i1 i2 : Addr} {fp1 fp2 : List Addr} {n1 n2 i : Nat} {P1 P2 : Nat → Value → Prop} {St1 St2 : Nat → Heap → Prop} {a1 a2 : Value}
/-- an item, by a try -/
theorem orEnd_item {it : Addr} {fp : List Addr} {n : Nat} {P : Nat → Value → Prop} {St : Nat → Heap → Prop} {Q : Option Value → Shared → Prop}
    (D : Draws prog w A it fp n P St) (lt : i < n) (st : St i s.heap)
    (h : ∀ x h' tk, P i x → St (i + 1) h' → Heap.SameBut it s.heap h' → Q (some x) { s with heap := h', toks := tk }) :
    wpAny (model prog w) A (Builtin.SmallTypes.nextOrEnd (.ref it)) Q E s := by
  unfold Builtin.SmallTypes.nextOrEnd
  exact wpAny_bind (wpAny_attempt (D.item i s _ _ lt st fun x h' tk p q r => wpAny_pure (h x h' tk p q r)))
theorem orEnd_done {it : Addr} {fp : List Addr} {n : Nat} {P : Nat → Value → Prop} {St : Nat → Heap → Prop} {Q : Option Value → Shared → Prop}
    (D : Draws prog w A it fp n P St) (st : St n s.heap)
    (h : ∀ h', Heap.ExtBut it s.heap h' → Q none { s with heap := h' }) :
    wpAny (model prog w) A (Builtin.SmallTypes.nextOrEnd (.ref it)) Q E s := by
  unfold Builtin.SmallTypes.nextOrEnd
  refine wpAny_bind (wpAny_attempt (D.done s _ _ st fun h' e k he => ?_))
  obtain ⟨o, ho, hc⟩ := he
  refine wpAny_bind (wpAny_isInstance (T := "StopIteration") (b := true) ⟨o, ho, hc⟩ isSubtype_stop ?_)
  exact wpAny_pure (h h' k)
theorem stop_now {α : Type} (hh : A.handled = none) {Q : α → Shared → Prop}
    (hE : ∀ h' e, (∀ c o, s.heap.get? c = some o → h'.get? c = some o) → (∃ o, h'.get? e = some o ∧ o.cls = .type "StopIteration") → E (.ref e) { s with heap := h' }) :
    wpAny (model prog w) A (Builtin.SmallTypes.stopIteration : Sem α) Q E s := by
  unfold Builtin.SmallTypes.stopIteration
  refine wpAny_bind ?_
  simp only [newExc, newTuple]
  refine wpAny_bind (wpAny_newObj_type ?_ (by size_fits))
  refine wpAny_bind (m := firstArgMember _ _) (wpAny_of_eq (a := Value.none)
    (by first
      | rfl
      | (simp only [firstArgMember]; rfl)) ?_)
  refine wpAny_newObj_type ?_ (by size_fits)
  simp only [raiseNew]
  refine wpAny_bind (wpAny_handled ?_)
  rw [hh]
  refine wpAny_bind (wpAny_pure (wpAny_throw ?_))
  exact hE _ _ (fun c o e => Heap.get?_push_of_some _ (Heap.get?_push_of_some _ e)) ⟨_, Heap.get?_push_size _ rfl, rfl⟩

theorem zipS_item {Q : Value → Shared → Prop} (S : ZipSep2 z TI TO i1 i2 fp1 fp2) (D1 : Draws prog w A i1 fp1 n1 P1 St1) (D2 : Draws prog w A i2 fp2 n2 P2 St2)
    (hz : ZipS s.heap z TI TO .none) (hTI : IsTupOf2 s.heap TI (.ref i1) (.ref i2)) (hTO : IsTupOf2 s.heap TO a1 a2) (st1 : St1 i s.heap) (st2 : St2 i s.heap) (lt1 : i < n1) (lt2 : i < n2)
    (hQ : ∀ x1 x2 h' tk, P1 i x1 → P2 i x2 → ZipS h' z TI TO (rawInt s.heap.objs.size) → IsTupOf2 h' TO x1 x2 → St1 (i + 1) h' → St2 (i + 1) h' → IsTupOf2 h' s.heap.objs.size x1 x2 → h'.objs.size = s.heap.objs.size + 1 →
      (∀ c o, c ≠ z → c ≠ TO → c ≠ i1 → c ≠ i2 → s.heap.get? c = some o → h'.get? c = some o) → Q (.ref s.heap.objs.size) { s with heap := h', toks := tk }) :
    wpAny (model prog w) A (Builtin.«zip.__next__» ⟨[.ref z], []⟩) (fun fin s' => ∃ v, fin = .done (.ret v) ∧ Q v s') E s := by
  obtain ⟨hp, g, d, tk0, os⟩ := s
  show wpAny _ _ (field (.ref z) 2 >>= _) _ _ _
  refine wpAny_bind (wpAny_field hz rfl
    (x := .bool true) rfl ?_)
  show wpAny _ _ (field (.ref z) 3 >>= _) _ _ _
  refine wpAny_bind (wpAny_field hz rfl
    (x := .ref TI) rfl ?_)
  refine wpAny_bind (wpAny_seqItems hTI rfl ?_)
  show wpAny _ _ (Builtin.SmallTypes.ownedTupleIsFree
    (.ref z) >>= _) _ _ _
  refine wpAny_bind ?_
  unfold Builtin.SmallTypes.ownedTupleIsFree
  refine wpAny_bind (wpAny_field hz rfl
    (x := .none) rfl (wpAny_pure ?_))
  simp only [if_true]
  refine wpAny_bind (wpAny_rule ?_)
  refine wpAny_bind (wpAny_field hz rfl
    (x := .ref TO) rfl ?_)
  refine wpAny_bind (wpAny_setField_rec hz (by simp) fun g0 z0 s0 => ?_)
  replace z0 : ZipS g0 z TI TO .ellipsis := z0
  replace s0 : Heap.SameBut z hp g0 := s0
  refine wpAny_bind ?_
  simp only [List.zipIdx_cons, List.zipIdx_nil,
    List.forIn_cons, List.forIn_nil]
  refine wpAny_bind (wpAny_bind (wpAny_onRaise ?_))
  show wpAny _ _ (Builtin.SmallTypes.nextOrEnd (.ref i1)) _ _ ⟨g0, g, d, tk0, os⟩
  refine orEnd_item D1 lt1 (D1.over st1 s0 S.zf1) fun x1 p1 tk1 y1 sn1 b1 => ?_
  replace b1 : Heap.SameBut i1 g0 p1 := b1
  have U1 : IsTupOf2 p1 TO a1 a2 := b1.extBut _ _ S.Ti1 (s0.extBut _ _ S.TOz hTO)
  refine wpAny_bind (wpAny_seqItems (s := ⟨p1, g, d, tk1, os⟩) U1 rfl ?_)
  refine wpAny_bind (updateSeq_IsTupOf2 (s := ⟨p1, g, d, tk1, os⟩) U1 fun g1 T1 s1 => ?_)
  replace T1 : IsTupOf2 g1 TO x1 a2 := T1
  replace s1 : Heap.SameBut TO p1 g1 := s1
  refine wpAny_bind (wpAny_letGo (wpAny_pure ?_))
  refine wpAny_bind (wpAny_bind (wpAny_onRaise ?_))
  show wpAny _ _ (Builtin.SmallTypes.nextOrEnd (.ref i2)) _ _ ⟨g1, g, d, tk1, os⟩
  refine orEnd_item D2 lt2 (D2.over (D2.over (D2.over st2 s0 S.zf2) b1 S.sep1_2) s1 S.Tf2) fun x2 p2 tk2 y2 sn2 b2 => ?_
  replace b2 : Heap.SameBut i2 g1 p2 := b2
  have U2 : IsTupOf2 p2 TO x1 a2 := b2.extBut _ _ S.Ti2 T1
  refine wpAny_bind (wpAny_seqItems (s := ⟨p2, g, d, tk2, os⟩) U2 rfl ?_)
  refine wpAny_bind (updateSeq_IsTupOf2 (s := ⟨p2, g, d, tk2, os⟩) U2 fun g2 T2 s2 => ?_)
  replace T2 : IsTupOf2 g2 TO x1 x2 := T2
  replace s2 : Heap.SameBut TO p2 g2 := s2
  refine wpAny_bind (wpAny_letGo (wpAny_pure (wpAny_pure ?_)))
  refine wpAny_bind (wpAny_seqItems (s := ⟨g2, g, d, tk2, os⟩) T2 rfl ?_)
  refine wpAny_bind (wpAny_newTuple ?_)
  have sz : g2.objs.size = hp.objs.size := by rw [s2.1, b2.1, s1.1, b1.1, s0.1]
  have zz : ZipS g2 z TI TO .ellipsis := s2.extBut _ _ S.TOz.symm (b2.extBut _ _ S.zi2 (s1.extBut _ _ S.TOz.symm (b1.extBut _ _ S.zi1 z0)))
  have kk : ∀ c o, c ≠ z → c ≠ TO → c ≠ i1 → c ≠ i2 → hp.get? c = some o → g2.get? c = some o := fun c o cz cT c1 c2 e =>
    s2.extBut _ _ cT (b2.extBut _ _ c2 (s1.extBut _ _ cT (b1.extBut _ _ c1 (s0.extBut _ _ cz e))))
  have j1 : St1 (i + 1) g2 := D1.over (D1.over (D1.over sn1 s1 S.Tf1) b2 S.sep2_1) s2 S.Tf1
  have j2 : St2 (i + 1) g2 := D2.over sn2 s2 S.Tf2
  have zlt : z < g2.objs.size := Heap.lt_size zz
  show wpAny _ _ (Builtin.SmallTypes.ownedTupleHandOut (.ref z) (.ref g2.objs.size) >>= _) _ _ ⟨g2.push { cls := .type "tuple", data := .seq #[x1, x2] }, g, d, tk2, os⟩
  refine wpAny_bind ?_
  unfold Builtin.SmallTypes.ownedTupleHandOut
  have z6 : ZipS (g2.push { cls := .type "tuple", data := .seq #[x1, x2] }) z TI TO .ellipsis := Heap.get?_push_of_some _ zz
  refine wpAny_bind (wpAny_setField_rec z6 (by simp) fun h7 z7 s7 => ?_)
  replace z7 : ZipS h7 z TI TO (rawInt g2.objs.size) := z7
  refine wpAny_setField_rec z7 (by simp) fun h8 z8 s8 => ?_
  replace z8 : ZipS h8 z TI TO (rawInt g2.objs.size) := z8
  replace s7 : Heap.SameBut z (g2.push { cls := .type "tuple", data := .seq #[x1, x2] }) h7 := s7
  replace s8 : Heap.SameBut z h7 h8 := s8
  have up : ∀ c o, c ≠ z → g2.get? c = some o → h8.get? c = some o := fun c o c1 e => s8.extBut _ _ c1 (s7.extBut _ _ c1 (Heap.get?_push_of_some _ e))
  have T8 : IsTupOf2 h8 g2.objs.size x1 x2 := s8.extBut _ _ (Nat.ne_of_gt zlt) (s7.extBut _ _ (Nat.ne_of_gt zlt) (Heap.get?_push_size _ rfl))
  have q8 : h8.objs.size = g2.objs.size + 1 := by rw [s8.1, s7.1, Heap.size_push]
  rw [sz] at z8 T8 q8
  refine wpAny_pure ⟨_, rfl, ?_⟩
  show Q (.ref g2.objs.size) ⟨h8, g, d, tk2, os⟩
  rw [sz]
  exact hQ x1 x2 h8 tk2 y1 y2 z8 (up _ _ S.TOz T2) (D1.frame _ _ _ j1 fun b hb o e => up b o (fun q => S.zf1 (q ▸ hb)) e)
    (D2.frame _ _ _ j2 fun b hb o e => up b o (fun q => S.zf2 (q ▸ hb)) e) T8 q8 fun c o cz cT c1 c2 e => up c o cz (kk c o cz cT c1 c2 e)

theorem zipS_done {Q : PySem.Fin → Shared → Prop} (hh : A.handled = none) (S : ZipSep2 z TI TO i1 i2 fp1 fp2) (D1 : Draws prog w A i1 fp1 n1 P1 St1) (D2 : Draws prog w A i2 fp2 n2 P2 St2)
    (hz : ZipS s.heap z TI TO .none) (hTI : IsTupOf2 s.heap TI (.ref i1) (.ref i2)) (hTO : IsTupOf2 s.heap TO a1 a2) (st1 : St1 n1 s.heap) (st2 : St2 n2 s.heap) (ext : ∀ h h', St2 n2 h → (∀ b ∈ fp2, ∀ o, h.get? b = some o → h'.get? b = some o) → St2 n2 h')
    (hE : ∀ h' tk e, (∀ c o, c ≠ z → c ≠ TO → c ≠ i1 → c ≠ i2 → s.heap.get? c = some o → h'.get? c = some o) → (∃ o, h'.get? e = some o ∧ o.cls = .type "StopIteration") → E (.ref e) { s with heap := h', toks := tk }) :
    wpAny (model prog w) A (Builtin.«zip.__next__» ⟨[.ref z], []⟩) Q E s := by
  obtain ⟨hp, g, d, tk0, os⟩ := s
  show wpAny _ _ (field (.ref z) 2 >>= _) _ _ _
  refine wpAny_bind (wpAny_field hz rfl
    (x := .bool true) rfl ?_)
  show wpAny _ _ (field (.ref z) 3 >>= _) _ _ _
  refine wpAny_bind (wpAny_field hz rfl
    (x := .ref TI) rfl ?_)
  refine wpAny_bind (wpAny_seqItems hTI rfl ?_)
  show wpAny _ _ (Builtin.SmallTypes.ownedTupleIsFree
    (.ref z) >>= _) _ _ _
  refine wpAny_bind ?_
  unfold Builtin.SmallTypes.ownedTupleIsFree
  refine wpAny_bind (wpAny_field hz rfl
    (x := .none) rfl (wpAny_pure ?_))
  simp only [if_true]
  refine wpAny_bind (wpAny_rule ?_)
  refine wpAny_bind (wpAny_field hz rfl
    (x := .ref TO) rfl ?_)
  refine wpAny_bind (wpAny_setField_rec hz (by simp) fun g0 z0 s0 => ?_)
  replace z0 : ZipS g0 z TI TO .ellipsis := z0
  replace s0 : Heap.SameBut z hp g0 := s0
  refine wpAny_bind ?_
  simp only [List.zipIdx_cons, List.zipIdx_nil,
    List.forIn_cons, List.forIn_nil]
  refine wpAny_bind (wpAny_bind (wpAny_onRaise ?_))
  show wpAny _ _ (Builtin.SmallTypes.nextOrEnd (.ref i1)) _ _ ⟨g0, g, d, tk0, os⟩
  refine orEnd_done D1 (D1.over st1 s0 S.zf1) fun q k1 => ?_
  replace k1 : Heap.ExtBut i1 g0 q := k1
  have zq : ZipS q z TI TO .ellipsis := k1 _ _ S.zi1 z0
  refine wpAny_bind (wpAny_setField_rec (s := ⟨q, g, d, tk0, os⟩) zq (by simp) fun q' _ k2 => ?_)
  replace k2 : Heap.SameBut z q q' := k2
  refine wpAny_bind (wpAny_bind ?_)
  simp only [List.drop_succ_cons, List.drop_zero,
    List.zipIdx_cons, List.zipIdx_nil,
    List.forIn_cons, List.forIn_nil]
  refine wpAny_bind (wpAny_bind (orEnd_done D2 (ext _ _ (D2.over st2 s0 S.zf2) fun b hb o e => k2.extBut b o (fun y => S.zf2 (y ▸ hb)) (k1 b o (fun y => S.sep1_2 (y ▸ hb)) e)) fun r k3 => ?_))
  replace k3 : Heap.ExtBut i2 q' r := k3
  simp only [Option.isSome_none, Bool.false_eq_true, if_false]
  refine wpAny_pure (wpAny_pure (wpAny_bind (wpAny_rule ?_)))
  refine stop_now hh fun h' e k4 he => ?_
  exact hE h' tk0 e (fun c o cz cT c1 c2 x => k4 c o (k3 c o c2 (k2.extBut c o cz (k1 c o c1 (s0.extBut c o cz x))))) he
end

/-! ### it is made -/
theorem tc_zipS (a b c : Value) : checkTypeCall "zip" ⟨[a, b], [(Str.ofString "strict", c)]⟩ = pure () := by kernel_rfl
theorem nc_zipS (a b c : Value) : checkBuiltinCall "zip.__new__" ⟨[.type "zip", a, b], [(Str.ofString "strict", c)]⟩ = pure () := by kernel_rfl
theorem ao_zipS (obj a b c : Value) : argsOk "object.__init__" ⟨[obj, a, b], [(Str.ofString "strict", c)]⟩ := by
  unfold argsOk
  kernel_rfl
abbrev zsZ (h : Heap) (o1 o2 : Obj) : Heap := (gzO2 h o1 o2).push { cls := .type "zip", data := .fields #[.none, .bool false, .bool true, .ref ((h.push o1).push o2).objs.size, .ref (gzT2 h o1 o2).objs.size] }
theorem meets_zipS {v1 v2 : Value} {o1 o2 : Obj} {H1 H2 : Heap → Prop} (B1 : Begins v1 o1 H1) (B2 : Begins v2 o2 H2) :
    Meets (Builtin.«zip.__new__» ⟨[.type "zip", v1, v2], [(Str.ofString "strict", .bool true)]⟩) (fun _ R s => (H1 s.heap ∧ H2 s.heap) ∧
      R (.ok (.ret (.ref (gzO2 s.heap o1 o2).objs.size))) { s with heap := zsZ s.heap o1 o2 }) :=
  .of_wp fun prog w A R s h => by
    obtain ⟨hp, g, d, tk, os⟩ := s
    obtain ⟨⟨h1, h2⟩, h⟩ := h
    have hsub := sub_zip
    have e1 : (Str.ofString "strict" == ("strict" : Str)) = true := by decide +kernel
    have e2 : (Str.ofString "strict" != ("strict" : Str)) = false := by decide +kernel
    have q1 : ∀ {A' : Around} {E : Value → Shared → Prop} {Q : Value → Shared → Prop}, Q (.ref hp.objs.size) ⟨(hp.push o1), g, d, tk, os⟩ →
        wpAny (model prog w) A' (pyIter v1) Q E ⟨hp, g, d, tk, os⟩ :=
      fun q => B1.iter prog w _ _ ⟨hp, g, d, tk, os⟩ _ (B1.keeps _ _ h1 fun b o' e => e) q
    have q2 : ∀ {A' : Around} {E : Value → Shared → Prop} {Q : Value → Shared → Prop}, Q (.ref (hp.push o1).objs.size) ⟨((hp.push o1).push o2), g, d, tk, os⟩ →
        wpAny (model prog w) A' (pyIter v2) Q E ⟨(hp.push o1), g, d, tk, os⟩ :=
      fun q => B2.iter prog w _ _ ⟨(hp.push o1), g, d, tk, os⟩ _ (B2.keeps _ _ h2 fun b o' e => (Heap.get?_push_of_some _ e)) q
    wp_walk using q1, q2
    exact ⟨_, rfl, h⟩
section
variable {prog : Program} {w : World} {A : Around} {E : Value → Shared → Prop} {s : Shared}
theorem zipS_begins {v1 v2 : Value} {o1 o2 : Obj} {H1 H2 : Heap → Prop} {Q : Value → Shared → Prop} (B1 : Begins v1 o1 H1) (B2 : Begins v2 o2 H2) (h1 : H1 s.heap) (h2 : H2 s.heap)
    (h : ∀ h', ZipS h' (s.heap.objs.size + 4) (s.heap.objs.size + 2) (s.heap.objs.size + 3) .none → IsTupOf2 h' (s.heap.objs.size + 2) (.ref s.heap.objs.size) (.ref (s.heap.objs.size + 1)) →
      IsTupOf2 h' (s.heap.objs.size + 3) .none .none → h'.get? s.heap.objs.size = some o1 → h'.get? (s.heap.objs.size + 1) = some o2 → h'.objs.size = s.heap.objs.size + 5 →
      (∀ c o, s.heap.get? c = some o → h'.get? c = some o) → Q (.ref (s.heap.objs.size + 4)) { s with heap := h' }) :
    wpAny (model prog w) A (call (.type "zip") [v1, v2] [(Str.ofString "strict", .bool true)]) Q E s := by
  refine callType_newKw F.called_zip (by decide) (tc_zipS _ _ _) (nc_zipS _ _ _) (fun obj => ao_zipS obj _ _ _) F.entry_zip_new (meets_zipS B1 B2) ⟨⟨h1, h2⟩, ?_⟩
  have n1 : (s.heap.push o1).objs.size = s.heap.objs.size + 1 := by rw [Heap.size_push]
  have n2 : ((s.heap.push o1).push o2).objs.size = s.heap.objs.size + 2 := by rw [Heap.size_push, n1]
  have n3 : (gzT2 s.heap o1 o2).objs.size = s.heap.objs.size + 3 := by rw [Heap.size_push, n2]
  have n4 : (gzO2 s.heap o1 o2).objs.size = s.heap.objs.size + 4 := by rw [Heap.size_push, n3]
  have n5 : (zsZ s.heap o1 o2).objs.size = s.heap.objs.size + 5 := by rw [Heap.size_push, n4]
  have w5 : (zsZ s.heap o1 o2).get? (gzO2 s.heap o1 o2).objs.size = some { cls := .type "zip", data := .fields #[.none, .bool false, .bool true, .ref ((s.heap.push o1).push o2).objs.size, .ref (gzT2 s.heap o1 o2).objs.size] } :=
    Heap.get?_push_size _ rfl
  have w4 : (zsZ s.heap o1 o2).get? (gzT2 s.heap o1 o2).objs.size = some { cls := .type "tuple", data := .seq #[.none, .none] } :=
    Heap.get?_push_of_some _ (Heap.get?_push_size _ rfl)
  have w3 : (zsZ s.heap o1 o2).get? ((s.heap.push o1).push o2).objs.size = some { cls := .type "tuple", data := .seq #[.ref s.heap.objs.size, .ref (s.heap.push o1).objs.size] } :=
    Heap.get?_push_of_some _ (Heap.get?_push_of_some _ (Heap.get?_push_size _ rfl))
  have w1 : (zsZ s.heap o1 o2).get? s.heap.objs.size = some o1 :=
    Heap.get?_push_of_some _ (Heap.get?_push_of_some _ (Heap.get?_push_of_some _ (Heap.get?_push_of_some _ (Heap.get?_push_size _ B1.free))))
  have w2 : (zsZ s.heap o1 o2).get? (s.heap.push o1).objs.size = some o2 :=
    Heap.get?_push_of_some _ (Heap.get?_push_of_some _ (Heap.get?_push_of_some _ (Heap.get?_push_size _ B2.free)))
  rw [n4, n3, n2] at w5
  rw [n3] at w4
  rw [n2, n1] at w3
  rw [n1] at w2
  show _ ∧ _
  rw [n4]
  exact ⟨⟨_, w5, rfl⟩, h _ w5 w3 w4 w1 w2 n5 fun c o e => Heap.get?_push_of_some _ (Heap.get?_push_of_some _ (Heap.get?_push_of_some _ (Heap.get?_push_of_some _ (Heap.get?_push_of_some _ e))))⟩
theorem nextS_item {z TI TO i1 i2 : Addr} {fp1 fp2 : List Addr} {n1 n2 i : Nat} {P1 P2 : Nat → Value → Prop} {St1 St2 : Nat → Heap → Prop} {a1 a2 : Value} {Q : Option Value → Shared → Prop}
    (S : ZipSep2 z TI TO i1 i2 fp1 fp2) (D1 : Draws prog w A.in1 i1 fp1 n1 P1 St1) (D2 : Draws prog w A.in1 i2 fp2 n2 P2 St2)
    (hz : ZipS s.heap z TI TO .none) (hTI : IsTupOf2 s.heap TI (.ref i1) (.ref i2)) (hTO : IsTupOf2 s.heap TO a1 a2) (st1 : St1 i s.heap) (st2 : St2 i s.heap) (lt1 : i < n1) (lt2 : i < n2)
    (hQ : ∀ x1 x2 h' tk, P1 i x1 → P2 i x2 → ZipS h' z TI TO (rawInt s.heap.objs.size) → IsTupOf2 h' TO x1 x2 → St1 (i + 1) h' → St2 (i + 1) h' → IsTupOf2 h' s.heap.objs.size x1 x2 → h'.objs.size = s.heap.objs.size + 1 →
      (∀ c o, c ≠ z → c ≠ TO → c ≠ i1 → c ≠ i2 → s.heap.get? c = some o → h'.get? c = some o) → Q (some (.ref s.heap.objs.size)) { s with heap := h', toks := tk }) :
    wpAny (model prog w) A (pyNext (.ref z)) Q E s := by
  have hT : s.TypeIs (.ref z) "zip" := ⟨_, hz, rfl⟩
  unfold pyNext
  exact wpAny_bind (wpAny_attempt (wpAny_callSpecial?_slot (name := Str.ofString "__next__") hT F.slot_zip_next
    (wpAny_call_entry F.slot_zip_next hT F.entry_zip_next (zipS_item S D1 D2 hz hTI hTO st1 st2 lt1 lt2 fun x1 x2 h' tk y1 y2 b1 b2 d1 d2 b5 b6 b7 =>
      wpAny_pure (hQ x1 x2 h' tk y1 y2 b1 b2 d1 d2 b5 b6 b7)) (F.args_zip_next_1 _))))
theorem nextS_done {z TI TO i1 i2 : Addr} {fp1 fp2 : List Addr} {n1 n2 : Nat} {P1 P2 : Nat → Value → Prop} {St1 St2 : Nat → Heap → Prop} {a1 a2 : Value} {Q : Option Value → Shared → Prop}
    (hh : A.handled = none) (S : ZipSep2 z TI TO i1 i2 fp1 fp2) (D1 : Draws prog w A.in1 i1 fp1 n1 P1 St1) (D2 : Draws prog w A.in1 i2 fp2 n2 P2 St2)
    (hz : ZipS s.heap z TI TO .none) (hTI : IsTupOf2 s.heap TI (.ref i1) (.ref i2)) (hTO : IsTupOf2 s.heap TO a1 a2) (st1 : St1 n1 s.heap) (st2 : St2 n2 s.heap)
    (hQ : ∀ h' tk, (∀ c o, c ≠ z → c ≠ TO → c ≠ i1 → c ≠ i2 → s.heap.get? c = some o → h'.get? c = some o) → Q none { s with heap := h', toks := tk }) :
    wpAny (model prog w) A (pyNext (.ref z)) Q E s := by
  have hT : s.TypeIs (.ref z) "zip" := ⟨_, hz, rfl⟩
  unfold pyNext
  refine wpAny_bind (wpAny_attempt (wpAny_callSpecial?_slot (name := Str.ofString "__next__") hT F.slot_zip_next
    (wpAny_call_entry F.slot_zip_next hT F.entry_zip_next (zipS_done hh S D1 D2 hz hTI hTO st1 st2 (fun h h' st k => D2.frame _ _ _ st k) fun h' tk e hk he => ?_) (F.args_zip_next_1 _))))
  obtain ⟨o, ho, hc⟩ := he
  refine wpAny_bind (wpAny_isInstance (T := "StopIteration") (b := true) ⟨o, ho, hc⟩ isSubtype_stop ?_)
  exact wpAny_pure (hQ _ _ hk)
end
end Dv
set_option Elab.async false
set_option linter.all false
set_option maxRecDepth 100000
set_option maxHeartbeats 1000000
/-! Part 9w: walks over enumerate(x), zip(x, y), zip(x, y, strict=True) of lists and tuples. -/
namespace Dv
open PySem PySem.Spec PyProof.Rows L2
/-- a list or (k) a tuple -/
def SqK (k : Bool) (K : PySem.W.Frag) (H : Hp) (a : Addr) (xs : List V) : Prop := match k with
  | true => SqT K H a xs
  | false => SqL K H a xs
def isK (k : Bool) (h : Heap) (a : Addr) (its : Array Value) : Prop := match k with
  | true => h.IsTuple a its
  | false => h.IsList a its
def itK (k : Bool) (h : Heap) (it a : Addr) (i : Nat) : Prop := match k with
  | true => h.IsTupleIter it a i
  | false => h.IsListIter it a i
def itO (k : Bool) (a : Addr) : Obj := match k with
  | true => { cls := .type "tuple_iterator", data := .fields #[.ref a, .int 0 0] }
  | false => { cls := .type "list_iterator", data := .fields #[.ref a, .int 0 0] }
section
variable {X : Cx} {pins : List (Addr × Obj)} {σ : L2.St} {H : Hp} {s : Shared}
theorem sqk_is {k : Bool} {a : Addr} {xs : List V} (I : Inv X pins σ H s) (h : SqK k X.K H a xs) : ∃ its : List Value, Vals xs its ∧ isK k s.heap a its.toArray := by
  cases k with
  | true =>
    obtain ⟨its, r, p, _⟩ := I.tuple h
    exact ⟨its, r, p⟩
  | false =>
    obtain ⟨its, r, p, _⟩ := I.list h
    exact ⟨its, r, p.isList⟩
theorem sqk_inj {k : Bool} {a : Addr} {xs ys : List V} (I : Inv X pins σ H s) (h : SqK k X.K H a xs) (h' : SqK k X.K H a ys) : xs = ys := by
  cases k with
  | true => exact I.tuple_inj h h'
  | false => exact I.list_inj h h'
end
theorem isK_keep {k : Bool} {h h' : Heap} {a : Addr} {its : Array Value} (x : isK k h a its) (e : ∀ o, h.get? a = some o → h'.get? a = some o) : isK k h' a its := by
  cases k with
  | true =>
    obtain ⟨o, q, r⟩ := x
    exact ⟨o, e o q, r⟩
  | false => exact Heap.IsList.at x e
theorem itK_keep {k : Bool} {h h' : Heap} {it a : Addr} {i : Nat} (x : itK k h it a i) (e : ∀ o, h.get? it = some o → h'.get? it = some o) : itK k h' it a i := by
  cases k with
  | true => exact Heap.IsTupleIter.at x e
  | false => exact Heap.IsListIter.at x e
theorem itK_obj {k : Bool} {h : Heap} {it a : Addr} {i : Nat} (x : itK k h it a i) : ∃ o, h.get? it = some o ∧ ∀ v, o.data ≠ .cell v := by
  cases k with
  | true =>
    obtain ⟨o, e, _, d⟩ := x
    exact ⟨o, e, fun v q => by rw [d] at q; cases q⟩
  | false =>
    obtain ⟨o, e, _, d⟩ := x
    exact ⟨o, e, fun v q => by rw [d] at q; cases q⟩
theorem isK_lt {k : Bool} {h : Heap} {a : Addr} {its : Array Value} (x : isK k h a its) : a < h.objs.size := by
  cases k with
  | true => obtain ⟨_, e, _⟩ := x; exact Heap.lt_size e
  | false => obtain ⟨_, e, _⟩ := x; exact Heap.lt_size e
theorem drawsK {prog : Program} {w : World} {A : Around} (hh : A.handled = none) (k : Bool) (it a : Addr) (ne : a ≠ it) (its : Array Value) :
    Draws prog w A it [it, a] its.size (fun i v => its[i]? = some v) (fun i h => itK k h it a i ∧ isK k h a its) := by
  cases k with
  | true => exact Draws.tuple hh it a ne its
  | false => exact Draws.list hh it a ne its
theorem beginsK (k : Bool) (a : Addr) (its : Array Value) : Begins (.ref a) (itO k a) fun h => isK k h a its := by
  cases k with
  | true => exact begins_tuple a its
  | false => exact begins_list a its
theorem itO_at {k : Bool} {h : Heap} {it a : Addr} (e : h.get? it = some (itO k a)) : itK k h it a 0 := by
  cases k with
  | true => exact ⟨_, e, rfl, rfl⟩
  | false => exact ⟨_, e, rfl, rfl⟩

/-! ### enumerate(x) -/
theorem meets_enum1 {v : Value} {o : Obj} {H : Heap → Prop} (B : Begins v o H) :
    Meets (Builtin.«enumerate.__new__» ⟨[.type "enumerate", v], []⟩) (fun _ R s => H s.heap ∧
      R (.ok (.ret (.ref (s.heap.push o).objs.size))) { s with heap := (s.heap.push o).push { cls := .type "enumerate", data := .fields #[.none, .bool false, .ref s.heap.objs.size, rawInt 0, .none, .none] } }) :=
  .of_wp fun prog w A R s h => by
    obtain ⟨hp, g, d, tk, os⟩ := s
    obtain ⟨h1, h⟩ := h
    have hsub := sub_enumerate
    have q1 : ∀ {A' : Around} {E : Value → Shared → Prop} {Q : Value → Shared → Prop}, Q (.ref hp.objs.size) ⟨hp.push o, g, d, tk, os⟩ →
        wpAny (model prog w) A' (pyIter v) Q E ⟨hp, g, d, tk, os⟩ :=
      fun q => B.iter prog w _ _ ⟨hp, g, d, tk, os⟩ _ h1 q
    wp_walk using q1
    refine wpAny_stack_any fun st => wpAny_pure ?_
    split
    · rename_i c _ _ _ _ _
      cases (c == Value.type "enumerate")
      · wp_walk using q1
        exact ⟨_, rfl, h⟩
      · wp_walk using q1
        exact ⟨_, rfl, h⟩
    · wp_walk using q1
      exact ⟨_, rfl, h⟩
section
variable {prog : Program} {w : World} {A : Around} {E : Value → Shared → Prop} {s : Shared}
theorem enum1 {v : Value} {o : Obj} {H : Heap → Prop} {Q : Value → Shared → Prop} (B : Begins v o H) (h1 : H s.heap)
    (h : ∀ h', IsEnum h' (s.heap.objs.size + 1) s.heap.objs.size 0 .none → h'.get? s.heap.objs.size = some o →
      (∀ b o, s.heap.get? b = some o → h'.get? b = some o) → Q (.ref (s.heap.objs.size + 1)) { s with heap := h' }) :
    wpAny (model prog w) A (call (.type "enumerate") [v]) Q E s := by
  refine callType_new F.called_enumerate (by decide) (F.typeCall_enumerate_1 _) (F.newCall_enumerate_1 _) (fun obj => F.args_object_init_2 obj _) F.entry_enumerate_new (meets_enum1 B) ⟨h1, ?_⟩
  have z1 : (s.heap.push o).objs.size = s.heap.objs.size + 1 := Heap.size_push ..
  show _ ∧ _
  rw [z1]
  have e1 : IsEnum ((s.heap.push o).push { cls := .type "enumerate", data := .fields #[.none, .bool false, .ref s.heap.objs.size, rawInt 0, .none, .none] })
      (s.heap.objs.size + 1) s.heap.objs.size 0 .none := by
    have q := Heap.get?_push_size (s.heap.push o) (o := { cls := .type "enumerate", data := .fields #[.none, .bool false, .ref s.heap.objs.size, rawInt 0, .none, .none] }) rfl
    rw [z1] at q
    exact q
  exact ⟨⟨_, e1, rfl⟩, h _ e1 (Heap.get?_push_of_some _ (Heap.get?_push_size _ B.free)) fun b o x => Heap.get?_push_of_some _ (Heap.get?_push_of_some _ x)⟩
end
/-- the items of the list or tuple at a in new pairs with their numbers -/
def IteK (k : Bool) (K : PySem.W.Frag) (a : Addr) : It :=
  ⟨fun i H => ∃ (xs : List V) (x : V), SqK k K H a xs ∧ xs[i]? = some x,
    fun i H v H' => ∃ T x, v = .ref T ∧ H T = none ∧ H' = upd H T (.tup [.int (i : Nat), x]) ∧ ∀ xs, SqK k K H a xs → xs[i]? = some x,
    fun i H => ∃ xs : List V, SqK k K H a xs ∧ xs.length = i⟩
theorem turn_enumK {P : Program} {w : World} {K : PySem.W.Frag} {elts : List Expr} {kk : Nat} {tpos : Pos} (k : Bool) (a e it : Addr) (hei : e ≠ it) (hea : e ≠ a) (hai : a ≠ it) :
    Turn P w K (.Tuple elts kk tpos) (IteK k K a) [e, it] e (fun i h => (∃ old, IsEnum h e it ((i : Nat) : Int) old) ∧ itK k h it a i) where
  mem := by simp
  obj := fun i h st b hb => by
    obtain ⟨⟨old, he⟩, hi⟩ := st
    simp only [List.mem_cons, List.not_mem_nil, or_false] at hb
    rcases hb with z | z
    · rw [z]; exact ⟨_, he, fun v q => nomatch q⟩
    · rw [z]; exact itK_obj hi
  keep := fun i h h' st k => let ⟨⟨old, he⟩, hi⟩ := st; ⟨⟨old, k e (by simp) _ he⟩, itK_keep hi fun o q => k it (by simp) o q⟩
  item := by
    intro X hP hw hK hc i pins s σ H E I hf st hg
    subst hP hw hK
    obtain ⟨⟨old, he⟩, hit⟩ := st
    obtain ⟨xs, x, hq, hx⟩ := hg
    obtain ⟨its, rv, p⟩ := sqk_is I hq
    obtain ⟨u, hu, ru⟩ := rv.get hx
    have lt1 : e < s.heap.objs.size := Heap.lt_size he
    have lt2 : it < s.heap.objs.size := by
      obtain ⟨o, q, _⟩ := itK_obj hit
      exact Heap.lt_size q
    have hu' : its.toArray[i]? = some u := by simpa using hu
    have hil : i < its.toArray.size := by
      obtain ⟨z, _⟩ := Array.getElem?_eq_some_iff.mp hu'
      exact z
    refine wpAny_pyNext_enum_itemC (drawsK (A := X.A.in1) (show X.A.in1.handled = none from I.ok.hd hc) k it a hai its.toArray) he ⟨hit, p⟩ hil hei (by simp [hei, hea]) fun y h' tk hy ho hst hT hsz hk => ?_
    rw [hu'] at hy
    cases hy
    refine ⟨_, rfl, wpAny_letOwnedTupleGo_enum (s := { s with heap := h', toks := tk + 1 }) ho fun h2 he2 sb => ?_⟩
    have T2 : h2.get? s.heap.objs.size = some { cls := .type "tuple", data := .seq #[.int (i : Nat) tk, u] } := (sb.2 _ (Nat.ne_of_gt lt1)).trans hT
    have new : ObjOk X.prog X.w (upd H s.heap.objs.size (.tup [.int (i : Nat), x])) h2 s.heap.objs.size (.tup [.int (i : Nat), x]) :=
      ⟨by show 2 ≤ sizeLine; decide, [.int (i : Nat) tk, u], .cons ⟨_, rfl⟩ (.cons ru .nil), ⟨_, T2, rfl, _, rfl⟩⟩
    have I1 : Inv X pins σ (upd H s.heap.objs.size (.tup [.int (i : Nat), x])) { s with heap := h2, toks := tk + 1 } :=
      I.turnedNew (ch := [e, it]) (fun b ob hb q => (sb.2 b (fun z => hb (by simp [z]))).trans (hk b ob (fun z => hb (by simp [z])) (fun z => hb (by simp [z])) q)) hf (Nat.le_refl _) new
    refine ⟨.ref s.heap.objs.size, _, I1, rfl, ⟨_, x, rfl, I.hok.fresh (Nat.le_refl _), rfl, fun ys hy => by rw [sqk_inj I hy hq]; exact hx⟩, ⟨⟨u, ?_⟩, itK_keep hst.1 fun o q => (sb.2 it (Ne.symm hei)).trans q⟩, fun b hb => ?_⟩
    · have e1 : ((i + 1 : Nat) : Int) = (i : Int) + 1 := by omega
      rw [e1]
      exact he2
    · have lb : b < s.heap.objs.size := by
        simp only [List.mem_cons, List.not_mem_nil, or_false] at hb
        rcases hb with z | z
        · rw [z]; exact lt1
        · rw [z]; exact lt2
      rw [upd_ne (Nat.ne_of_lt lb)]
      exact (hf b hb).1
  done := by
    intro X hP hw hK hc i pins s σ H E I hf st hg
    subst hP hw hK
    obtain ⟨⟨old, he⟩, hit⟩ := st
    obtain ⟨xs, hq, hx⟩ := hg
    obtain ⟨its, rv, p⟩ := sqk_is I hq
    obtain ⟨f0, f1, f2, f3, f4, f5⟩ := hf it (by simp)
    have hl := rv.length
    have ei : its.toArray.size = i := by rw [List.size_toArray]; omega
    exact wpAny_pyNext_enum_endD (drawsK (A := X.A.in1) (show X.A.in1.handled = none from I.ok.hd hc) k it a hai its.toArray) he ⟨ei ▸ hit, p⟩ fun h' eb => ⟨rfl, I.turned (t' := s.toks) (fun b o hb q => eb b o hb q) f0 f1 f3 f4 f5⟩
  self := fun A i s Q E st h => let ⟨⟨_, he⟩, _⟩ := st; wpAny_pyIter_enum he h
def iEnumK (K : PySem.W.Frag) (ta : TA) : TI := fun σ H R => ta σ H fun vs H1 => ∃ k a xs, vs = [.ref a] ∧ SqK k K H1 a xs ∧ R (IteK k K a) H1
theorem pi_enumK {X : Cx} {e : Expr} {ta : TA} {p pos tpos : Pos} {elts : List Expr} {kk : Nat} (hg : Gl X "enumerate") (hm : X.mg "enumerate" = none) (ha : PA X [e] ta)
    (hs : starEach [e] X.env = [(false, eval e X.env)]) :
    PI X (.Tuple elts kk tpos) (.Call (.Name "enumerate" p) [e] [] pos) (iEnumK X.K ta) := by
  refine ⟨fun pins s σ H R I h => ?_⟩
  refine Call_ (ld_blt I hg hm boot_enumerate (PyProof.Rows.callWith_type1 (thn (ha.run pos pins s σ H _ I h) fun us s1 ⟨vs, H1, I1, r1, q1⟩ => ?_) hs rfl))
  obtain ⟨k, a, xs, rfl, hq, q⟩ := q1
  rw [Vals.ref1 r1]
  obtain ⟨its, rv, p'⟩ := sqk_is I1 hq
  have la := isK_lt p'
  refine enum1 (beginsK k a its.toArray) p' fun h' he ho hk => wpAny_pyIter_enum he ?_
  have I2 : Inv X pins σ H1 { s1 with heap := h' } := I1.kept (t' := s1.toks) hk
  refine ⟨s1.heap.objs.size + 1, [s1.heap.objs.size + 1, s1.heap.objs.size], _, _, H1, rfl, I2, turn_enumK k a (s1.heap.objs.size + 1) s1.heap.objs.size (Nat.succ_ne_self _) (Nat.ne_of_gt (Nat.lt_succ_of_lt la)) (Nat.ne_of_lt la), ⟨⟨.none, he⟩, itO_at ho⟩, fun b hb => ?_, q⟩
  have le : s1.heap.objs.size ≤ b := by
    simp only [List.mem_cons, List.not_mem_nil, or_false] at hb
    rcases hb with z | z
    · rw [z]; exact Nat.le_add_right _ _
    · rw [z]; exact Nat.le_refl _
  exact I1.fpOk le (I1.hok.fresh le)
end Dv
set_option Elab.async false
set_option linter.all false
set_option maxRecDepth 100000
set_option maxHeartbeats 1000000
/-! Part 9x: walks over zip(x, y), zip(x, y, strict=True) of lists and tuples. -/
namespace Dv
open PySem PySem.Spec PyProof.Rows L2
/-- strict or not -/
abbrev ZipB (b : Bool) (h : Heap) (z TI TO : Addr) (f0 : Value) : Prop :=
  h.get? z = some { cls := .type "zip", dict := none, data := .fields #[f0, .bool false, .bool b, .ref TI, .ref TO], slots := #[] }
def ItzK (b k1 k2 : Bool) (K : PySem.W.Frag) (a1 a2 : Addr) : It :=
  ⟨fun i H => ∃ (xs ys : List V) (x y : V), SqK k1 K H a1 xs ∧ SqK k2 K H a2 ys ∧ xs[i]? = some x ∧ ys[i]? = some y,
    fun i H v H' => ∃ T x y, v = .ref T ∧ H T = none ∧ H' = upd H T (.tup [x, y]) ∧ (∀ xs, SqK k1 K H a1 xs → xs[i]? = some x) ∧ ∀ ys, SqK k2 K H a2 ys → ys[i]? = some y,
    fun i H => ∃ xs ys : List V, SqK k1 K H a1 xs ∧ SqK k2 K H a2 ys ∧ i ≤ xs.length ∧ i ≤ ys.length ∧ (if b = true then xs.length = i ∧ ys.length = i else xs.length = i ∨ ys.length = i)⟩
section
variable {prog : Program} {w : World} {A : Around} {E : Value → Shared → Prop} {s : Shared}
theorem goB {b : Bool} {elts : List Expr} {x1 : Nat} {pos : Pos} {z TI TO a : Addr} {Q : Unit → Shared → Prop} (hz : ZipB b s.heap z TI TO (rawInt a))
    (h : ∀ h', ZipB b h' z TI TO .none → Heap.SameBut z s.heap h' → Q () { s with heap := h' }) : wpAny (model prog w) A (letOwnedTupleGo (.Tuple elts x1 pos) (.ref z) (.ref a)) Q E s := by
  unfold letOwnedTupleGo
  refine wpAny_bind (wpAny_load hz ?_)
  show wpAny _ _ (if (["enumerate", "zip", "dict_itemiterator", "dict_reverseitemiterator", "odict_iterator", "itertools.zip_longest", "itertools.pairwise"].contains "zip" && (some (rawInt a) == some (rawInt a))) = true then _ else _) _ _ s
  rw [if_pos (by
    rw [Bool.and_eq_true]
    exact ⟨by decide, by simp⟩)]
  exact wpAny_setField_rec hz (by simp) fun h' z' s' => h h' z' s'
theorem selfB {b : Bool} {z TI TO : Addr} {f0 : Value} {Q : Value → Shared → Prop} (hz : ZipB b s.heap z TI TO f0) (h : Q (.ref z) s) : wpAny (model prog w) A (pyIter (.ref z)) Q E s := by
  have hT : s.TypeIs (.ref z) "zip" := ⟨_, hz, rfl⟩
  refine wpAny_pyIter_slot hT F.slot_zip_iter (wpAny_call_entry F.slot_zip_iter hT F.entry_zip_iter ?_ (F.args_zip_iter_1 _))
  show wpAny _ _ (ret (.ref z)) _ _ s
  exact wpAny_pure ⟨_, rfl, "zip", _, hT, F.slot_zip_next.lookup, h⟩
end

theorem turn_zipK {P : Program} {w : World} {K : PySem.W.Frag} {elts : List Expr} {kk : Nat} {tpos : Pos} (b k1 k2 : Bool) {a1 a2 z TI TO i1 i2 : Addr}
    (S : ZipSep2 z TI TO i1 i2 [i1, a1] [i2, a2]) (n1 : a1 ≠ i1) (n2 : a2 ≠ i2) :
    Turn P w K (.Tuple elts kk tpos) (ItzK b k1 k2 K a1 a2) [z, TI, TO, i1, i2] z (fun i h => ZipB b h z TI TO .none ∧ IsTupOf2 h TI (.ref i1) (.ref i2) ∧ (∃ x y, IsTupOf2 h TO x y) ∧ itK k1 h i1 a1 i ∧ itK k2 h i2 a2 i) where
  mem := by simp
  obj := fun i h st c hc => by
    obtain ⟨hz, hTI, ⟨x, y, hTO⟩, h1, h2⟩ := st
    simp only [List.mem_cons, List.not_mem_nil, or_false] at hc
    rcases hc with q | q | q | q | q
    · rw [q]; exact ⟨_, hz, fun v q => nomatch q⟩
    · rw [q]; exact ⟨_, hTI, fun v q => nomatch q⟩
    · rw [q]; exact ⟨_, hTO, fun v q => nomatch q⟩
    · rw [q]; exact itK_obj h1
    · rw [q]; exact itK_obj h2
  keep := fun i h h' st k => by
    obtain ⟨hz, hTI, ⟨x, y, hTO⟩, h1, h2⟩ := st
    exact ⟨k z (by simp) _ hz, k TI (by simp) _ hTI, ⟨x, y, k TO (by simp) _ hTO⟩, itK_keep h1 fun o q => k i1 (by simp) o q, itK_keep h2 fun o q => k i2 (by simp) o q⟩
  item := by
    intro X hP hw hK hc i pins s σ H E I hf st hg
    subst hP hw hK
    obtain ⟨hz, hTI, ⟨x0, y0, hTO⟩, h1, h2⟩ := st
    obtain ⟨xs, ys, x, y, hqx, hqy, hx, hy⟩ := hg
    obtain ⟨its, rv, p⟩ := sqk_is I hqx
    obtain ⟨its2, rv2, p2⟩ := sqk_is I hqy
    obtain ⟨u, hu, ru⟩ := rv.get hx
    obtain ⟨u2, hu2, ru2⟩ := rv2.get hy
    have zl : z < s.heap.objs.size := Heap.lt_size hz
    have hu' : its.toArray[i]? = some u := by simpa using hu
    have hu2' : its2.toArray[i]? = some u2 := by simpa using hu2
    have il1 : i < its.toArray.size := (Array.getElem?_eq_some_iff.mp hu').1
    have il2 : i < its2.toArray.size := (Array.getElem?_eq_some_iff.mp hu2').1
    have hh1 : X.A.in1.handled = none := I.ok.hd hc
    have D1 := drawsK (prog := X.prog) (w := X.w) hh1 k1 i1 a1 n1 its.toArray
    have D2 := drawsK (prog := X.prog) (w := X.w) hh1 k2 i2 a2 n2 its2.toArray
    have go : ∀ x1 x2 (h' : Heap) (tk : Nat), its.toArray[i]? = some x1 → its2.toArray[i]? = some x2 → ZipB b h' z TI TO (rawInt s.heap.objs.size) → IsTupOf2 h' TO x1 x2 →
        (itK k1 h' i1 a1 (i + 1) ∧ isK k1 h' a1 its.toArray) → (itK k2 h' i2 a2 (i + 1) ∧ isK k2 h' a2 its2.toArray) → IsTupOf2 h' s.heap.objs.size x1 x2 → h'.objs.size = s.heap.objs.size + 1 →
        (∀ c o, c ≠ z → c ≠ TO → c ≠ i1 → c ≠ i2 → s.heap.get? c = some o → h'.get? c = some o) →
        ∃ v, some (Value.ref s.heap.objs.size) = some v ∧ wpAny (model X.prog X.w) X.A (letOwnedTupleGo (.Tuple elts kk tpos) (.ref z) v) (fun _ s2 => ∃ x H', Inv X pins σ H' s2 ∧ RelV x v ∧ (ItzK b k1 k2 X.K a1 a2).yld i H x H' ∧
          (ZipB b s2.heap z TI TO .none ∧ IsTupOf2 s2.heap TI (.ref i1) (.ref i2) ∧ (∃ x y, IsTupOf2 s2.heap TO x y) ∧ itK k1 s2.heap i1 a1 (i + 1) ∧ itK k2 s2.heap i2 a2 (i + 1)) ∧ ∀ c ∈ [z, TI, TO, i1, i2], H' c = none) E { s with heap := h', toks := tk } := by
      intro x1 x2 h' tk e1 e2 z' TO' s1' s2' hT hsz hk
      rw [hu'] at e1
      rw [hu2'] at e2
      cases e1
      cases e2
      refine ⟨_, rfl, goB (s := { s with heap := h', toks := tk }) z' fun g2 z2 sb => ?_⟩
      have T2 : g2.get? s.heap.objs.size = some { cls := .type "tuple", data := .seq #[u, u2] } := (sb.2 _ (Nat.ne_of_gt zl)).trans hT
      have new : ObjOk X.prog X.w (upd H s.heap.objs.size (.tup [x, y])) g2 s.heap.objs.size (.tup [x, y]) :=
        ⟨by show 2 ≤ sizeLine; decide, [u, u2], .cons ru (.cons ru2 .nil), ⟨_, T2, rfl, _, rfl⟩⟩
      have I1 : Inv X pins σ (upd H s.heap.objs.size (.tup [x, y])) { s with heap := g2, toks := tk } :=
        I.turnedNew (ch := [z, TI, TO, i1, i2]) (fun c o hb q => (sb.2 c (fun q' => hb (by simp [q']))).trans (hk c o (fun q' => hb (by simp [q'])) (fun q' => hb (by simp [q'])) (fun q' => hb (by simp [q'])) (fun q' => hb (by simp [q'])) q)) hf (Nat.le_refl _) new
      have l1 : i1 < s.heap.objs.size := let ⟨_, e, _⟩ := itK_obj h1; Heap.lt_size e
      have l2 : i2 < s.heap.objs.size := let ⟨_, e, _⟩ := itK_obj h2; Heap.lt_size e
      refine ⟨.ref s.heap.objs.size, _, I1, rfl, ⟨_, x, y, rfl, I.hok.fresh (Nat.le_refl _), rfl, fun l hl => by rw [sqk_inj I hl hqx]; exact hx, fun l hl => by rw [sqk_inj I hl hqy]; exact hy⟩, ⟨z2, ?_, ⟨u, u2, ?_⟩, ?_, ?_⟩, fun c hcm => ?_⟩
      · exact (sb.2 _ S.TIz).trans (hk _ _ S.TIz S.TITO S.TIi1 S.TIi2 hTI)
      · exact (sb.2 _ S.TOz).trans TO'
      · exact itK_keep s1'.1 fun o q => (sb.2 _ S.zi1.symm).trans q
      · exact itK_keep s2'.1 fun o q => (sb.2 _ S.zi2.symm).trans q
      · have lt : c < s.heap.objs.size := by
          simp only [List.mem_cons, List.not_mem_nil, or_false] at hcm
          rcases hcm with q | q | q | q | q
          · rw [q]; exact zl
          · rw [q]; exact Heap.lt_size hTI
          · rw [q]; exact Heap.lt_size hTO
          · rw [q]; exact l1
          · rw [q]; exact l2
        rw [upd_ne (Nat.ne_of_lt lt)]
        exact (hf c hcm).1
    cases b with
    | true => exact nextS_item S D1 D2 hz hTI hTO ⟨h1, p⟩ ⟨h2, p2⟩ il1 il2 go
    | false => exact wpAny_pyNext_zipD2_item S D1 D2 hz hTI hTO ⟨h1, p⟩ ⟨h2, p2⟩ il1 il2 go
  done := by
    intro X hP hw hK hc i pins s σ H E I hf st hg
    subst hP hw hK
    obtain ⟨hz, hTI, ⟨x0, y0, hTO⟩, h1, h2⟩ := st
    obtain ⟨xs, ys, hqx, hqy, le1, le2, hend⟩ := hg
    obtain ⟨its, rv, p⟩ := sqk_is I hqx
    obtain ⟨its2, rv2, p2⟩ := sqk_is I hqy
    have l1 : xs.length = its.toArray.size := by rw [List.size_toArray]; exact rv.length
    have l2 : ys.length = its2.toArray.size := by rw [List.size_toArray]; exact rv2.length
    have hh1 : X.A.in1.handled = none := I.ok.hd hc
    have D1 := drawsK (prog := X.prog) (w := X.w) hh1 k1 i1 a1 n1 its.toArray
    have D2 := drawsK (prog := X.prog) (w := X.w) hh1 k2 i2 a2 n2 its2.toArray
    have fin : ∀ (h' : Heap) (tk : Nat), (∀ c o, c ≠ z → c ≠ TO → c ≠ i1 → c ≠ i2 → s.heap.get? c = some o → h'.get? c = some o) → (none : Option Value) = none ∧ Inv X pins σ H { s with heap := h', toks := tk } :=
      fun h' tk hk => ⟨rfl, I.turnedL (ch := [z, TI, TO, i1, i2]) (fun c o hb q =>
        hk c o (fun q' => hb (by simp [q'])) (fun q' => hb (by simp [q'])) (fun q' => hb (by simp [q'])) (fun q' => hb (by simp [q'])) q) hf⟩
    cases b with
    | true =>
      have e : xs.length = i ∧ ys.length = i := hend
      have g1 : its.toArray.size = i := l1.symm.trans e.1
      have g2 : its2.toArray.size = i := l2.symm.trans e.2
      exact nextS_done (I.ok.hd hc) S D1 D2 hz hTI hTO ⟨g1 ▸ h1, p⟩ ⟨g2 ▸ h2, p2⟩ fin
    | false =>
      have e : xs.length = i ∨ ys.length = i := hend
      exact wpAny_pyNext_zipD2_end S D1 D2 hz hTI hTO ⟨h1, p⟩ ⟨h2, p2⟩ (by omega) (by omega) (by omega) fin
  self := fun A i s Q E st h => selfB st.1 h
def iZipK (b : Bool) (K : PySem.W.Frag) (ta : TA) : TI := fun σ H R => ta σ H fun vs H1 => ∃ k1 k2 a1 a2 xs ys, vs = [.ref a1, .ref a2] ∧ SqK k1 K H1 a1 xs ∧ SqK k2 K H1 a2 ys ∧ R (ItzK b k1 k2 K a1 a2) H1
theorem zip_fresh {X : Cx} {pins : List (Addr × Obj)} {σ : L2.St} {H : Hp} {s : Shared} (I : Inv X pins σ H s) : ∀ c, c ∈ [s.heap.objs.size + 4, s.heap.objs.size + 2, s.heap.objs.size + 3, s.heap.objs.size, s.heap.objs.size + 1] → FpOk X pins H c := fun c hc => by
  have le : s.heap.objs.size ≤ c := by
    simp only [List.mem_cons, List.not_mem_nil, or_false] at hc
    rcases hc with z | z | z | z | z
    · rw [z]; exact Nat.le_add_right _ _
    · rw [z]; exact Nat.le_add_right _ _
    · rw [z]; exact Nat.le_add_right _ _
    · rw [z]; exact Nat.le_refl _
    · rw [z]; exact Nat.le_add_right _ _
  exact I.fpOk le (I.hok.fresh le)
theorem zip_ready {X : Cx} {pins : List (Addr × Obj)} {σ : L2.St} {H1 : Hp} {s1 : Shared} {elts : List Expr} {kk : Nat} {tpos : Pos} {R : It → Hp → Prop} {b k1 k2 : Bool} {a1 a2 : Addr} {E : Value → Shared → Prop} (I1 : Inv X pins σ H1 s1)
    (la1 : a1 < s1.heap.objs.size) (la2 : a2 < s1.heap.objs.size) (q : R (ItzK b k1 k2 X.K a1 a2) H1) (h' : Heap)
    (hz : ZipB b h' (s1.heap.objs.size + 4) (s1.heap.objs.size + 2) (s1.heap.objs.size + 3) .none) (hTI : IsTupOf2 h' (s1.heap.objs.size + 2) (.ref s1.heap.objs.size) (.ref (s1.heap.objs.size + 1)))
    (hTO : IsTupOf2 h' (s1.heap.objs.size + 3) .none .none) (g1 : h'.get? s1.heap.objs.size = some (itO k1 a1)) (g2 : h'.get? (s1.heap.objs.size + 1) = some (itO k2 a2))
    (hk : ∀ c o, s1.heap.get? c = some o → h'.get? c = some o) :
    wpAny (model X.prog X.w) X.A (pyIter (.ref (s1.heap.objs.size + 4))) (PIE X pins σ (.Tuple elts kk tpos) R) E { s1 with heap := h' } := by
  refine selfB (s := { s1 with heap := h' }) hz ?_
  have I2 : Inv X pins σ H1 { s1 with heap := h' } := I1.kept (t' := s1.toks) hk
  have sep : ZipSep2 (s1.heap.objs.size + 4) (s1.heap.objs.size + 2) (s1.heap.objs.size + 3) s1.heap.objs.size (s1.heap.objs.size + 1) [s1.heap.objs.size, a1] [s1.heap.objs.size + 1, a2] :=
    zip_sep2 (fun c hc => by simp only [List.mem_cons, List.not_mem_nil, or_false] at hc; rw [hc]; exact la1) (fun c hc => by simp only [List.mem_cons, List.not_mem_nil, or_false] at hc; rw [hc]; exact la2)
  exact ⟨s1.heap.objs.size + 4, [s1.heap.objs.size + 4, s1.heap.objs.size + 2, s1.heap.objs.size + 3, s1.heap.objs.size, s1.heap.objs.size + 1], _, _, H1, rfl, I2,
    turn_zipK b k1 k2 sep (Nat.ne_of_lt la1) (Nat.ne_of_lt (Nat.lt_succ_of_lt la2)), ⟨hz, hTI, ⟨_, _, hTO⟩, itO_at g1, itO_at g2⟩, zip_fresh I1, q⟩
theorem pi_zipK {X : Cx} {e e2 : Expr} {ta : TA} {p pos tpos : Pos} {elts : List Expr} {kk : Nat} (hg : Gl X "zip") (hm : X.mg "zip" = none) (ha : PA X [e, e2] ta)
    (hs : starEach [e, e2] X.env = (false, eval e X.env) :: starEach [e2] X.env) (hpl : (backTo pos (starEach [e2] X.env)).any (·.1) = false) :
    PI X (.Tuple elts kk tpos) (.Call (.Name "zip" p) [e, e2] [] pos) (iZipK false X.K ta) := by
  refine ⟨fun pins s σ H R I h => ?_⟩
  refine Call_ (ld_blt I hg hm PyProof.Rows.boot_zip (PyProof.Rows.callWith_type1 (thn (ha.run pos pins s σ H _ I h) fun us s1 ⟨vs, H1, I1, r1, q1⟩ => ?_) hs hpl))
  obtain ⟨k1, k2, a1, a2, xs, ys, rfl, hqx, hqy, q1⟩ := q1
  cases r1 with
  | cons r rr => cases rr with
    | cons r' rr =>
      cases rr
      cases r
      cases r'
      obtain ⟨its, rv, p1⟩ := sqk_is I1 hqx
      obtain ⟨its2, rv2, p2⟩ := sqk_is I1 hqy
      exact zip_begins2 (beginsK k1 a1 its.toArray) (beginsK k2 a2 its2.toArray) p1 p2 fun h' z1 z2 z3 z4 z5 _ z6 => zip_ready I1 (isK_lt p1) (isK_lt p2) q1 h' z1 z2 z3 z4 z5 z6
section
variable {M : Model} {A : Around} {E : Value → Shared → Prop} {s : Shared}
theorem with_typeKw {pos : Pos} {T : String} {args : List (Bool × Sem Value)} {kws : List (Option Str × Sem Value)} {Q : Value → Shared → Prop}
    (h1 : args.any (·.1) = false) (h2 : kws.any (·.1.isNone) = false)
    (h : wpAny M A (evalArgs (.type T) true args kws) (fun a s1 => wpAny M A (call (.type T) ([] ++ a.pos) a.kw) Q E s1) E s) :
    wpAny M A (callWith pos (.type T) [] args kws) Q E s := by
  unfold callWith
  refine wpAny_bind (wpAny_holding (wpAny_mono h (fun a s1 h3 => wpAny_bind (wpAny_standAt ?_)) fun _ _ x => x))
  simp only [h1, h2, Bool.or_false]
  refine wpAny_bind (wpAny_pure ?_)
  exact wpAny_bind (wpAny_mono h3 (fun r s2 hr => wpAny_bind (wpAny_holding (wpAny_point (wpAny_pure hr)))) fun _ _ x => x)
end
theorem pi_zipS {X : Cx} {e e2 : Expr} {ta : TA} {p pos tpos kp vp : Pos} {vk : Nat} {elts : List Expr} {kk : Nat} (hg : Gl X "zip") (hm : X.mg "zip" = none) (ha : PA X [e, e2] ta)
    (hs : starEach [e, e2] X.env = (false, eval e X.env) :: starEach [e2] X.env) (hpl : (backTo pos (starEach [e2] X.env)).any (·.1) = false) :
    PI X (.Tuple elts kk tpos) (.Call (.Name "zip" p) [e, e2] [⟨some "strict", .Constant (.bool true) vk vp, kp⟩] pos) (iZipK true X.K ta) := by
  refine ⟨fun pins s σ H R I h => ?_⟩
  refine wpAny_Call_Name_kw (ld_blt I hg hm PyProof.Rows.boot_zip ?_)
  have ha' := ha.run pos pins s σ H _ I h
  rw [hs] at ha' ⊢
  refine with_typeKw (by show (false || (backTo pos (starEach [e2] X.env)).any (·.1)) = false; rw [hpl]; rfl) rfl ?_
  refine evalArgs_kwB rfl (thn ha' fun us s1 ⟨vs, H1, I1, r1, q1⟩ => ?_)
  obtain ⟨k1, k2, a1, a2, xs, ys, rfl, hqx, hqy, q1⟩ := q1
  have one : PK X [⟨some "strict", .Constant (.bool true) vk vp, kp⟩] _ := pk_cons pe_bl pk_nil
  refine thn (one.run pos pins s1 σ H1 (fun zs H2 => zs = [.bl true] ∧ H2 = H1) I1 ⟨rfl, rfl⟩) fun ws s2 ⟨zs, H2, I2, r2, ez, eH⟩ => ?_
  subst ez eH
  cases r2 with
  | cons r3 r4 =>
    cases r4
    cases r3
    cases r1 with
    | cons r rr => cases rr with
      | cons r' rr =>
        cases rr
        cases r
        cases r'
        obtain ⟨its, rv, p1⟩ := sqk_is I2 hqx
        obtain ⟨its2, rv2, p2⟩ := sqk_is I2 hqy
        exact zipS_begins (beginsK k1 a1 its.toArray) (beginsK k2 a2 its2.toArray) p1 p2 fun h' z1 z2 z3 z4 z5 _ z6 => zip_ready I2 (isK_lt p1) (isK_lt p2) q1 h' z1 z2 z3 z4 z5 z6

/-! ### by data -/
section
variable {X : Cx} {C : Ct}
/-- pairs by numbers -/
def enumD : Nat → List PyData → List PyData
  | _, [] => []
  | k, d :: r => .tuple [.int (k : Nat), d] :: enumD (k + 1) r
def zipD : List PyData → List PyData → List PyData
  | d :: r, e :: q => .tuple [d, e] :: zipD r q
  | _, _ => []
theorem enumD_get : ∀ {ds : List PyData} {k i : Nat} {d : PyData}, ds[i]? = some d → (enumD k ds)[i]? = some (.tuple [.int ((k + i : Nat) : Int), d])
  | d :: r, k, 0, _, h => by cases h; rfl
  | d :: r, k, i + 1, _, h => by
    have q := enumD_get (k := k + 1) (i := i) (ds := r) h
    have e : k + 1 + i = k + (i + 1) := by omega
    rw [e] at q
    exact q
theorem enumD_len : ∀ {ds : List PyData} {k : Nat}, (enumD k ds).length = ds.length
  | [], _ => rfl
  | _ :: r, k => by
    show (enumD (k + 1) r).length + 1 = r.length + 1
    rw [enumD_len]
theorem zipD_get : ∀ {ds es : List PyData} {i : Nat} {d e : PyData}, ds[i]? = some d → es[i]? = some e → (zipD ds es)[i]? = some (.tuple [d, e])
  | _ :: _, _ :: _, 0, _, _, h, h2 => by cases h; cases h2; rfl
  | _ :: r, _ :: q, i + 1, _, _, h, h2 => zipD_get (ds := r) (es := q) (i := i) h h2
theorem zipD_len : ∀ {ds es : List PyData}, (zipD ds es).length = min ds.length es.length
  | [], _ => by simp [zipD]
  | _ :: _, [] => by simp [zipD]
  | _ :: r, _ :: q => by
    show (zipD r q).length + 1 = min (r.length + 1) (q.length + 1)
    rw [zipD_len]
    omega
theorem sqk_of {k : Bool} {K : PySem.W.Frag} {F H : Hp} {a : Addr} {vs : List V} (h : SqK k K F a vs) (e : Same F H) : SqK k K H a vs := by
  cases k with
  | true => exact sqt_same e h
  | false =>
    rcases h with (h | ⟨o, h⟩) | h
    · exact .inl (.inl (e _ _ h))
    · exact .inl (.inr ⟨o, e _ _ h⟩)
    · exact .inr h
theorem walk_enumK {K : PySem.W.Frag} {k : Bool} {F1 : Hp} {a : Addr} {vs : List V} {ds : List PyData} (hK : K = C.K) (h : SqK k K F1 a vs) (r : DqAll C.K F1 vs ds) : Walk C (IteK k K a) F1 (enumD 0 ds) where
  go := fun i F G H f fg gh hi => by
    rw [enumD_len] at hi
    obtain ⟨d, hd⟩ : ∃ d, ds[i]? = some d := ⟨_, List.getElem?_eq_getElem hi⟩
    obtain ⟨v, hv, dv⟩ := dpa_get' r hd
    have s1 : Same F1 H := (f.trans fg).trans gh
    have hq : SqK k K H a vs := sqk_of h s1
    refine ⟨⟨vs, v, hq, hv⟩, fun x H' y => ?_⟩
    obtain ⟨T, x', rfl, hT, rfl, hx⟩ := y
    have e := hx vs hq
    rw [hv] at e
    cases e
    have g := Gr.newF fg gh (.tup [.int (i : Nat), v]) hT
    refine ⟨_, _, .tuple [.int (i : Nat), d], g, ?_, .tup (SqT.of upd_same) (.cons (.int _) (.cons (dp_same (f.trans g.f) dv) .nil))⟩
    have := enumD_get (k := 0) hd
    rw [Nat.zero_add] at this
    exact this
  stop := fun i F G H f fg gh hi => ⟨vs, sqk_of h ((f.trans fg).trans gh), by rw [dpa_len r, ← hi, enumD_len]⟩
theorem walk_zipK {K : PySem.W.Frag} {b k1 k2 : Bool} {F1 : Hp} {a1 a2 : Addr} {vs us : List V} {ds es : List PyData} (h1 : SqK k1 K F1 a1 vs) (h2 : SqK k2 K F1 a2 us) (r1 : DqAll C.K F1 vs ds) (r2 : DqAll C.K F1 us es) (hl : b = true → ds.length = es.length) :
    Walk C (ItzK b k1 k2 K a1 a2) F1 (zipD ds es) where
  go := fun i F G H f fg gh hi => by
    rw [zipD_len] at hi
    obtain ⟨d, hd⟩ : ∃ d, ds[i]? = some d := ⟨_, List.getElem?_eq_getElem (by omega)⟩
    obtain ⟨e, he⟩ : ∃ e, es[i]? = some e := ⟨_, List.getElem?_eq_getElem (by omega)⟩
    obtain ⟨v, hv, dv⟩ := dpa_get' r1 hd
    obtain ⟨u, hu, du⟩ := dpa_get' r2 he
    have s1 : Same F1 H := (f.trans fg).trans gh
    refine ⟨⟨vs, us, v, u, sqk_of h1 s1, sqk_of h2 s1, hv, hu⟩, fun x H' y => ?_⟩
    obtain ⟨T, x', y', rfl, hT, rfl, hx, hy⟩ := y
    have e1 := hx vs (sqk_of h1 s1)
    have e2 := hy us (sqk_of h2 s1)
    rw [hv] at e1
    rw [hu] at e2
    cases e1
    cases e2
    have g := Gr.newF fg gh (.tup [v, u]) hT
    exact ⟨_, _, .tuple [d, e], g, zipD_get hd he, .tup (SqT.of upd_same) (.cons (dp_same (f.trans g.f) dv) (.cons (dp_same (f.trans g.f) du) .nil))⟩
  stop := fun i F G H f fg gh hi => by
    rw [zipD_len] at hi
    have l1 := dpa_len r1
    have l2 := dpa_len r2
    refine ⟨vs, us, sqk_of h1 ((f.trans fg).trans gh), sqk_of h2 ((f.trans fg).trans gh), by omega, by omega, ?_⟩
    cases b with
    | true =>
      have := hl rfl
      exact ⟨by omega, by omega⟩
    | false =>
      show vs.length = i ∨ us.length = i
      omega
/-- the items of data as they lie -/
def seqOf : PyData → Option (List PyData)
  | .list xs => some xs
  | .tuple xs => some xs
  | _ => none
theorem seq_there {F : Hp} {v : V} {d : PyData} {ds : List PyData} (h : Dq C.K F v d) (e : seqOf d = some ds) : ∃ k a vs, v = .ref a ∧ SqK k C.K F a vs ∧ DqAll C.K F vs ds := by
  unfold seqOf at e
  split at e
  · cases e
    cases h with
    | lst g r => exact ⟨false, _, _, rfl, SqL.of g, r⟩
  · cases e
    cases h with
    | tup g r => exact ⟨true, _, _, rfl, g, r⟩
  · cases e
def iEn (f : Ex) : Lx := fun ρ W => match f ρ W with
  | some (d, W1) => (seqOf d).map fun ds => (enumD 0 ds, W1)
  | none => none
def iZp (b : Bool) (f g : Ex) : Lx := fun ρ W => match f ρ W with
  | some (d, W1) => match g ρ W1 with
    | some (e, W2) => match seqOf d, seqOf e with
      | some ds, some es => if b = true ∧ ds.length ≠ es.length then none else some (zipD ds es, W2)
      | _, _ => none
    | none => none
  | none => none
theorem i_enum {a : Expr} {f : Ex} {p pos tpos : Pos} {elts : List Expr} {kk : Nat} (hK : X.K = C.K) (hg : Gl X "enumerate") (hm : X.mg "enumerate" = none) (h : PE X a (TX C .va f)) (hs : starEach [a] X.env = [(false, eval a X.env)]) (hn : starEach [] X.env = []) :
    PI X (.Tuple elts kk tpos) (.Call (.Name "enumerate" p) [a] [] pos) (TI' C (iEn f)) := by
  refine pi_weak (pi_enumK hg hm (l_cons h l_nil (by rw [hs, hn])) hs) fun σ H Q ⟨ρ, W, F, G, ds, W', R, e, q⟩ => ?_
  unfold iEn at e
  split at e
  · rename_i d W1 e1
    cases e2 : seqOf d with
    | none => rw [e2] at e; cases e
    | some es =>
      rw [e2] at e
      cases e
      refine ⟨ρ, W, F, G, [d], _, R, lOne e1, fun vs F1 G1 H1 x1 R1 r1 => ?_⟩
      cases r1 with
      | cons ry rn =>
        cases rn
        obtain ⟨k, b, us, rfl, h1, h2⟩ := seq_there ry e2
        exact ⟨k, b, us, rfl, hK ▸ sqk_of h1 R1.fh, q _ F1 G1 H1 x1 R1 (walk_enumK hK (hK ▸ h1) h2)⟩
  · cases e
theorem zip_read {b : Bool} {a a2 : Expr} {f g : Ex} (hK : X.K = C.K) (h : PE X a (TX C .va f)) (h2 : PE X a2 (TX C .va g)) {σ : L2.St} {H : Hp} {Q : It → Hp → Prop} (x : TI' C (iZp b f g) σ H Q) : iZipK b X.K (TL C (lCons f (lCons g lNil))) σ H Q := by
  obtain ⟨ρ, W, F, G, ds, W', R, e, q⟩ := x
  unfold iZp at e
  split at e
  · rename_i d W1 e1
    split at e
    · rename_i d2 W2 e2
      split at e
      · rename_i xs ys e3 e4
        split at e
        · cases e
        · rename_i hne
          cases e
          refine ⟨ρ, W, F, G, [d, d2], W', R, by unfold lCons lNil; rw [e1]; simp only [e2], fun vs F1 G1 H1 x1 R1 r1 => ?_⟩
          cases r1 with
          | cons ry rn => cases rn with
            | cons rz rn =>
              cases rn
              obtain ⟨k1, a1, us1, rfl, h1, h2⟩ := seq_there ry e3
              obtain ⟨k2, a2, us2, rfl, h3, h4⟩ := seq_there rz e4
              refine ⟨k1, k2, a1, a2, us1, us2, rfl, hK ▸ sqk_of h1 R1.fh, hK ▸ sqk_of h3 R1.fh, q _ F1 G1 H1 x1 R1 (walk_zipK (hK ▸ h1) (hK ▸ h3) h2 h4 fun hb => ?_)⟩
              exact Classical.byContradiction fun z => hne ⟨hb, z⟩
      · cases e
    · cases e
  · cases e
theorem i_zip {a a2 : Expr} {f g : Ex} {p pos tpos : Pos} {elts : List Expr} {kk : Nat} (hK : X.K = C.K) (hg : Gl X "zip") (hm : X.mg "zip" = none) (h : PE X a (TX C .va f)) (h2 : PE X a2 (TX C .va g))
    (hs : starEach [a, a2] X.env = (false, eval a X.env) :: starEach [a2] X.env) (hs2 : starEach [a2] X.env = (false, eval a2 X.env) :: starEach [] X.env) :
    PI X (.Tuple elts kk tpos) (.Call (.Name "zip" p) [a, a2] [] pos) (TI' C (iZp false f g)) :=
  pi_weak (pi_zipK hg hm (l_cons h (l_cons h2 l_nil hs2) hs) hs (by rw [hs2]; rfl)) fun _ _ _ x => zip_read hK h h2 x
theorem i_zipS {a a2 : Expr} {f g : Ex} {p pos tpos kp vp : Pos} {vk : Nat} {elts : List Expr} {kk : Nat} (hK : X.K = C.K) (hg : Gl X "zip") (hm : X.mg "zip" = none) (h : PE X a (TX C .va f)) (h2 : PE X a2 (TX C .va g))
    (hs : starEach [a, a2] X.env = (false, eval a X.env) :: starEach [a2] X.env) (hs2 : starEach [a2] X.env = (false, eval a2 X.env) :: starEach [] X.env) :
    PI X (.Tuple elts kk tpos) (.Call (.Name "zip" p) [a, a2] [⟨some "strict", .Constant (.bool true) vk vp, kp⟩] pos) (TI' C (iZp true f g)) :=
  pi_weak (pi_zipS hg hm (l_cons h (l_cons h2 l_nil hs2) hs) hs (by rw [hs2]; rfl)) fun _ _ _ x => zip_read hK h h2 x
end
end Dv
set_option Elab.async false
set_option linter.all false
set_option maxRecDepth 100000
set_option maxHeartbeats 1000000
/-! Part 10: from the text to plain functions. -/
namespace Dv
open PySem PySem.Spec PyProof.Rows L2

/-- what the text is read by -/
structure Gm where
  N : List Str
  sc : Scope
  raw : Scope
  fns : List (Str × Nat × Ctr)
  cts : List (Str × PyData)
  mods : List (Str × String)
  src : Str
  fuel : Nat
  wp : List (Nat × List Nat)
def ixOf : List Str → Str → Option Nat
  | [], _ => none
  | y :: r, x => if (y == x) = true then some 0 else (ixOf r x).map (· + 1)
theorem ixOf_some : ∀ {N : List Str} {x : Str} {i : Nat}, ixOf N x = some i → N[i]? = some x
  | y :: r, x, i, h => by
    unfold ixOf at h
    split at h
    · rename_i e
      cases h
      have : y = x := by simpa using e
      rw [this]
      rfl
    · cases q : ixOf r x with
      | none => rw [q] at h; cases h
      | some j =>
        rw [q] at h
        cases h
        show r[j]? = some x
        exact ixOf_some q
def okN (x : Str) : Bool := !(x == ("__debug__" : Str)) && !(x == ("__classdict__" : Str)) && !(x == ("__name__" : Str))
theorem okN_1 {x : Str} (h : okN x = true) : (x == ("__debug__" : Str)) = false := by
  unfold okN at h
  cases q : (x == ("__debug__" : Str)) <;> simp_all
theorem okN_2 {x : Str} (h : okN x = true) : (x == ("__classdict__" : Str)) = false := by
  unfold okN at h
  cases q : (x == ("__classdict__" : Str)) <;> simp_all
theorem okN_3 {x : Str} (h : okN x = true) : x ≠ "__name__" := by
  unfold okN at h
  intro z
  rw [z] at h
  simp at h
def visB (sc : Scope) (x : Str) : Bool := match sc.names.lookup x with
  | some .local => true
  | some .cell => true
  | some .free => true
  | _ => false
theorem visB_ok {sc : Scope} {x : Str} (h : visB sc x = true) : Vis sc x := by
  unfold visB at h
  unfold Vis
  split at h
  · rename_i e; exact .inl e
  · rename_i e; exact .inr (.inl e)
  · rename_i e; exact .inr (.inr e)
  · cases h
def isGl (sc : Scope) (x : Str) : Bool := match sc.names.lookup x with
  | some .globalImplicit => true
  | _ => false
def isLc (sc : Scope) (x : Str) : Bool := match sc.names.lookup x with
  | some .local => true
  | _ => false
def isLoc (sc : Scope) (x : Str) : Bool := match sc.names.lookup x with
  | some .local => true
  | some .cell => true
  | _ => false
theorem isLoc_ok {sc : Scope} {x : Str} (h : isLoc sc x = true) : L2.Loc sc x := by
  unfold isLoc at h
  unfold L2.Loc
  split at h
  · rename_i e; exact .inl e
  · rename_i e; exact .inr e
  · cases h
theorem isLc_ok {sc : Scope} {x : Str} (h : isLc sc x = true) : sc.names.lookup x = some .local := by
  unfold isLc at h
  split at h
  · rename_i e; exact e
  · cases h
/-- built-in functions, classes, a module's function -/
def bnames : List Str := ["len", "abs", "max", "repr", "isinstance", "all", "any", "range", "tuple", "list", "int", "str", "bool", "sorted", "sum", "min", "zip", "enumerate", "dict"]
/-- what stands around a def's text -/
structure Tb (X : Cx) (Γ : Gm) : Prop where
  fn : ∀ x n φ, Γ.fns.lookup x = some (n, φ) → ∃ k f fd ps, FG X.prog X.w X.K X.mg X.base CX0 k f fd ps (spC X.K φ n) ∧ Room k X.A ∧ X.mg x = some (.ref f) ∧ PySem.W.keepIn X.K (.ref f) = true ∧ Binds X.K fd ps []
  ct : ∀ x d, Γ.cts.lookup x = some d → ∃ v u, X.mg x = some u ∧ RelV v u ∧ ∀ F, Dq X.K F v d
  bl : ∀ x ∈ bnames, X.mg x = none
  md : ∀ x id, Γ.mods.lookup x = some id → X.mg x = some (.builtin id)
structure Gd (X : Cx) (C : Ct) (Γ : Gm) : Prop where
  hK : X.K = C.K
  calm : X.calm = true
  gu : X.A.guards = some []
  nd : X.N.Nodup
  N : X.N = Γ.N
  sc : X.env.scope = Γ.sc
  st : ∀ x, isLoc Γ.raw x = true → L2.Loc Γ.sc x ∧ (X.fn x = true ∨ X.env.scope.names.lookup x = some .local)
  xe : X.xe = fun _ _ => False
  hu : X.A.units + 70 < cLine
  hd : X.A.handled = none
  kd : Γ.sc.kind = .function
  tb : Tb X Γ
theorem isGl_ok {X : Cx} {C : Ct} {Γ : Gm} (G : Gd X C Γ) {x : Str} (h : isGl Γ.sc x = true) : Gl X x := by
  unfold isGl at h
  show X.env.scope.names.lookup x = some .globalImplicit
  rw [G.sc]
  split at h
  · assumption
  · cases h

/-! ### the text read: expressions -/
abbrev FE := Ex × List Nat
abbrev Rec := (Gm → Mode → Expr → Option FE) × (Gm → Expr → Option (Tx × List Nat))
def noStar : Expr → Bool
  | .Starred .. => false
  | _ => true
def isNw : Mode → Bool
  | .nw => true
  | _ => false
def cVs (r : Rec) (Γ : Gm) : List Expr → Option (Lx × List Nat)
  | [] => some (lNil, [])
  | e :: es => if noStar e = true then match r.1 Γ .vw e with
    | some (f, l) => match cVs r Γ es with
      | some (g, k) => some (lCons f g, l ++ k)
      | none => none
    | none => none else none
def cLs (r : Rec) (Γ : Gm) : List Expr → Option (Lx × List Nat)
  | [] => some (lNil, [])
  | e :: es => if noStar e = true then match r.1 Γ .va e with
    | some (f, l) => match cLs r Γ es with
      | some (g, k) => some (lCons f g, l ++ k)
      | none => none
    | none => none else none
def isSrc (Γ : Gm) : Expr → Option Nat
  | .Name x _ => if (x == Γ.src) = true && visB Γ.sc x && okN x then ixOf Γ.N x else none
  | _ => none
def cAs (r : Rec) (Γ : Gm) : List Expr → Option (Ax × List Nat)
  | [] => some (aNil, [])
  | e :: es => match isSrc Γ e with
    | some i => match cAs r Γ es with
      | some (g, k) => some (aSrc i g, k)
      | none => none
    | none => if noStar e = true then match r.1 Γ .va e with
      | some (f, l) => match cAs r Γ es with
        | some (g, k) => some (aCons f g, l ++ k)
        | none => none
      | none => none else none
def cBs (r : Rec) (Γ : Gm) (op : BoolOp) : List Expr → Option FE
  | [] => none
  | [e] => r.1 Γ .va e
  | e :: es => match r.1 Γ .va e with
    | some (f, l) => match cBs r Γ op es with
      | some (g, k) => some ((match op with | .And => eAnd2 f g | .Or => eOr2 f g), l ++ k)
      | none => none
    | none => none
def cTs (r : Rec) (Γ : Gm) (op : BoolOp) : List Expr → Option (Tx × List Nat)
  | [] => none
  | [e] => r.2 Γ e
  | e :: es => match r.2 Γ e with
    | some (f, l) => match cTs r Γ op es with
      | some (g, k) => some ((match op with | .And => tAnd2 f g | .Or => tOr2 f g), l ++ k)
      | none => none
    | none => none
/-- + and * may give new lists, the others don't -/
def binOf : Operator → Option ((PyData → PyData → Option PyData) × Bool)
  | .Add => some (bAdd, true)
  | .Mult => some (bMul, true)
  | .Sub => some (bSub, false)
  | .FloorDiv => some (bDiv, false)
  | .Mod => some (bMod, false)
  | .Pow => some (bPow, false)
  | _ => none
def cmpOf : CmpOp → Option (PyData → PyData → Option PyData)
  | .Eq => some cEq
  | .NotEq => some cNe
  | .Lt => some cLt
  | .LtE => some cLe
  | .Gt => some cGt
  | .GtE => some cGe
  | .Is => some cIsN
  | .IsNot => some cNotN
  | .In => some cIn
  | .NotIn => some cNotIn
def funOf (x : Str) : Option ((List PyData → Option PyData) × Bool) :=
  if (x == ("len" : Str)) = true then some (fLen, false)
  else if (x == ("abs" : Str)) = true then some (fAbs, false)
  else if (x == ("max" : Str)) = true then some (fMaxA, false)
  else if (x == ("repr" : Str)) = true then some (fRepr, false)
  else if (x == ("all" : Str)) = true then some (fAll, false)
  else if (x == ("any" : Str)) = true then some (fAny, false)
  else if (x == ("tuple" : Str)) = true then some (fTuple, false)
  else if (x == ("int" : Str)) = true then some (fInt, false)
  else if (x == ("list" : Str)) = true then some (fList, true)
  else if (x == ("sorted" : Str)) = true then some (fSort, true)
  else if (x == ("min" : Str)) = true then some (fMinA, false)
  else if (x == ("sum" : Str)) = true then some (fSum, false)
  else if (x == ("str" : Str)) = true then some (fStr, false)
  else none
def tyOf (x : Str) : Option String :=
  if (x == ("int" : Str)) = true then some "int"
  else if (x == ("bool" : Str)) = true then some "bool"
  else if (x == ("str" : Str)) = true then some "str"
  else if (x == ("list" : Str)) = true then some "list"
  else if (x == ("tuple" : Str)) = true then some "tuple"
  else none
def noSlice : Expr → Bool
  | .Slice .. => false
  | _ => true
def cP (r : Rec) (Γ : Gm) : Option Expr → Option (Px × List Nat)
  | none => some (pNo, [])
  | some e => match r.1 Γ .vw e with
    | some (f, l) => some (pOf f, l)
    | none => none
/-- what is walked -/
def noSet : Expr → Bool
  | .Set .. => false
  | _ => true
def cSeq (r : Rec) (Γ : Gm) (e : Expr) : Option (Lx × List Nat) :=
  if noSet e = true then match r.1 Γ .va e with
    | some (f, l) => some (iSeq f, l)
    | none => none else none
def isTupE : Expr → Bool
  | .Tuple .. => true
  | _ => false
/-- tt: the target is a tuple -/
def cI (r : Rec) (Γ : Gm) (tt : Bool) (e : Expr) : Option (Lx × List Nat) :=
  match e with
  | .Call (.Name x p) [a] [] q => if (x == ("range" : Str)) = true then (if isGl Γ.sc x && noStar a then match r.1 Γ .vw a with
      | some (f, l) => some (iR1 f, l)
      | none => none else none)
    else if (x == ("enumerate" : Str)) = true then (if tt && isGl Γ.sc x && noStar a then match r.1 Γ .va a with
      | some (f, l) => some (iEn f, l)
      | none => none else none)
    else cSeq r Γ (.Call (.Name x p) [a] [] q)
  | .Call (.Name x p) [a, b] [] q => if (x == ("range" : Str)) = true then (if isGl Γ.sc x && noStar a && noStar b then match r.1 Γ .vw a, r.1 Γ .vw b with
      | some (f, l), some (g, k) => some (iR2 f g, l ++ k)
      | _, _ => none else none)
    else if (x == ("zip" : Str)) = true then (if tt && isGl Γ.sc x && noStar a && noStar b then match r.1 Γ .va a, r.1 Γ .va b with
      | some (f, l), some (g, k) => some (iZp false f g, l ++ k)
      | _, _ => none else none)
    else cSeq r Γ (.Call (.Name x p) [a, b] [] q)
  | .Call (.Name x p) [a, b] [⟨some kn, .Constant (.bool true) vk vp, kp⟩] q => if (x == ("zip" : Str)) = true ∧ (kn == ("strict" : Str)) = true ∧ (tt && isGl Γ.sc x && noStar a && noStar b) = true then match r.1 Γ .va a, r.1 Γ .va b with
      | some (f, l), some (g, k) => some (iZp true f g, l ++ k)
      | _, _ => none else none
  | .Call (.Name x p) [a, b, c] [] q => if (x == ("range" : Str)) = true then (if isGl Γ.sc x && [a, b, c].all noStar then match cVs r Γ [a, b, c] with
      | some (f, l) => some (iR3 f, l)
      | none => none else none) else cSeq r Γ (.Call (.Name x p) [a, b, c] [] q)
  | e => cSeq r Γ e
/-- targets: names, tuples of such -/
def tgNs : Nat → Expr → List Str
  | 0, _ => []
  | _ + 1, .Name x _ => [x]
  | n + 1, .Tuple es _ _ => es.flatMap (tgNs n)
  | _ + 1, _ => []
def cGl (c : Expr → Option Gx) : List Expr → Option Gxs
  | [] => some gs0
  | e :: es => if noStar e = true then match c e with
    | some g => match cGl c es with
      | some h => some (gsC g h)
      | none => none
    | none => none else none
def cG (Γ : Gm) (vs : List Nat) : Nat → Expr → Option Gx
  | 0, _ => none
  | _ + 1, .Name x _ => match ixOf Γ.N x with
    | some i => if isLoc Γ.raw x && decide (i ∈ vs) then some (gN i) else none
    | none => none
  | n + 1, .Tuple es _ _ => match cGl (cG Γ vs n) es with
    | some h => some (gT es.length h)
    | none => none
  | _ + 1, _ => none
def ownOf (Γ : Gm) (tg : Expr) : List (Str × Nat) := (tgNs 4 tg).map fun x => (x, (ixOf Γ.N x).getD 0)
def blkG (Γ : Gm) (scope : Scope) : Gm := { Γ with sc := relS scope Γ.sc, raw := scope }
def cC (r : Rec) (Γ : Gm) (elt tg iter : Expr) (ifs : List Expr) (scope : Scope) : Option FE :=
  if blkC Γ.N Γ.sc scope (ownOf Γ tg) = true then match cI r Γ (isTupE tg) iter with
    | some (it, l) => match cG (blkG Γ scope) ((ownOf Γ tg).map (·.2)) 4 tg with
      | some g => match r.1 (blkG Γ scope) .va elt with
        | some (f, k) => match ifs with
          | [] => some (eComp ((ownOf Γ tg).map (·.2)) it g tYs f, l ++ k)
          | [c] => match r.2 (blkG Γ scope) c with
            | some (t, j) => some (eComp ((ownOf Γ tg).map (·.2)) it g t f, l ++ k ++ j)
            | none => none
          | _ => none
        | none => none
      | none => none
    | none => none
  else none
def cCall (r : Rec) (Γ : Gm) (m : Mode) (x : Str) (args : List Expr) : Option FE :=
  match Γ.fns.lookup x with
  | some (n, φ) => if isNw m = false ∧ isGl Γ.sc x = true ∧ okN x = true ∧ args.length = n ∧ args ≠ [] ∧ args.all noStar = true then match cAs r Γ args with
    | some (g, l) => some (eCall φ g, l)
    | none => none else none
  | none => match Γ.mods.lookup x with
    | some id => if id = "math.gcd" ∧ isNw m = false ∧ isGl Γ.sc x = true ∧ okN x = true ∧ args ≠ [] ∧ args.all noStar = true then match cVs r Γ args with
      | some (g, l) => some (eN fGcd g, l)
      | none => none else none
    | none => if (x == ("isinstance" : Str)) = true then (match args with
        | [a, .Name T _] => match tyOf T with
          | some tn => if isNw m = false ∧ isGl Γ.sc x = true ∧ isGl Γ.sc T = true ∧ noStar a = true then match r.1 Γ .vw a with
            | some (f, l) => some (e1 (isT tn) f, l)
            | none => none else none
          | none => none
        | _ => none)
      else match funOf x with
        | some (f, nw) => if (nw = true ∨ isNw m = false) ∧ isGl Γ.sc x = true ∧ args ≠ [] ∧ args.all noStar = true then match cVs r Γ args with
          | some (g, l) => some (eN f g, l)
          | none => none else none
        | none => none
/-- a base whose methods are looked up plainly -/
def plainB : Expr → Bool
  | .Name .. => true
  | .Subscript .. => true
  | .BinOp .. => true
  | _ => false
def cMeth (r : Rec) (Γ : Gm) (m : Mode) (o : Expr) (attr : Str) (ap cp : Pos) (a : Expr) : Option FE :=
  if isNw m = false ∧ plainB o = true ∧ noSt a = true ∧ (ap.endLine == cp.line) = true then (if (attr == ("index" : Str)) = true then match r.1 Γ .vw o, r.1 Γ .vw a with
    | some (fo, lo), some (fa, la) => some (e2 mIndex fo fa, lo ++ la)
    | _, _ => none else none) else none
def stepE (r : Rec) (Γ : Gm) (m : Mode) (e : Expr) : Option FE := match e with
  | .Name x _ => if okN x = true then match ixOf Γ.N x with
      | some i => if visB Γ.sc x = true then (match m with
        | .va => some (eVal i, [i])
        | .vw => some (eVar i, [])
        | .nw => none) else none
      | none => match Γ.cts.lookup x with
        | some d => if isNw m = false ∧ isGl Γ.sc x = true then some (eC d, []) else none
        | none => none
    else none
  | .Constant c _ _ => if isNw m = true then none else match c with
    | .int i => some (eC (.int i), [])
    | .str z => some (eC (.str z), [])
    | .bool b => some (eC (.bool b), [])
    | .none => some (eC .none, [])
    | _ => none
  | .BinOp a op b _ => match binOf op, r.1 Γ .vw a, r.1 Γ .vw b with
    | some (f, nw), some (fa, la), some (fb, lb) => if nw = true ∨ isNw m = false then some (e2 f fa fb, la ++ lb) else none
    | _, _, _ => none
  | .UnaryOp op a _ => if isNw m = true then none else match op with
    | .USub => match r.1 Γ .vw a with
      | some (f, l) => some (e1 uNeg f, l)
      | none => none
    | .Not => match r.1 Γ .va a with
      | some (f, l) => some (eNot f, l)
      | none => none
    | _ => none
  | .BoolOp op es _ => if isNw m = true then none else cBs r Γ op es
  | .Compare a [op] [b] _ => if isNw m = true then none else match cmpOf op, r.1 Γ .vw a, r.1 Γ .vw b with
    | some f, some (fa, la), some (fb, lb) => if behindInMarks op b = false then some (e2 f fa fb, la ++ lb) else none
    | _, _, _ => none
  | .Compare a [op, op'] [b, c] _ => if isNw m = true then none else match cmpOf op, cmpOf op', r.1 Γ .vw a, r.1 Γ .vw b, r.1 Γ .vw c with
    | some f, some g, some (fa, la), some (fb, lb), some (fc, lc) => if lastMarks [op, op'] [b, c] = false then some (eChain f g fa fb fc, la ++ lb ++ lc) else none
    | _, _, _, _, _ => none
  | .IfExp c a b _ => match r.2 Γ c, r.1 Γ m a, r.1 Γ m b with
    | some (t, l), some (fa, la), some (fb, lb) => some (eIf t fa fb, l ++ la ++ lb)
    | _, _, _ => none
  | .Subscript a (.Slice none none (some (.UnaryOp .USub (.Constant (.int 1) _ _) _)) _) _ => match r.1 Γ .vw a with
    | some (fa, la) => some (e1 oRev fa, la)
    | none => none
  | .Subscript a (.Slice lo hi none _) _ => match r.1 Γ .vw a, cP r Γ lo, cP r Γ hi with
    | some (fa, la), some (fl, l), some (fh, k) => some (eSl fa fl fh, la ++ l ++ k)
    | _, _, _ => none
  | .Subscript a b _ => if isNw m = false ∧ noSlice b = true then (match r.1 Γ .vw a, r.1 Γ .vw b with
    | some (fa, la), some (fb, lb) => some (e2 bIx fa fb, la ++ lb)
    | _, _ => none) else none
  | .Tuple es _ _ => if isNw m = true then none else match cLs r Γ es with
    | some (f, l) => some (eN oTup f, l)
    | none => none
  | .List es _ => match cLs r Γ es with
    | some (f, l) => some (eN oLst f, l)
    | none => none
  | .ListComp elt [⟨tg, iter, ifs, 0⟩] scope _ => cC r Γ elt tg iter ifs scope
  | .Call (.Name x _) args [] _ => cCall r Γ m x args
  | .Call (.Attribute o attr ap) [a] [] cp => cMeth r Γ m o attr ap cp a
  | _ => none
/-- an expression whose test is its value's truth -/
def plainT : Expr → Bool
  | .UnaryOp .Not _ _ => false
  | .BoolOp .. => false
  | .IfExp .. => false
  | .Compare .. => false
  | _ => true
def stepT (r : Rec) (Γ : Gm) (e : Expr) : Option (Tx × List Nat) := match e with
  | .UnaryOp .Not a _ => match r.2 Γ a with
    | some (t, l) => some (tNeg t, l)
    | none => none
  | .BoolOp op es _ => cTs r Γ op es
  | .Compare a [op] [b] _ => match cmpOf op, r.1 Γ .vw a, r.1 Γ .vw b with
    | some f, some (fa, la), some (fb, lb) => if behindInMarks op b = false then some (tOf (e2 f fa fb), la ++ lb) else none
    | _, _, _ => none
  | .Compare a [op, op'] [b, c] _ => match cmpOf op, cmpOf op', r.1 Γ .vw a, r.1 Γ .vw b, r.1 Γ .vw c with
    | some f, some g, some (fa, la), some (fb, lb), some (fc, lc) => if lastMarks [op, op'] [b, c] = false then some (tOf (eChain f g fa fb fc), la ++ lb ++ lc) else none
    | _, _, _, _, _ => none
  | e => if plainT e = true then match r.1 Γ .va e with
    | some (f, l) => some (tOf f, l)
    | none => none else none
def recs : Nat → Rec
  | 0 => (fun _ _ _ => none, fun _ _ => none)
  | n + 1 => (stepE (recs n), stepT (recs n))
end Dv
set_option Elab.async false
set_option linter.all false
set_option maxRecDepth 100000
set_option maxHeartbeats 2000000
/-! Part 11: what is read off the text is what it does: expressions. -/
namespace Dv
open PySem PySem.Spec PyProof.Rows L2

theorem star_cons {e : Expr} {es : List Expr} {env : Env} (h : noStar e = true) : starEach (e :: es) env = (false, eval e env) :: starEach es env := by
  cases e <;> first | rfl | cases h
theorem star_plain {pos : Pos} {env : Env} : ∀ {es : List Expr}, es.all noStar = true → (backTo pos (starEach es env)).any (·.1) = false
  | [], _ => rfl
  | e :: es, h => by
    rw [List.all_cons, Bool.and_eq_true] at h
    rw [star_cons h.1]
    show (false || (backTo pos (starEach es env)).any (·.1)) = false
    rw [star_plain h.2]
    rfl
theorem plainIx_of {b : Expr} (h : noSlice b = true) : PlainIx b := by
  intro o i
  cases b <;> first | rfl | cases h
theorem plainT_ok {e : Expr} (h : plainT e = true) (env : Env) (whole : Sem Value) : isTrue e env whole = (do let v ← whole; standAt e.pos; holding [v] (truthy v)) := by
  cases e with
  | UnaryOp op a p => cases op <;> first | rfl | cases h
  | BoolOp => cases h
  | IfExp => cases h
  | Compare => cases h
  | _ => rfl
theorem isNw_f {m : Mode} (h : isNw m = false) : m = .va ∨ m = .vw := by
  cases m with
  | va => exact .inl rfl
  | vw => exact .inr rfl
  | nw => cases h
theorem fit_va {X : Cx} {C : Ct} {m : Mode} {e : Expr} {f : Ex} (h : PE X e (TX C .va f)) (hm : isNw m = false) : PE X e (TX C m f) := by
  rcases isNw_f hm with rfl | rfl
  · exact h
  · exact tx_vw h
theorem fit_nw {X : Cx} {C : Ct} {m : Mode} {e : Expr} {f : Ex} (h : PE X e (TX C .nw f)) : PE X e (TX C m f) := by
  cases m with
  | va => exact tx_va h
  | vw => exact tx_vw h
  | nw => exact h
theorem nnw {m : Mode} (h : ¬ isNw m = true) : isNw m = false := by
  cases q : isNw m with
  | true => exact absurd q h
  | false => rfl

/-- what reads right -/
structure RecOk (r : Rec) : Prop where
  e : ∀ Γ X C m e f l, Gd X C Γ → r.1 Γ m e = some (f, l) → PE X e (TX C m f)
  t : ∀ Γ X C e t l, Gd X C Γ → r.2 Γ e = some (t, l) → PT X e (TB C t)

section
variable {r : Rec} {Γ : Gm} {X : Cx} {C : Ct}
theorem cVs_ok (ro : RecOk r) (G : Gd X C Γ) : ∀ {es : List Expr} {f : Lx} {l : List Nat}, cVs r Γ es = some (f, l) → PA X es (TV C f)
  | [], f, l, h => by cases h; exact v_nil
  | e :: es, f, l, h => by
    unfold cVs at h
    split at h
    · rename_i hs
      split at h
      · rename_i f1 l1 e1
        split at h
        · rename_i g k e2
          cases h
          exact v_cons (ro.e _ _ _ _ _ _ _ G e1) (cVs_ok ro G e2) (star_cons hs)
        · cases h
      · cases h
    · cases h
theorem cLs_ok (ro : RecOk r) (G : Gd X C Γ) : ∀ {es : List Expr} {f : Lx} {l : List Nat}, cLs r Γ es = some (f, l) → PA X es (TL C f)
  | [], f, l, h => by cases h; exact l_nil
  | e :: es, f, l, h => by
    unfold cLs at h
    split at h
    · rename_i hs
      split at h
      · rename_i f1 l1 e1
        split at h
        · rename_i g k e2
          cases h
          exact l_cons (ro.e _ _ _ _ _ _ _ G e1) (cLs_ok ro G e2) (star_cons hs)
        · cases h
      · cases h
    · cases h
theorem vis_of (G : Gd X C Γ) {x : Str} (h : visB Γ.sc x = true) : Vis X.env.scope x := by
  rw [G.sc]; exact visB_ok h
theorem nat_of (G : Gd X C Γ) {x : Str} {i : Nat} (h : ixOf Γ.N x = some i) : X.N[i]? = some x := by
  rw [G.N]; exact ixOf_some h
theorem cAs_ok (ro : RecOk r) (G : Gd X C Γ) : ∀ {es : List Expr} {f : Ax} {l : List Nat}, cAs r Γ es = some (f, l) → PA X es (TA' C f) ∧ (∀ ρ W as W', f ρ W = some (as, W') → as.length = es.length)
  | [], f, l, h => by
    cases h
    refine ⟨a_nil, fun ρ W as W' e => ?_⟩
    cases e
    rfl
  | e :: es, f, l, h => by
    unfold cAs at h
    split at h
    · rename_i i hi
      split at h
      · rename_i g k e2
        cases h
        have ih := cAs_ok ro G e2
        unfold isSrc at hi
        split at hi
        · rename_i x p
          split at hi
          · rename_i hc
            rw [Bool.and_eq_true, Bool.and_eq_true] at hc
            refine ⟨a_src (nat_of G hi) (vis_of G hc.1.2) (okN_1 hc.2) (okN_2 hc.2) ih.1 rfl, fun ρ W as W' e => ?_⟩
            unfold aSrc at e
            split at e
            · split at e
              · rename_i xs W2 h2
                cases e
                simp [ih.2 _ _ _ _ h2]
              · cases e
            · cases e
          · cases hi
        · cases hi
      · cases h
    · split at h
      · rename_i hs
        split at h
        · rename_i f1 l1 e1
          split at h
          · rename_i g k e2
            cases h
            have ih := cAs_ok ro G e2
            refine ⟨a_cons (ro.e _ _ _ _ _ _ _ G e1) ih.1 (star_cons hs), fun ρ W as W' e => ?_⟩
            unfold aCons at e
            split at e
            · split at e
              · rename_i xs W2 h2
                cases e
                simp [ih.2 _ _ _ _ h2]
              · cases e
            · cases e
          · cases h
        · cases h
      · cases h
theorem cBs_ok (ro : RecOk r) (G : Gd X C Γ) {op : BoolOp} {pos : Pos} : ∀ {es : List Expr} {f : Ex} {l : List Nat}, cBs r Γ op es = some (f, l) → PE X (.BoolOp op es pos) (TX C .va f)
  | [], f, l, h => by cases h
  | [e], f, l, h => x_one (ro.e _ _ _ _ _ _ _ G h)
  | e :: e' :: es, f, l, h => by
    unfold cBs at h
    split at h
    · rename_i f1 l1 e1
      split at h
      · rename_i g k e2
        cases h
        cases op with
        | And => exact x_and (ro.e _ _ _ _ _ _ _ G e1) (cBs_ok ro G e2)
        | Or => exact x_or (ro.e _ _ _ _ _ _ _ G e1) (cBs_ok ro G e2)
      · cases h
    · cases h
theorem cTs_ok (ro : RecOk r) (G : Gd X C Γ) {op : BoolOp} {pos : Pos} : ∀ {es : List Expr} {f : Tx} {l : List Nat}, cTs r Γ op es = some (f, l) → PW X (.BoolOp op es pos) (TB C f)
  | [], f, l, h => by cases h
  | [e], f, l, h => by
    cases op with
    | And => exact t_and1 (ro.t _ _ _ _ _ _ G h)
    | Or => exact t_or1 (ro.t _ _ _ _ _ _ G h)
  | e :: e' :: es, f, l, h => by
    unfold cTs at h
    split at h
    · rename_i f1 l1 e1
      split at h
      · rename_i g k e2
        cases h
        cases op with
        | And => exact t_and (ro.t _ _ _ _ _ _ G e1) (cTs_ok ro G e2)
        | Or => exact t_or (ro.t _ _ _ _ _ _ G e1) (cTs_ok ro G e2)
      · cases h
    · cases h
theorem bin_ok (G : Gd X C Γ) {op : Operator} {f : PyData → PyData → Option PyData} {nw : Bool} (h : binOf op = some (f, nw)) : OpR X (binaryOp op) (RD2 C (if nw = true then .nw else .va) f) := by
  unfold binOf at h
  split at h <;> cases h
  · exact o_add G.hK
  · exact o_mul G.hK
  · exact o_sub
  · exact o_div
  · exact o_mod
  · exact o_pow
theorem cmp_ok (G : Gd X C Γ) {op : CmpOp} {f : PyData → PyData → Option PyData} (h : cmpOf op = some f) : OpR X (compareOp op) (RD2 C .va f) := by
  have hu := G.hu
  cases op <;> cases h
  · exact o_eq G.hK (by omega)
  · exact o_ne G.hK (by omega)
  · exact o_lt G.hK (by omega)
  · exact o_cInt op_le
  · exact o_gt G.hK (by omega)
  · exact o_cInt op_ge
  · exact o_isN
  · exact o_notN
  · exact o_in G.hK (by omega)
  · exact o_notIn G.hK (by omega)
theorem gl_of (G : Gd X C Γ) {x : Str} (h : isGl Γ.sc x = true) : Gl X x := isGl_ok G h
theorem fun_ok (ro : RecOk r) (G : Gd X C Γ) {x : Str} {f : List PyData → Option PyData} {nw : Bool} {a : Expr} {es : List Expr} {g : Lx} {p pos : Pos} (h : funOf x = some (f, nw)) (hg : isGl Γ.sc x = true) (hs : (a :: es).all noStar = true) (ha : PA X (a :: es) (TV C g)) :
    PE X (.Call (.Name x p) (a :: es) [] pos) (TX C (if nw = true then .nw else .va) (eN f g)) := by
  rw [List.all_cons, Bool.and_eq_true] at hs
  have hu := G.hu
  have hgl := isGl_ok G hg
  have bl := G.tb.bl
  unfold funOf at h
  by_cases c_len : (x == ("len" : Str)) = true
  · rw [if_pos c_len] at h
    have e' : x = "len" := by simpa using c_len
    subst e'
    cases h
    exact x_callB (o_len G.hK) hgl (bl _ (by decide)) (by decide +kernel) ha (by decide) (by decide) (star_cons hs.1) (star_plain hs.2)
  rw [if_neg c_len] at h
  by_cases c_abs : (x == ("abs" : Str)) = true
  · rw [if_pos c_abs] at h
    have e' : x = "abs" := by simpa using c_abs
    subst e'
    cases h
    exact x_callB o_abs hgl (bl _ (by decide)) (by decide +kernel) ha (by decide) (by decide) (star_cons hs.1) (star_plain hs.2)
  rw [if_neg c_abs] at h
  by_cases c_max : (x == ("max" : Str)) = true
  · rw [if_pos c_max] at h
    have e' : x = "max" := by simpa using c_max
    subst e'
    cases h
    exact x_callB (o_maxA G.hK G.calm) hgl (bl _ (by decide)) (by decide +kernel) ha (by decide) (by decide) (star_cons hs.1) (star_plain hs.2)
  rw [if_neg c_max] at h
  by_cases c_repr : (x == ("repr" : Str)) = true
  · rw [if_pos c_repr] at h
    have e' : x = "repr" := by simpa using c_repr
    subst e'
    cases h
    exact x_callB (o_repr G.hK G.gu (by omega)) hgl (bl _ (by decide)) (by decide +kernel) ha (by decide) (by decide) (star_cons hs.1) (star_plain hs.2)
  rw [if_neg c_repr] at h
  by_cases c_all : (x == ("all" : Str)) = true
  · rw [if_pos c_all] at h
    have e' : x = "all" := by simpa using c_all
    subst e'
    cases h
    exact x_callB (o_all G.hK G.calm) hgl (bl _ (by decide)) (by decide +kernel) ha (by decide) (by decide) (star_cons hs.1) (star_plain hs.2)
  rw [if_neg c_all] at h
  by_cases c_any : (x == ("any" : Str)) = true
  · rw [if_pos c_any] at h
    have e' : x = "any" := by simpa using c_any
    subst e'
    cases h
    exact x_callB (o_any G.hK G.calm) hgl (bl _ (by decide)) (by decide +kernel) ha (by decide) (by decide) (star_cons hs.1) (star_plain hs.2)
  rw [if_neg c_any] at h
  by_cases c_tuple : (x == ("tuple" : Str)) = true
  · rw [if_pos c_tuple] at h
    have e' : x = "tuple" := by simpa using c_tuple
    subst e'
    cases h
    exact x_callTy (o_tuple G.hK) hgl (bl _ (by decide)) (by decide +kernel) ha (by decide) (by decide) (star_cons hs.1) (star_plain hs.2)
  rw [if_neg c_tuple] at h
  by_cases c_int : (x == ("int" : Str)) = true
  · rw [if_pos c_int] at h
    have e' : x = "int" := by simpa using c_int
    subst e'
    cases h
    exact x_callTy o_int hgl (bl _ (by decide)) (by decide +kernel) ha (by decide) (by decide) (star_cons hs.1) (star_plain hs.2)
  rw [if_neg c_int] at h
  by_cases c_list : (x == ("list" : Str)) = true
  · rw [if_pos c_list] at h
    have e' : x = "list" := by simpa using c_list
    subst e'
    cases h
    exact x_callTy (o_list G.hK) hgl (bl _ (by decide)) (by decide +kernel) ha (by decide) (by decide) (star_cons hs.1) (star_plain hs.2)
  rw [if_neg c_list] at h
  by_cases c_sorted : (x == ("sorted" : Str)) = true
  · rw [if_pos c_sorted] at h
    have e' : x = "sorted" := by simpa using c_sorted
    subst e'
    cases h
    exact x_callB (o_sort G.hK (by omega)) hgl (bl _ (by decide)) (by decide +kernel) ha (by decide) (by decide) (star_cons hs.1) (star_plain hs.2)
  rw [if_neg c_sorted] at h
  by_cases c_min : (x == ("min" : Str)) = true
  · rw [if_pos c_min] at h
    have e' : x = "min" := by simpa using c_min
    subst e'
    cases h
    exact x_callB (o_minA G.hK G.calm) hgl (bl _ (by decide)) (by decide +kernel) ha (by decide) (by decide) (star_cons hs.1) (star_plain hs.2)
  rw [if_neg c_min] at h
  by_cases c_sum : (x == ("sum" : Str)) = true
  · rw [if_pos c_sum] at h
    have e' : x = "sum" := by simpa using c_sum
    subst e'
    cases h
    exact x_callB (o_sum G.hK G.calm) hgl (bl _ (by decide)) (by decide +kernel) ha (by decide) (by decide) (star_cons hs.1) (star_plain hs.2)
  rw [if_neg c_sum] at h
  by_cases c_str : (x == ("str" : Str)) = true
  · rw [if_pos c_str] at h
    have e' : x = "str" := by simpa using c_str
    subst e'
    cases h
    exact x_callTy o_str hgl (bl _ (by decide)) (by decide +kernel) ha (by decide) (by decide) (star_cons hs.1) (star_plain hs.2)
  rw [if_neg c_str] at h
  cases h
theorem ty_ok (G : Gd X C Γ) {T : Str} {tn : String} (h : tyOf T = some tn) : X.mg T = none ∧ bootBuiltins T = some (.type tn) ∧ T ≠ "__name__" ∧ (T == ("__debug__" : Str)) = false := by
  have bl := G.tb.bl
  unfold tyOf at h
  split at h
  · rename_i e
    have e' : T = "int" := by simpa using e
    subst e'
    cases h
    exact ⟨bl _ (by decide), by decide +kernel, by decide, by decide⟩
  split at h
  · rename_i e
    have e' : T = "bool" := by simpa using e
    subst e'
    cases h
    exact ⟨bl _ (by decide), by decide +kernel, by decide, by decide⟩
  split at h
  · rename_i e
    have e' : T = "str" := by simpa using e
    subst e'
    cases h
    exact ⟨bl _ (by decide), by decide +kernel, by decide, by decide⟩
  split at h
  · rename_i e
    have e' : T = "list" := by simpa using e
    subst e'
    cases h
    exact ⟨bl _ (by decide), by decide +kernel, by decide, by decide⟩
  split at h
  · rename_i e
    have e' : T = "tuple" := by simpa using e
    subst e'
    cases h
    exact ⟨bl _ (by decide), by decide +kernel, by decide, by decide⟩
  · cases h
theorem foldedSet_of {e : Expr} (h : noSet e = true) (env : Env) (x : Value) : foldedSetIterable e env x = pure x := by
  cases e <;> first | rfl | cases h
theorem cSeq_ok (ro : RecOk r) (G : Gd X C Γ) {tg e : Expr} {f : Lx} {l : List Nat} (h : cSeq r Γ e = some (f, l)) : PI X tg e (TI' C f) ∧ ∀ x, foldedSetIterable e X.env x = pure x := by
  unfold cSeq at h
  split at h
  · rename_i hs
    split at h
    · rename_i f1 l1 e1
      cases h
      exact ⟨i_seq G.hK (ro.e _ _ _ _ _ _ _ G e1), foldedSet_of hs X.env⟩
    · cases h
  · cases h
theorem tup_is {e : Expr} (h : isTupE e = true) : ∃ es k p, e = .Tuple es k p := by
  cases e with
  | Tuple es k p => exact ⟨es, k, p, rfl⟩
  | _ => cases h
theorem cI_ok (ro : RecOk r) (G : Gd X C Γ) {tg e : Expr} {f : Lx} {l : List Nat} (h : cI r Γ (isTupE tg) e = some (f, l)) : PI X tg e (TI' C f) ∧ ∀ x, foldedSetIterable e X.env x = pure x := by
  unfold cI at h
  split at h
  · rename_i x p a pos
    split at h
    · rename_i e
      have e' : x = "range" := by simpa using e
      subst e'
      split at h
      · rename_i hc
        rw [Bool.and_eq_true] at hc
        split at h
        · rename_i f1 l1 e1
          cases h
          exact ⟨i_rng1 (isGl_ok G hc.1) (G.tb.bl _ (by decide)) (ro.e _ _ _ _ _ _ _ G e1) (star_cons hc.2) rfl, foldedSet_of rfl X.env⟩
        · cases h
      · cases h
    · split at h
      · rename_i e
        have e' : x = "enumerate" := by simpa using e
        subst e'
        split at h
        · rename_i hc
          rw [Bool.and_eq_true, Bool.and_eq_true] at hc
          split at h
          · rename_i f1 l1 e1
            cases h
            obtain ⟨es, k, tp, rfl⟩ := tup_is hc.1.1
            exact ⟨i_enum G.hK (isGl_ok G hc.1.2) (G.tb.bl _ (by decide)) (ro.e _ _ _ _ _ _ _ G e1) (star_cons hc.2) rfl, foldedSet_of rfl X.env⟩
          · cases h
        · cases h
      · exact cSeq_ok ro G h
  · rename_i x p a b pos
    split at h
    · rename_i e
      have e' : x = "range" := by simpa using e
      subst e'
      split at h
      · rename_i hc
        rw [Bool.and_eq_true, Bool.and_eq_true] at hc
        split at h
        · rename_i f1 l1 f2 l2 e1 e2
          cases h
          exact ⟨i_rng2 (isGl_ok G hc.1.1) (G.tb.bl _ (by decide)) (ro.e _ _ _ _ _ _ _ G e1) (ro.e _ _ _ _ _ _ _ G e2) (by rw [star_cons hc.1.2, star_cons hc.2]; rfl) (star_cons hc.2) rfl, foldedSet_of rfl X.env⟩
        · cases h
      · cases h
    · split at h
      · rename_i e
        have e' : x = "zip" := by simpa using e
        subst e'
        split at h
        · rename_i hc
          rw [Bool.and_eq_true, Bool.and_eq_true, Bool.and_eq_true] at hc
          split at h
          · rename_i f1 l1 f2 l2 e1 e2
            cases h
            obtain ⟨es, k, tp, rfl⟩ := tup_is hc.1.1.1
            exact ⟨i_zip G.hK (isGl_ok G hc.1.1.2) (G.tb.bl _ (by decide)) (ro.e _ _ _ _ _ _ _ G e1) (ro.e _ _ _ _ _ _ _ G e2) (star_cons hc.1.2) (star_cons hc.2), foldedSet_of rfl X.env⟩
          · cases h
        · cases h
      · exact cSeq_ok ro G h
  · rename_i x p a b kn vk vp kp pos
    split at h
    · rename_i hc
      obtain ⟨c1, c2, hc⟩ := hc
      have e1' : x = "zip" := by simpa using c1
      have e2' : kn = "strict" := by simpa using c2
      subst e1' e2'
      rw [Bool.and_eq_true, Bool.and_eq_true, Bool.and_eq_true] at hc
      split at h
      · rename_i f1 l1 f2 l2 e1 e2
        cases h
        obtain ⟨es, k, tp, rfl⟩ := tup_is hc.1.1.1
        exact ⟨i_zipS G.hK (isGl_ok G hc.1.1.2) (G.tb.bl _ (by decide)) (ro.e _ _ _ _ _ _ _ G e1) (ro.e _ _ _ _ _ _ _ G e2) (star_cons hc.1.2) (star_cons hc.2), foldedSet_of rfl X.env⟩
      · cases h
    · cases h
  · rename_i x p a b c pos
    split at h
    · rename_i e
      have e' : x = "range" := by simpa using e
      subst e'
      split at h
      · rename_i hc
        rw [Bool.and_eq_true] at hc
        split at h
        · rename_i f1 l1 e1
          cases h
          have hall := hc.2
          rw [List.all_cons, Bool.and_eq_true] at hall
          exact ⟨i_rng3 (isGl_ok G hc.1) (G.tb.bl _ (by decide)) (cVs_ok ro G e1) (star_cons hall.1) (star_plain hall.2), foldedSet_of rfl X.env⟩
        · cases h
      · cases h
    · exact cSeq_ok ro G h
  · exact cSeq_ok ro G h
theorem asg_cons {e : Expr} {es : List Expr} {env : Env} (h : noStar e = true) : assignEach (e :: es) env = (false, assign e env) :: assignEach es env := by
  cases e <;> first | rfl | cases h
theorem cGl_ok {c : Expr → Option Gx} {vs : List Nat} (hc : ∀ e g, c e = some g → PG X e (TG' C vs g)) : ∀ {es : List Expr} {h : Gxs}, cGl c es = some h → PGs X es (TGs' C vs h) ∧ (assignEach es X.env).length = es.length ∧ (assignEach es X.env).findIdx? (·.1) = none
  | [], h, e => by cases e; exact ⟨gs_nil, rfl, rfl⟩
  | e :: es, h, q => by
    unfold cGl at q
    split at q
    · rename_i hs
      split at q
      · rename_i g e1
        split at q
        · rename_i k e2
          cases q
          obtain ⟨i1, i2, i3⟩ := cGl_ok hc e2
          refine ⟨gs_cons (hc _ _ e1) i1 (by rw [asg_cons hs]; rfl), by rw [asg_cons hs]; simp [i2], ?_⟩
          rw [asg_cons hs, List.findIdx?_cons]
          simp [i3]
        · cases q
      · cases q
    · cases q
theorem cG_ok (G : Gd X C Γ) {vs : List Nat} : ∀ {n : Nat} {e : Expr} {g : Gx}, cG Γ vs n e = some g → PG X e (TG' C vs g)
  | 0, e, g, h => by cases e <;> cases h
  | n + 1, e, g, h => by
    cases e with
    | Name x p =>
      unfold cG at h
      split at h
      · rename_i i e1
        split at h
        · rename_i hc
          cases h
          rw [Bool.and_eq_true, decide_eq_true_eq] at hc
          obtain ⟨l1, l2⟩ := G.st x hc.1
          exact g_name G.nd (nat_of G e1) (by rw [G.sc]; exact l1) l2 hc.2
        · cases h
      · cases h
    | Tuple es k p =>
      unfold cG at h
      split at h
      · rename_i k e1
        cases h
        obtain ⟨i1, i2, i3⟩ := cGl_ok (X := X) (C := C) (vs := vs) (fun e g q => cG_ok G q) e1
        exact g_tup G.hK G.calm i1 i2 i3
      · cases h
    | _ => cases h
/-- the block of a comprehension -/
theorem lookup_map_cell {names : List (Str × NameKind)} {x : Str} {q : Str → NameKind → Bool} (hq : ∀ n k, q n k = true → k = .free) : ∀ {k : NameKind}, k ≠ .free → names.lookup x = some k → (names.map fun (n, k) => if q n k = true then (n, NameKind.cell) else (n, k)).lookup x = some k := by
  induction names with
  | nil => intro k _ h; cases h
  | cons p r ih =>
    intro k hk h
    obtain ⟨n, k'⟩ := p
    rw [List.lookup_cons] at h
    rw [List.map_cons]
    by_cases hx : (x == n) = true
    · rw [hx] at h
      cases h
      have : q n k = false := by
        cases e : q n k with
        | false => rfl
        | true => exact absurd (hq n k e) hk
      simp only [this]
      rw [List.lookup_cons]
      simp [hx]
    · have hx' : (x == n) = false := by simpa using hx
      rw [hx'] at h
      simp only at h
      have ih' := ih hk h
      by_cases e : q n k' = true
      · simp only [e, if_true]
        rw [List.lookup_cons, hx']
        exact ih'
      · have e' : q n k' = false := by simpa using e
        simp only [e', Bool.false_eq_true, if_false]
        rw [List.lookup_cons, hx']
        exact ih'
theorem gd_blk (G : Gd X C Γ) {scope : Scope} {own : List (Str × Nat)} (ok : BlkOk Γ.N Γ.sc scope own) (s : Shared) (H : Hp) (A : Addr) (cl : List (Str × Addr)) (fp : List Addr) : Gd (X.blk s H scope (compEnvC scope cl A X.env) fp) C (blkG Γ scope) where
  hK := G.hK
  calm := G.calm
  gu := G.gu
  nd := G.nd
  N := G.N
  sc := by
    show relabel scope X.env = relS scope Γ.sc
    rw [← G.sc]
    rfl
  st := fun x h => by
    have hsc : relabel scope X.env = relS scope Γ.sc := by rw [← G.sc]; rfl
    have hq : ∀ (n : Str) (k : NameKind), (k == .free && Γ.sc.kind == .function && Γ.sc.names.lookup n == some .cell) = true → k = .free := fun n k z => by
      rw [Bool.and_eq_true, Bool.and_eq_true] at z
      simpa using z.1.1
    have h : isLoc scope x = true := h
    unfold isLoc at h
    split at h
    · rename_i e
      have q := lookup_map_cell (q := fun n k => k == .free && Γ.sc.kind == .function && Γ.sc.names.lookup n == some .cell) hq (by decide) e
      exact ⟨.inl q, .inr (by show (relabel scope X.env).names.lookup x = _; rw [hsc]; exact q)⟩
    · rename_i e
      have q := lookup_map_cell (q := fun n k => k == .free && Γ.sc.kind == .function && Γ.sc.names.lookup n == some .cell) hq (by decide) e
      refine ⟨.inr q, .inl ?_⟩
      show (scope.names.lookup x == some .cell) = true
      rw [e]
      rfl
    · cases h
  xe := rfl
  hu := G.hu
  hd := G.hd
  kd := ok.kind
  tb := ⟨G.tb.fn, G.tb.ct, G.tb.bl, G.tb.md⟩
theorem cC_ok (ro : RecOk r) (G : Gd X C Γ) {elt tg iter : Expr} {ifs : List Expr} {scope : Scope} {pos : Pos} {f : Ex} {l : List Nat} (h : cC r Γ elt tg iter ifs scope = some (f, l)) :
    ∃ it g t e, f = eComp ((ownOf Γ tg).map (·.2)) it g t e ∧ PI X tg iter (TI' C it) ∧ BlkOk X.N X.env.scope scope (ownOf Γ tg) ∧
      (∀ (s : Shared) (H : Hp) (A : Addr) (cl : List (Str × Addr)) (fp : List Addr), PG (X.blk s H scope (compEnvC scope cl A X.env) fp) tg (TG' C ((ownOf Γ tg).map (·.2)) g)) ∧
      (∀ (s : Shared) (H : Hp) (A : Addr) (cl : List (Str × Addr)) (fp : List Addr), PTs (X.blk s H scope (compEnvC scope cl A X.env) fp) ifs (TB C t)) ∧
      (∀ (s : Shared) (H : Hp) (A : Addr) (cl : List (Str × Addr)) (fp : List Addr), PE (X.blk s H scope (compEnvC scope cl A X.env) fp) elt (TX C .va e)) ∧ ∀ x, foldedSetIterable iter X.env x = pure x := by
  unfold cC at h
  split at h
  · rename_i hb
    have ok := blkOk_by hb
    have ok' : BlkOk X.N X.env.scope scope (ownOf Γ tg) := by rw [G.N, G.sc]; exact ok
    split at h
    · rename_i it l1 e1
      obtain ⟨i1, i2⟩ := cI_ok (tg := tg) ro G e1
      split at h
      · rename_i g e2
        split at h
        · rename_i f1 k e3
          split at h
          · cases h
            exact ⟨it, g, tYs, f1, rfl, i1, ok', fun s H A cl fp => cG_ok (gd_blk G ok s H A cl fp) e2, fun s H A cl fp => ts_nil, fun s H A cl fp => ro.e _ _ _ _ _ _ _ (gd_blk G ok s H A cl fp) e3, i2⟩
          · split at h
            · rename_i t j e4
              cases h
              exact ⟨it, g, t, f1, rfl, i1, ok', fun s H A cl fp => cG_ok (gd_blk G ok s H A cl fp) e2, fun s H A cl fp => ts_one (ro.t _ _ _ _ _ _ (gd_blk G ok s H A cl fp) e4), fun s H A cl fp => ro.e _ _ _ _ _ _ _ (gd_blk G ok s H A cl fp) e3, i2⟩
            · cases h
          · cases h
        · cases h
      · cases h
    · cases h
  · cases h
theorem cCall_ok (ro : RecOk r) (G : Gd X C Γ) {m : Mode} {x : Str} {args : List Expr} {f : Ex} {l : List Nat} {p pos : Pos} (h : cCall r Γ m x args = some (f, l)) : PE X (.Call (.Name x p) args [] pos) (TX C m f) := by
  unfold cCall at h
  split at h
  · rename_i n φ e1
    split at h
    · rename_i hc
      obtain ⟨c1, c2, c3, c4, c5, c6⟩ := hc
      split at h
      · rename_i g k e2
        cases h
        cases args with
        | nil => exact absurd rfl c5
        | cons a es =>
          obtain ⟨k', fa, fd, ps, F1, F2, F3, F4, F5⟩ := G.tb.fn x n φ e1
          have ha := cAs_ok ro G e2
          have c6' := c6
          rw [List.all_cons, Bool.and_eq_true] at c6'
          exact fit_va (x_call (n := n) G.hK (by rw [← G.hK]; exact F1) F2 G.gu (isGl_ok G c2) F3 F4 F5 ha.1 (okN_1 c3) (star_cons c6'.1) (star_plain c6'.2) (fun ρ W as W' q => (ha.2 ρ W as W' q).trans c4)) c1
      · cases h
    · cases h
  · split at h
    · rename_i id e1
      split at h
      · rename_i hc
        obtain ⟨c0, c1, c2, c3, c5, c6⟩ := hc
        subst c0
        split at h
        · rename_i g k e2
          cases h
          cases args with
          | nil => exact absurd rfl c5
          | cons a es =>
            rw [List.all_cons, Bool.and_eq_true] at c6
            exact fit_va (x_callM o_gcd (isGl_ok G c2) (G.tb.md x _ e1) (cVs_ok ro G e2) (okN_1 c3) (star_cons c6.1) (star_plain c6.2)) c1
        · cases h
      · cases h
    · split at h
      · rename_i e1
        have e' : x = "isinstance" := by simpa using e1
        subst e'
        split at h
        · rename_i a T pt
          split at h
          · rename_i tn e2
            split at h
            · rename_i hc
              obtain ⟨c1, c2, c3, c4⟩ := hc
              split at h
              · rename_i f1 l1 e3
                cases h
                obtain ⟨t1, t2, t3, t4⟩ := ty_ok G e2
                exact fit_va (x_isi G.hK (isGl_ok G c2) (G.tb.bl _ (by decide)) (isGl_ok G c3) t1 t2 t3 t4 (ro.e _ _ _ _ _ _ _ G e3) (star_cons c4) rfl) c1
              · cases h
            · cases h
          · cases h
        · cases h
      · split at h
        · rename_i f1 nw e1
          split at h
          · rename_i hc
            obtain ⟨c1, c2, c5, c6⟩ := hc
            split at h
            · rename_i g k e2
              cases h
              cases args with
              | nil => exact absurd rfl c5
              | cons a es =>
                have q := fun_ok (pos := pos) (p := p) ro G e1 c2 c6 (cVs_ok ro G e2)
                cases nw with
                | true => exact fit_nw q
                | false =>
                  rcases c1 with c1 | c1
                  · cases c1
                  · exact fit_va q c1
            · cases h
          · cases h
        · cases h
theorem cP_ok (ro : RecOk r) (G : Gd X C Γ) {o : Option Expr} {f : Px} {l : List Nat} (h : cP r Γ o = some (f, l)) : PO X o (TP0 C f) := by
  unfold cP at h
  split at h
  · cases h
    exact p_no
  · split at h
    · rename_i e f1 l1 e1
      cases h
      exact p_of (ro.e _ _ _ _ _ _ _ G e1)
    · cases h
theorem plainB_ok {o : Expr} {attr : Str} {env : Env} (h : plainB o = true) : attributeBase o attr env (eval o env) = eval o env := by
  cases o <;> first | rfl | cases h
theorem mIndex_l {x y r : PyData} (h : mIndex x y = some r) : ∃ zs, x = .list zs := by
  unfold mIndex at h
  split at h
  · exact ⟨_, rfl⟩
  · cases h
theorem cMeth_ok (ro : RecOk r) (G : Gd X C Γ) {m : Mode} {o a : Expr} {attr : Str} {ap cp : Pos} {f : Ex} {l : List Nat} (h : cMeth r Γ m o attr ap cp a = some (f, l)) : PE X (.Call (.Attribute o attr ap) [a] [] cp) (TX C m f) := by
  have hu := G.hu
  unfold cMeth at h
  split at h
  · rename_i hc
    obtain ⟨c1, c2, c3, c4⟩ := hc
    split at h
    · rename_i ha
      split at h
      · rename_i fo lo fa la e1 e2
        cases h
        have e' : attr = "index" := by simpa using ha
        subst e'
        exact fit_va (x_meth G.hK PySem.F.slot_list_index PySem.F.type_list_index (mt_ix G.hK (by omega)) (fun x y r q => mIndex_l q) (ro.e _ _ _ _ _ _ _ G e1) (ro.e _ _ _ _ _ _ _ G e2) (plainB_ok c2) c3 c4) c1
      · cases h
    · cases h
  · cases h
theorem stepE_ok (ro : RecOk r) (G : Gd X C Γ) {m : Mode} {e : Expr} {f : Ex} {l : List Nat} (h : stepE r Γ m e = some (f, l)) : PE X e (TX C m f) := by
  unfold stepE at h
  split at h
  · rename_i x p
    split at h
    · rename_i hk
      split at h
      · rename_i i hi
        split at h
        · rename_i hv
          split at h
          · cases h
            exact x_val (nat_of G hi) (vis_of G hv) (okN_1 hk) (okN_2 hk)
          · cases h
            exact x_var (nat_of G hi) (vis_of G hv) (okN_1 hk) (okN_2 hk)
          · cases h
        · cases h
      · split at h
        · rename_i d hd
          split at h
          · rename_i hc
            cases h
            obtain ⟨v, u, k1, k2, k3⟩ := G.tb.ct x d hd
            exact fit_va (x_const (pe_glob (isGl_ok G hc.2) k1 k2 (okN_1 hk)) (fun F => G.hK ▸ k3 F)) hc.1
          · cases h
        · cases h
    · cases h
  · rename_i c k p
    split at h
    · cases h
    · rename_i hn
      have hn := nnw hn
      split at h
      · cases h; exact fit_va (x_const pe_int fun F => .int _) hn
      · cases h; exact fit_va (x_const pe_str fun F => .str _) hn
      · cases h; exact fit_va (x_const pe_bl fun F => .bl _) hn
      · cases h; exact fit_va (x_const pe_non fun F => .non) hn
      · cases h
  · rename_i a op b p
    split at h
    · rename_i f1 nw fa la fb lb e1 e2 e3
      split at h
      · rename_i hc
        cases h
        have q := x_2 (pos := p) (bin_ok G e1) (ro.e _ _ _ _ _ _ _ G e2) (ro.e _ _ _ _ _ _ _ G e3)
        cases nw with
        | true => exact fit_nw q
        | false =>
          rcases hc with hc | hc
          · cases hc
          · exact fit_va q hc
      · cases h
    · cases h
  · rename_i op a p
    split at h
    · cases h
    · rename_i hn
      have hn := nnw hn
      split at h
      · split at h
        · rename_i f1 l1 e1
          cases h
          exact fit_va (x_un o_neg (ro.e _ _ _ _ _ _ _ G e1)) hn
        · cases h
      · split at h
        · rename_i f1 l1 e1
          cases h
          exact fit_va (x_not (ro.e _ _ _ _ _ _ _ G e1)) hn
        · cases h
      · cases h
  · rename_i op es p
    split at h
    · cases h
    · rename_i hn
      exact fit_va (cBs_ok ro G h) (nnw hn)
  · rename_i a op b p
    split at h
    · cases h
    · rename_i hn
      split at h
      · rename_i f1 fa la fb lb e1 e2 e3
        split at h
        · rename_i hc
          cases h
          exact fit_va (x_cmp (cmp_ok G e1) (ro.e _ _ _ _ _ _ _ G e2) (ro.e _ _ _ _ _ _ _ G e3) hc) (nnw hn)
        · cases h
      · cases h
  · rename_i a op op' b c p
    split at h
    · cases h
    · rename_i hn
      split at h
      · rename_i f1 g1 fa la fb lb fc lc e1 e1' e2 e3 e4
        split at h
        · rename_i hc
          cases h
          exact fit_va (x_chain (cmp_ok G e1) (cmp_ok G e1') (ro.e _ _ _ _ _ _ _ G e2) (ro.e _ _ _ _ _ _ _ G e3) (ro.e _ _ _ _ _ _ _ G e4) hc) (nnw hn)
        · cases h
      · cases h
  · rename_i c a b p
    split at h
    · rename_i t l1 fa la fb lb e1 e2 e3
      cases h
      exact x_if (ro.t _ _ _ _ _ _ G e1) (ro.e _ _ _ _ _ _ _ G e2) (ro.e _ _ _ _ _ _ _ G e3)
    · cases h
  · rename_i a k1 p1 p2 p3 p4
    split at h
    · rename_i fa la e1
      cases h
      exact fit_nw (x_rev G.hK (ro.e _ _ _ _ _ _ _ G e1))
    · cases h
  · rename_i a lo hi p1 p2
    split at h
    · rename_i fa la fl l1 fh k e1 e2 e3
      cases h
      exact fit_nw (x_sl (o_sl G.hK) (ro.e _ _ _ _ _ _ _ G e1) (cP_ok ro G e2) (cP_ok ro G e3))
    · cases h
  · rename_i a b p _
    split at h
    · rename_i hc
      split at h
      · rename_i fa la fb lb e1 e2
        cases h
        exact fit_va (x_ix (o_ix G.hK) (ro.e _ _ _ _ _ _ _ G e1) (ro.e _ _ _ _ _ _ _ G e2) (plainIx_of hc.2)) hc.1
      · cases h
    · cases h
  · rename_i es k p
    split at h
    · cases h
    · rename_i hn
      split at h
      · rename_i f1 l1 e1
        cases h
        exact fit_va (x_tup (cLs_ok ro G e1)) (nnw hn)
      · cases h
  · rename_i es p
    split at h
    · rename_i f1 l1 e1
      cases h
      exact fit_nw (x_lst (cLs_ok ro G e1))
    · cases h
  · rename_i elt tg iter ifs scope p
    obtain ⟨it, g, t, e, rfl, h1, h2, h3, h4, h5, h6⟩ := cC_ok (pos := p) ro G h
    exact fit_nw (x_comp G.calm G.nd h1 h2 h3 h4 h5 h6)
  · rename_i x p1 args p2
    exact cCall_ok ro G h
  · rename_i o attr ap a cp
    exact cMeth_ok ro G h
  · cases h
theorem stepT_ok (ro : RecOk r) (G : Gd X C Γ) {e : Expr} {t : Tx} {l : List Nat} (h : stepT r Γ e = some (t, l)) : PT X e (TB C t) := by
  unfold stepT at h
  split at h
  · rename_i a p
    split at h
    · rename_i t1 l1 e1
      cases h
      exact t_not (ro.t _ _ _ _ _ _ G e1)
    · cases h
  · rename_i op es p
    exact (cTs_ok ro G h).pt
  · rename_i a op b p
    split at h
    · rename_i f1 fa la fb lb e1 e2 e3
      split at h
      · rename_i hc
        cases h
        exact t_cmp (cmp_ok G e1) (ro.e _ _ _ _ _ _ _ G e2) (ro.e _ _ _ _ _ _ _ G e3) hc
      · cases h
    · cases h
  · rename_i a op op' b c p
    split at h
    · rename_i f1 g1 fa la fb lb fc lc e1 e1' e2 e3 e4
      split at h
      · rename_i hc
        cases h
        exact t_chain (cmp_ok G e1) (cmp_ok G e1') (ro.e _ _ _ _ _ _ _ G e2) (ro.e _ _ _ _ _ _ _ G e3) (ro.e _ _ _ _ _ _ _ G e4) hc
      · cases h
    · cases h
  · split at h
    · rename_i hp
      split at h
      · rename_i f1 l1 e1
        cases h
        exact t_val (ro.e _ _ _ _ _ _ _ G e1) (plainT_ok hp X.env)
      · cases h
    · cases h
end
theorem recs_ok : ∀ n : Nat, RecOk (recs n)
  | 0 => ⟨fun _ _ _ _ _ _ _ _ h => (by cases h), fun _ _ _ _ _ _ _ h => (by cases h)⟩
  | n + 1 => ⟨fun _ _ _ _ _ _ _ G h => stepE_ok (recs_ok n) G h, fun _ _ _ _ _ _ G h => stepT_ok (recs_ok n) G h⟩
end Dv
set_option Elab.async false
set_option linter.all false
set_option maxRecDepth 100000
set_option maxHeartbeats 2000000
/-! Part 12: statements read off the text. -/
namespace Dv
open PySem PySem.Spec PyProof.Rows L2

/-- which names a, b, .. = x, y, .. stores without a tuple: none if not told -/
def swNames (sc : Scope) (ts : List Expr) : List Str := ts.filterMap fun
  | .Name id pos => if (sc.names.lookup id == some .local && pos.line == (ts.head?.map (·.pos.line)).getD 0) = true then some id else none
  | _ => none
def swOf (sc : Scope) (ts vs : List Expr) : Option (Option (List Str)) :=
  if (!(ts.length == 2 || ts.length == 3) || vs.length != ts.length) = true then some none
  else if (vs.any fun | .Starred .. => true | _ => false) = true then some none
  else if ((swNames sc ts).length != ts.length || (swNames sc ts).eraseDups.length != (swNames sc ts).length) = true then some none
  else if vs.all (foldedForSure 8) = true then some none
  else if vs.all (constantsAlone 8) = true then none
  else some (some (swNames sc ts))
theorem swOf_ok {env : Env} {ts vs : List Expr} {k k2 : Nat} {p p2 : Pos} {r : Option (List Str)} (hk : env.scope.kind = .function) (h : swOf env.scope ts vs = some r) : swappedStores [.Tuple ts k p] (.Tuple vs k2 p2) env = pure r := by
  have hb : env.blockKind = .function := by unfold Env.blockKind; rw [hk]; rfl
  have hb2 : (env.blockKind != .function) = false := by rw [hb]; rfl
  unfold swOf at h
  unfold swappedStores
  simp only [hb2, Bool.or_false]
  by_cases c : (!(ts.length == 2 || ts.length == 3) || vs.length != ts.length) = true
  · rw [if_pos c] at h; cases h; exact if_pos c
  rw [if_neg c] at h
  refine (if_neg c).trans ?_
  by_cases c2 : (vs.any fun | .Starred .. => true | _ => false) = true
  · rw [if_pos c2] at h; cases h; exact if_pos c2
  rw [if_neg c2] at h
  refine (if_neg c2).trans ?_
  by_cases c3 : ((swNames env.scope ts).length != ts.length || (swNames env.scope ts).eraseDups.length != (swNames env.scope ts).length) = true
  · rw [if_pos c3] at h; cases h; exact if_pos c3
  rw [if_neg c3] at h
  refine (if_neg c3).trans ?_
  by_cases c4 : vs.all (foldedForSure 8) = true
  · rw [if_pos c4] at h; cases h; exact if_pos c4
  rw [if_neg c4] at h
  refine (if_neg c4).trans ?_
  by_cases c5 : vs.all (constantsAlone 8) = true
  · rw [if_pos c5] at h; cases h
  rw [if_neg c5] at h
  cases h
  exact if_neg c5
theorem sw_none {env : Env} {tg e : Expr} (h : isTupE e = false) : swappedStores [tg] e env = pure none := by
  unfold swappedStores
  cases e with
  | Tuple => cases h
  | _ => cases tg <;> rfl
def noComp : Expr → Bool
  | .ListComp .. => false
  | .SetComp .. => false
  | .DictComp .. => false
  | _ => true
theorem swaps_plain {e : Expr} {t : Option Expr} {l : Nat} {env : Env} (h : noComp e = true) : swapsWith e t l env = pure false := by
  cases e <;> first | rfl | cases h
theorem sws_plain {tg e : Expr} {l : Nat} {env : Env} (h : noComp e = true) : swapsWithSole [tg] e l env = pure false := swaps_plain h
/-- a list display for a name: stored outright, or by the comprehension's own road -/
def swLc (sc : Scope) (scope : Scope) (y : Str) (py pos : Pos) : Bool := isLc sc y && (py.line == pos.line) && !(scope.names.any fun (n, k) => n == y && (k == .local || k == .cell))
theorem swLc_no {env : Env} {elt : Expr} {gs : List Comprehension} {scope : Scope} {pos py : Pos} {y : Str} {l : Nat} (hk : env.scope.kind = .function) (h : swLc env.scope scope y py pos = false) : swapsWith (.ListComp elt gs scope pos) (some (.Name y py)) l env = pure false := by
  have hb : env.blockKind = .function := by unfold Env.blockKind; rw [hk]; rfl
  have hl : (env.kindOf y == some .local) = isLc env.scope y := by
    show (env.scope.names.lookup y == some .local) = _
    unfold isLc
    split
    · rename_i e; rw [e]; rfl
    · rename_i hne
      cases q : env.scope.names.lookup y with
      | none => rfl
      | some k => cases k <;> first | rfl | exact absurd q (by assumption)
  unfold swLc at h
  unfold swapsWith
  simp only [hb, hl, Expr.pos]
  have e1 : (ScopeKind.function == ScopeKind.function) = true := rfl
  rw [e1, Bool.true_and, h]

/-- a value for a name: new lists where it can be -/
def cN (r : Rec) (Γ : Gm) (e : Expr) : Option (Nx × List Nat) := match r.1 Γ .nw e with
  | some (f, l) => some ((true, f), l)
  | none => match r.1 Γ .va e with
    | some (f, l) => some ((false, f), l)
    | none => none
def cNs (r : Rec) (Γ : Gm) : List Expr → Option (List Nx × List Nat)
  | [] => some ([], [])
  | e :: es => if noStar e = true then match cN r Γ e with
    | some (f, l) => match cNs r Γ es with
      | some (fs, k) => some (f :: fs, l ++ k)
      | none => none
    | none => none else none
def nmOf (Γ : Gm) : List Expr → Option (List Nat)
  | [] => some []
  | .Name x _ :: es => match ixOf Γ.N x with
    | some i => if isLoc Γ.raw x = true then match nmOf Γ es with
      | some is => some (i :: is)
      | none => none else none
    | none => none
  | _ => none
def asName : Expr → Option (Str × Pos)
  | .Name x p => some (x, p)
  | _ => none
def asTup : Expr → Option (List Expr × Nat × Pos)
  | .Tuple es k p => some (es, k, p)
  | _ => none
structure LcV where
  elt : Expr
  tg : Expr
  iter : Expr
  ifs : List Expr
  scope : Scope
  pos : Pos
def asLc : Expr → Option LcV
  | .ListComp elt [⟨tg, iter, ifs, 0⟩] scope pos => some ⟨elt, tg, iter, ifs, scope, pos⟩
  | _ => none
theorem asName_ok {e : Expr} {x : Str} {p : Pos} (h : asName e = some (x, p)) : e = .Name x p := by
  cases e <;> first | (cases h; rfl) | cases h
theorem asTup_ok {e : Expr} {es : List Expr} {k : Nat} {p : Pos} (h : asTup e = some (es, k, p)) : e = .Tuple es k p := by
  cases e <;> first | (cases h; rfl) | cases h
theorem asLc_ok {e : Expr} {v : LcV} (h : asLc e = some v) : e = .ListComp v.elt [⟨v.tg, v.iter, v.ifs, 0⟩] v.scope v.pos := by
  unfold asLc at h
  split at h
  · cases h; rfl
  · cases h
theorem asTup_no {e : Expr} (h : asTup e = none) : isTupE e = false := by
  cases e <;> first | rfl | cases h
def sPut (n : Bool) (i : Nat) (f : Ex) : Sx := match n with
  | true => sNew i f
  | false => sSet (gN i) f
def cAsgN (r : Rec) (Γ : Gm) (x : Str) (py : Pos) (e : Expr) : Option Sx := match ixOf Γ.N x with
  | none => none
  | some i => if isLoc Γ.raw x = true then match asLc e with
    | some v => match cC r Γ v.elt v.tg v.iter v.ifs v.scope with
      | some (f, l) => some (sFrz l (sNew i f))
      | none => none
    | none => if noComp e = true then match cN r Γ e with
      | some ((n, f), l) => some (sFrz l (sPut n i f))
      | none => none else none
    else none
def cPar (r : Rec) (Γ : Gm) (names : List Str) (is : List Nat) (fs : List Nx) (l : List Nat) (ts : List Expr) (es : List Expr) : Option Sx := match names with
  | [x, y] => match ts, es with
    | [a, b], [_, _] => if asName a = (asName a).map (fun p => (x, p.2)) ∧ asName b = (asName b).map (fun p => (y, p.2)) ∧ is.Nodup ∧ isLc Γ.sc x = true ∧ isLc Γ.sc y = true then some (sFrz l (sPars is fs)) else none
    | _, _ => none
  | [x, y, z] => match ts, es with
    | [a, b, c], [_, _, _] => if asName a = (asName a).map (fun p => (x, p.2)) ∧ asName b = (asName b).map (fun p => (y, p.2)) ∧ asName c = (asName c).map (fun p => (z, p.2)) ∧ is.Nodup ∧ isLc Γ.sc x = true ∧ isLc Γ.sc y = true ∧ isLc Γ.sc z = true then some (sFrz l (sPars is fs)) else none
    | _, _ => none
  | _ => none
def cAsgT (r : Rec) (Γ : Gm) (ts : List Expr) (k : Nat) (p : Pos) (e : Expr) : Option Sx := match asTup e with
  | none => if noComp e = true then match cG Γ (List.range Γ.N.length) 4 (.Tuple ts k p), r.1 Γ .va e with
      | some g, some (f, l) => some (sFrz l (sSet g f))
      | _, _ => none else none
  | some (es, k2, p2) => match swOf Γ.sc ts es with
    | none => none
    | some (some names) => match nmOf Γ ts, cNs r Γ es with
      | some is, some (fs, l) => cPar r Γ names is fs l ts es
      | _, _ => none
    | some none => match nmOf Γ ts, cNs r Γ es with
      | some is, some (fs, l) => if fs.length = is.length ∧ fs.length ≤ 100 then some (sFrz l (sPars is fs)) else none
      | _, _ => match cG Γ (List.range Γ.N.length) 4 (.Tuple ts k p), r.1 Γ .va (.Tuple es k2 p2) with
        | some g, some (f, l) => some (sFrz l (sSet g f))
        | _, _ => none
/-- y = xs.pop(), y = xs.pop(e) -/
structure PpV where
  x : Str
  p1 : Pos
  ap : Pos
  cp : Pos
  a : Option Expr
def asPop : Expr → Option PpV
  | .Call (.Attribute (.Name x p1) attr ap) [] [] cp => if (attr == ("pop" : Str)) = true then some ⟨x, p1, ap, cp, none⟩ else none
  | .Call (.Attribute (.Name x p1) attr ap) [a] [] cp => if (attr == ("pop" : Str)) = true then some ⟨x, p1, ap, cp, some a⟩ else none
  | _ => none
def cPop (r : Rec) (Γ : Gm) (y : Str) (v : PpV) : Option Sx := match ixOf Γ.N v.x, ixOf Γ.N y with
  | some i, some j => if visB Γ.sc v.x = true ∧ okN v.x = true ∧ isLoc Γ.raw y = true ∧ i ≠ j ∧ (v.ap.endLine == v.cp.line) = true then match v.a with
    | none => some (sPop j i)
    | some a => if noStar a = true then match r.1 Γ .va a with
      | some (f, l) => some (sFrz l (sPopAt j i f))
      | none => none else none
    else none
  | _, _ => none
def cAsg (r : Rec) (Γ : Gm) (tg e : Expr) : Option Sx := match asName tg with
  | some (x, py) => match asPop e with
    | some v => cPop r Γ x v
    | none => cAsgN r Γ x py e
  | none => match asTup tg with
    | some (ts, k, p) => cAsgT r Γ ts k p e
    | none => none
def augOf : Operator → Option (PyData → PyData → Option PyData)
  | .Add => some aAdd
  | .Sub => some aSub
  | _ => none
/-- xs.append(e) -/
def cApp (r : Rec) (Γ : Gm) (x : Str) (attr : Str) (ap cp : Pos) (a : Expr) : Option Sx := match ixOf Γ.N x with
  | some i => if (attr == ("append" : Str)) = true ∧ visB Γ.sc x = true ∧ okN x = true ∧ noStar a = true ∧ (ap.endLine == cp.line) = true then match r.1 Γ .va a with
    | some (f, l) => some (sFrz l (sApp i f))
    | none => none else none
  | none => none
/-- xs.extend(e) -/
def cExt (r : Rec) (Γ : Gm) (x : Str) (attr : Str) (ap cp : Pos) (a : Expr) : Option Sx := match ixOf Γ.N x with
  | some i => if (attr == ("extend" : Str)) = true ∧ visB Γ.sc x = true ∧ okN x = true ∧ noStar a = true ∧ (ap.endLine == cp.line) = true then match r.1 Γ .va a with
    | some (f, l) => some (sFrz l (sExt i f))
    | none => none else none
  | none => none
def cSs (c : Stmt → Option Sx) : List Stmt → Option Sx
  | [] => some s0
  | st :: sts => match c st with
    | some f => match cSs c sts with
      | some g => some (sC f g)
      | none => none
    | none => none
structure ApV where
  x : Str
  p1 : Pos
  attr : Str
  ap : Pos
  a : Expr
  cp : Pos
def asApp : Expr → Option ApV
  | .Call (.Attribute (.Name x p1) attr ap) [a] [] cp => some ⟨x, p1, attr, ap, a, cp⟩
  | _ => none
theorem asApp_ok {e : Expr} {v : ApV} (h : asApp e = some v) : e = .Call (.Attribute (.Name v.x v.p1) v.attr v.ap) [v.a] [] v.cp := by
  unfold asApp at h
  split at h
  · cases h; rfl
  · cases h
def isDoc : Expr → Bool
  | .Constant (.str _) _ _ => true
  | _ => false
def cExp (r : Rec) (Γ : Gm) (e : Expr) : Option Sx :=
  if isDoc e = true then some sPass else match asApp e with
    | some v => if (v.attr == ("append" : Str)) = true then cApp r Γ v.x v.attr v.ap v.cp v.a else if (v.attr == ("extend" : Str)) = true then cExt r Γ v.x v.attr v.ap v.cp v.a else none
    | none => if noComp e = true then match r.1 Γ .va e with
      | some (f, l) => some (sFrz l (sDrop f))
      | none => none else none
def cAug (r : Rec) (Γ : Gm) (tg : Expr) (op : Operator) (e : Expr) : Option Sx := match asName tg with
  | some (x, _) => match ixOf Γ.N x, augOf op with
      | some i, some fo => if isLoc Γ.raw x = true then match r.1 Γ .vw e with
        | some (f, l) => some (sFrz l (sAug i fo f))
        | none => none else none
      | _, _ => none
  | none => none
def one {α : Type} : List α → Option α
  | [a] => some a
  | _ => none
theorem one_ok {α : Type} {l : List α} {a : α} (h : one l = some a) : l = [a] := by
  unfold one at h
  split at h
  · cases h; rfl
  · cases h
def sAfter (vs : List Nat) (f : Sx) : Sx := fun ρ W => match f ρ W with
  | some (.nx ρ1 W1) => some (.nx (wipeR ρ1 vs) W1)
  | o => o
theorem Rel.forget {C : Ct} {ρ : Rho} {W : Src} {F G H : Hp} {σ : L2.St} (R : Rel C ρ W F G σ H) : ∀ vs : List Nat, Rel C (wipeR ρ vs) W F G σ H
  | [] => R
  | v :: vs => by
    have R' := R.forget vs
    show Rel C ((wipeR ρ vs).set v .no) W F G σ H
    refine ⟨R'.fg, R'.gh, R'.src, R'.gz, R'.b1, R'.b2, R'.b3, by rw [List.length_set]; exact R'.len, fun j s e => ?_, fun j k a xs ys e1 e2 e3 e4 => ?_⟩
    · by_cases hj : v = j
      · subst hj
        have hl : v < (wipeR ρ vs).length := by simpa using (List.getElem?_eq_some_iff.mp e).1
        rw [List.getElem?_set_self hl] at e
        cases e
        exact ⟨_, List.getElem?_eq_getElem (R'.len ▸ hl), .no⟩
      · rw [List.getElem?_set_ne hj] at e
        exact R'.sl j s e
    · have hj : v ≠ j := fun z => by
        subst z
        have hl : v < (wipeR ρ vs).length := by simpa using (List.getElem?_eq_some_iff.mp e1).1
        rw [List.getElem?_set_self hl] at e1
        cases e1
      have hk : v ≠ k := fun z => by
        subst z
        have hl : v < (wipeR ρ vs).length := by simpa using (List.getElem?_eq_some_iff.mp e2).1
        rw [List.getElem?_set_self hl] at e2
        cases e2
      rw [List.getElem?_set_ne hj] at e1
      rw [List.getElem?_set_ne hk] at e2
      exact R'.ap j k a xs ys e1 e2 e3 e4
theorem st_after {X : Cx} {C : Ct} {st : Stmt} {f : Sx} (vs : List Nat) (h : PS X st (TS' C f)) : PS X st (TS' C (sAfter vs f)) := by
  refine ps_weak h fun D σ H ⟨ρ, W, F, G, o, R, e, q⟩ => ?_
  unfold sAfter at e
  split at e
  · rename_i ρ1 W1 e1
    cases e
    exact ⟨ρ, W, F, G, _, R, e1, fun F2 G2 σ2 H2 s2 R2 => q F2 G2 σ2 H2 s2 (R2.forget vs)⟩
  · exact ⟨ρ, W, F, G, o, R, e, q⟩
def cS1 (c : Stmt → Option Sx) (r : Rec) (Γ : Gm) (st : Stmt) : Option Sx := match st with
    | .Expr e _ => cExp r Γ e
    | .Return o _ => match o with
      | none => some sRetN
      | some e => match r.1 Γ .va e with
        | some (f, l) => some (sFrz l (sRet f))
        | none => none
    | .Assign ts e _ => match one ts with
      | some tg => cAsg r Γ tg e
      | none => none
    | .AugAssign tg op e _ => cAug r Γ tg op e
    | .If q a b _ => match r.2 Γ q, cSs c a, cSs c b with
      | some (t, l), some f, some g => some (sFrz l (sIf t f g))
      | _, _, _ => none
    | .For tg iter body els _ => if els.isEmpty = true then match cI r Γ (isTupE tg) iter, cG Γ (List.range Γ.N.length) 4 tg, cSs c body with
      | some (it, l), some g, some f => some (sFrz l (sFor it g f))
      | _, _, _ => none else none
    | .While q body els _ => if els.isEmpty = true then match r.2 Γ q, cSs c body with
      | some (t, l), some f => some (whL l t f Γ.fuel)
      | _, _ => none else none
    | .Pass _ => some sPass
    | .Break _ => some sBreak
    | .Continue _ => some sCont
    | .Raise .. => some sStuck
    | _ => none
/-- slots that nothing asks for any more are forgotten -/
def killOf (Γ : Gm) (st : Stmt) (f : Sx) : Sx := match Γ.wp.lookup st.pos.line with
  | some vs => sAfter vs f
  | none => f
def cS (r : Rec) (Γ : Gm) : Nat → Stmt → Option Sx
  | 0, _ => none
  | n + 1, st => match cS1 (cS r Γ n) r Γ st with
    | some f => some (killOf Γ st f)
    | none => none
section
variable {r : Rec} {Γ : Gm} {X : Cx} {C : Ct}
theorem cN_ok (ro : RecOk r) (G : Gd X C Γ) {e : Expr} {n : Bool} {f : Ex} {l : List Nat} (h : cN r Γ e = some ((n, f), l)) : PE X e (TX C (if n = true then .nw else .va) f) := by
  unfold cN at h
  split at h
  · rename_i f1 l1 e1
    cases h
    exact ro.e _ _ _ _ _ _ _ G e1
  · split at h
    · rename_i f1 l1 e1
      cases h
      exact ro.e _ _ _ _ _ _ _ G e1
    · cases h
theorem cNs_ok (ro : RecOk r) (G : Gd X C Γ) : ∀ {es : List Expr} {fs : List Nx} {l : List Nat}, cNs r Γ es = some (fs, l) → PA X es (TN C fs) ∧ fs.length = es.length
  | [], fs, l, h => by cases h; exact ⟨n_nil, rfl⟩
  | e :: es, fs, l, h => by
    unfold cNs at h
    split at h
    · rename_i hs
      split at h
      · rename_i f1 l1 e1
        split at h
        · rename_i g k e2
          cases h
          obtain ⟨n1, f1⟩ := f1
          obtain ⟨i1, i2⟩ := cNs_ok ro G e2
          exact ⟨n_cons (cN_ok ro G e1) i1 (star_cons hs), by simp [i2]⟩
        · cases h
      · cases h
    · cases h
theorem kd_of (G : Gd X C Γ) : X.env.scope.kind = .function := by rw [G.sc]; exact G.kd
theorem nm_ok (G : Gd X C Γ) : ∀ {ts : List Expr} {is : List Nat}, nmOf Γ ts = some is → PGs X ts (TNm is) ∧ (assignEach ts X.env).length = is.length ∧ (assignEach ts X.env).findIdx? (·.1) = none
  | [], is, h => by cases h; exact ⟨nm_nil, rfl, rfl⟩
  | t :: ts, is, h => by
    cases t with
    | Name x p =>
      unfold nmOf at h
      split at h
      · rename_i i e1
        split at h
        · rename_i hl
          split at h
          · rename_i is' e2
            cases h
            obtain ⟨i1, i2, i3⟩ := nm_ok G e2
            obtain ⟨l1, l2⟩ := G.st x hl
            refine ⟨nm_cons G.nd (nat_of G e1) (by rw [G.sc]; exact l1) l2 i1 (by rw [asg_cons rfl]; rfl), by rw [asg_cons rfl]; simp [i2], ?_⟩
            rw [asg_cons rfl, List.findIdx?_cons]
            simp [i3]
          · cases h
        · cases h
      · cases h
    | _ => cases h
theorem lc_of (G : Gd X C Γ) {x : Str} (h : isLc Γ.sc x = true) : X.env.scope.names.lookup x = some .local := by
  rw [G.sc]; exact isLc_ok h
theorem put_ok (ro : RecOk r) (G : Gd X C Γ) {x : Str} {i : Nat} {e : Expr} {n : Bool} {f : Ex} {py pos : Pos} (hi : ixOf Γ.N x = some i) (hl : isLoc Γ.raw x = true) (hc : noComp e = true) (h : PE X e (TX C (if n = true then .nw else .va) f)) (hw : n = true ∨ swappedStores [.Name x py] e X.env = pure none) :
    PS X (.Assign [.Name x py] e pos) (TS' C (sPut n i f)) := by
  obtain ⟨l1, l2⟩ := G.st x hl
  have l1' : L2.Loc X.env.scope x := by rw [G.sc]; exact l1
  cases n with
  | true => exact st_new G.nd (nat_of G hi) l1' h (swaps_plain hc) l2
  | false =>
    rcases hw with hw | hw
    · cases hw
    · exact st_set h (g_name (vs := [i]) G.nd (nat_of G hi) l1' l2 (by simp)) (sws_plain hc) hw rfl
theorem sw_name {env : Env} {x : Str} {p : Pos} {e : Expr} : swappedStores [.Name x p] e env = pure none := by
  unfold swappedStores
  cases e <;> rfl
theorem nd2 {i j : Nat} (h : [i, j].Nodup) : i ≠ j := by simpa using h
theorem nd3 {i j k : Nat} (h : [i, j, k].Nodup) : i ≠ j ∧ i ≠ k ∧ j ≠ k := by
  simp at h
  exact ⟨h.1.1, h.1.2, h.2⟩
theorem nm2 {x y : Str} {p q : Pos} {is : List Nat} (h : nmOf Γ [.Name x p, .Name y q] = some is) : ∃ i j, is = [i, j] ∧ ixOf Γ.N x = some i ∧ ixOf Γ.N y = some j := by
  unfold nmOf at h
  split at h
  · rename_i i e1
    split at h
    · split at h
      · rename_i is' e2
        cases h
        unfold nmOf at e2
        split at e2
        · rename_i j e3
          split at e2
          · cases e2
            exact ⟨i, j, rfl, e1, e3⟩
          · cases e2
        · cases e2
      · cases h
    · cases h
  · cases h
theorem nm3 {x y z : Str} {p q w : Pos} {is : List Nat} (h : nmOf Γ [.Name x p, .Name y q, .Name z w] = some is) : ∃ i j k, is = [i, j, k] ∧ ixOf Γ.N x = some i ∧ ixOf Γ.N y = some j ∧ ixOf Γ.N z = some k := by
  unfold nmOf at h
  split at h
  · rename_i i e1
    split at h
    · split at h
      · rename_i is' e2
        cases h
        obtain ⟨j, k, rfl, h1, h2⟩ := nm2 e2
        exact ⟨i, j, k, rfl, e1, h1, h2⟩
      · cases h
    · cases h
  · cases h
theorem cAsgN_ok (ro : RecOk r) (G : Gd X C Γ) {x : Str} {py : Pos} {e : Expr} {f : Sx} {pos : Pos} (h : cAsgN r Γ x py e = some f) : PS X (.Assign [.Name x py] e pos) (TS' C f) := by
  unfold cAsgN at h
  split at h
  · cases h
  · rename_i i e1
    split at h
    · rename_i hl
      split at h
      · rename_i v e2
        split at h
        · rename_i f1 l e3
          cases h
          rw [asLc_ok e2]
          obtain ⟨it, g, t, e', rfl, h1, h2, h3, h4, h5, h6⟩ := cC_ok (pos := v.pos) ro G e3
          refine st_frz l ?_
          cases hw : swLc Γ.sc v.scope x py v.pos with
          | true =>
            unfold swLc at hw
            rw [Bool.and_eq_true, Bool.and_eq_true] at hw
            have hlc := lc_of G hw.1.1
            exact st_newLc G.calm G.nd (nat_of G e1) hlc (sw_true (kd_of G) hlc hw.1.2 (by simpa using hw.2)) h1 h2 h3 h4 h5 h6
          | false =>
            obtain ⟨l1, l2⟩ := G.st x hl
            exact st_new G.nd (nat_of G e1) (by rw [G.sc]; exact l1) (x_comp G.calm G.nd h1 h2 h3 h4 h5 h6) (swLc_no (kd_of G) (by rw [G.sc]; exact hw)) l2
        · cases h
      · split at h
        · rename_i hc
          split at h
          · rename_i n f1 l e3
            cases h
            exact st_frz l (put_ok ro G e1 hl hc (cN_ok ro G e3) (.inr sw_name))
          · cases h
        · cases h
    · cases h
theorem asName_map {e : Expr} {x : Str} {i : Nat} {ts : List Expr} (h : asName e = (asName e).map (fun p => (x, p.2))) (hn : ∃ y p, e = .Name y p) : ∃ p, e = .Name x p := by
  obtain ⟨y, p, rfl⟩ := hn
  have h' : some (y, p) = some (x, p) := h
  cases h'
  exact ⟨p, rfl⟩
theorem nm_name {t : Expr} {ts : List Expr} {is : List Nat} (h : nmOf Γ (t :: ts) = some is) : (∃ y p, t = .Name y p) ∧ ∃ is', nmOf Γ ts = some is' := by
  cases t with
  | Name x p =>
    refine ⟨⟨x, p, rfl⟩, ?_⟩
    unfold nmOf at h
    split at h
    · split at h
      · split at h
        · rename_i is' e2
          exact ⟨is', e2⟩
        · cases h
      · cases h
    · cases h
  | _ => cases h
theorem cPar_ok (ro : RecOk r) (G : Gd X C Γ) {names : List Str} {is : List Nat} {fs : List Nx} {l : List Nat} {ts es : List Expr} {f : Sx} {k k2 : Nat} {p p2 pos : Pos} (h : cPar r Γ names is fs l ts es = some f) (hn : nmOf Γ ts = some is) (ha : PA X es (TN C fs)) (hfs : fs.length = es.length)
    (hw : swappedStores [.Tuple ts k p] (.Tuple es k2 p2) X.env = pure (some names)) : PS X (.Assign [.Tuple ts k p] (.Tuple es k2 p2) pos) (TS' C f) := by
  unfold cPar at h
  split at h
  · rename_i x y
    split at h
    · rename_i a b e1 e2
      split at h
      · rename_i hc
        obtain ⟨c1, c2, c3, c4, c5⟩ := hc
        cases h
        obtain ⟨q1, is1, q2⟩ := nm_name hn
        obtain ⟨q3, _⟩ := nm_name q2
        obtain ⟨pa, rfl⟩ := asName_map (i := 0) (ts := []) c1 q1
        obtain ⟨pb, rfl⟩ := asName_map (i := 0) (ts := []) c2 q3
        obtain ⟨i, j, rfl, n1, n2⟩ := nm2 hn
        exact st_frz l (st_par2 G.calm G.nd (nat_of G n1) (nat_of G n2) (nd2 c3) (lc_of G c4) (lc_of G c5) ha hfs hw)
      · cases h
    · cases h
  · rename_i x y z
    split at h
    · rename_i a b c e1 e2 e3
      split at h
      · rename_i hc
        obtain ⟨c1, c2, c3, c4, c5, c6, c7⟩ := hc
        cases h
        obtain ⟨q1, is1, q2⟩ := nm_name hn
        obtain ⟨q3, is2, q4⟩ := nm_name q2
        obtain ⟨q5, _⟩ := nm_name q4
        obtain ⟨pa, rfl⟩ := asName_map (i := 0) (ts := []) c1 q1
        obtain ⟨pb, rfl⟩ := asName_map (i := 0) (ts := []) c2 q3
        obtain ⟨pc, rfl⟩ := asName_map (i := 0) (ts := []) c3 q5
        obtain ⟨i, j, m, rfl, n1, n2, n3⟩ := nm3 hn
        obtain ⟨d1, d2, d3⟩ := nd3 c4
        exact st_frz l (st_par3 G.calm G.nd (nat_of G n1) (nat_of G n2) (nat_of G n3) d1 d2 d3 (lc_of G c5) (lc_of G c6) (lc_of G c7) ha hfs hw)
      · cases h
    · cases h
  · cases h
theorem cAsgT_ok (ro : RecOk r) (G : Gd X C Γ) {ts : List Expr} {k : Nat} {p : Pos} {e : Expr} {f : Sx} {pos : Pos} (h : cAsgT r Γ ts k p e = some f) : PS X (.Assign [.Tuple ts k p] e pos) (TS' C f) := by
  unfold cAsgT at h
  split at h
  · rename_i he
    split at h
    · rename_i hc
      split at h
      · rename_i g f1 l e3 e4
        cases h
        exact st_frz l (st_set (ro.e _ _ _ _ _ _ _ G e4) (cG_ok G e3) (sws_plain hc) (sw_none (asTup_no he)) rfl)
      · cases h
    · cases h
  · rename_i es k2 p2 he
    rw [asTup_ok he]
    have swk : ∀ {r}, swOf Γ.sc ts es = some r → swappedStores [.Tuple ts k p] (.Tuple es k2 p2) X.env = pure r := fun q => swOf_ok (kd_of G) (by rw [G.sc]; exact q)
    split at h
    · cases h
    · rename_i names e1
      split at h
      · rename_i is fs l e2 e3
        obtain ⟨ha, hfs⟩ := cNs_ok ro G e3
        exact cPar_ok ro G h e2 ha hfs (swk e1)
      · cases h
    · rename_i e1
      split at h
      · rename_i is fs l e2 e3
        obtain ⟨ha, hfs⟩ := cNs_ok ro G e3
        split at h
        · rename_i hc
          cases h
          obtain ⟨i1, i2, i3⟩ := nm_ok G e2
          exact st_frz l (st_pars G.hK G.calm ha i1 i2 i3 hc.1 (by rw [sizeLine_eq]; omega) (sws_plain rfl) (swk e1) rfl)
        · cases h
      · split at h
        · rename_i g f1 l e3 e4
          cases h
          exact st_frz l (st_set (ro.e _ _ _ _ _ _ _ G e4) (cG_ok G e3) (sws_plain rfl) (swk e1) rfl)
        · cases h
theorem app_few {cp : Pos} {a : Expr} {env : Env} (h : noStar a = true) : ((backTo cp (starEach [a] env)).all (fun x => !x.1) && (backToKw cp (keywordEach [] env)).all (fun x => x.1.isSome) && decide ([a].length + ([] : List Keyword).length + (if ([] : List Keyword).isEmpty then 0 else 1) < 30)) = true := by
  rw [star_cons h]
  rfl
theorem cPop_ok (ro : RecOk r) (G : Gd X C Γ) {y : Str} {py pos : Pos} {e : Expr} {v : PpV} {f : Sx} (he : asPop e = some v) (h : cPop r Γ y v = some f) : PS X (.Assign [.Name y py] e pos) (TS' C f) := by
  unfold cPop at h
  split at h
  · rename_i i j e1 e2
    split at h
    · rename_i hc
      obtain ⟨c1, c2, c3, c4, c5⟩ := hc
      obtain ⟨l1, l2⟩ := G.st y c3
      have l1' : L2.Loc X.env.scope y := by rw [G.sc]; exact l1
      unfold asPop at he
      split at he
      · rename_i x p1 attr ap cp
        split at he
        · rename_i hp
          cases he
          have ea : attr = ("pop" : Str) := by simpa using hp
          subst ea
          cases h
          exact st_pop G.nd (nat_of G e1) (vis_of G c1) (okN_1 c2) (okN_2 c2) (nat_of G e2) l1' l2 c4 c5
        · cases he
      · rename_i x p1 attr ap a cp
        split at he
        · rename_i hp
          cases he
          have ea : attr = ("pop" : Str) := by simpa using hp
          subst ea
          have h : (if noStar a = true then match r.1 Γ .va a with | some (f, l) => some (sFrz l (sPopAt j i f)) | none => none else none) = some f := h
          split at h
          · rename_i hs
            split at h
            · rename_i f1 l e3
              cases h
              exact st_frz l (st_popAt (m := .va) G.nd (nat_of G e1) (vis_of G c1) (okN_1 c2) (okN_2 c2) (nat_of G e2) l1' l2 (ro.e _ _ _ _ _ _ _ G e3) (app_few hs) (star_cons hs) rfl c5)
            · cases h
          · cases h
        · cases he
      · cases he
    · cases h
  · cases h
theorem cAsg_ok (ro : RecOk r) (G : Gd X C Γ) {tg e : Expr} {f : Sx} {pos : Pos} (h : cAsg r Γ tg e = some f) : PS X (.Assign [tg] e pos) (TS' C f) := by
  unfold cAsg at h
  split at h
  · rename_i x py e1
    rw [asName_ok e1]
    split at h
    · rename_i v e2
      exact cPop_ok ro G e2 h
    · exact cAsgN_ok ro G h
  · split at h
    · rename_i ts k p e1
      rw [asTup_ok e1]
      exact cAsgT_ok ro G h
    · cases h
theorem aug_ok {op : Operator} {fo : PyData → PyData → Option PyData} (h : augOf op = some fo) : OpR X (inplaceOp op) (RD2 C .va fo) := by
  unfold augOf at h
  split at h <;> cases h
  · exact o_iadd
  · exact o_isub
theorem cApp_ok (ro : RecOk r) (G : Gd X C Γ) {x attr : Str} {p1 ap cp pos : Pos} {a : Expr} {f : Sx} (h : cApp r Γ x attr ap cp a = some f) : PS X (.Expr (.Call (.Attribute (.Name x p1) attr ap) [a] [] cp) pos) (TS' C f) := by
  unfold cApp at h
  split at h
  · rename_i i e1
    split at h
    · rename_i hc
      obtain ⟨c1, c2, c3, c4, c5⟩ := hc
      split at h
      · rename_i f1 l e2
        cases h
        have e' : attr = "append" := by simpa using c1
        subst e'
        exact st_frz l (st_app G.hK (nat_of G e1) (vis_of G c2) (okN_1 c3) (okN_2 c3) (ro.e _ _ _ _ _ _ _ G e2) rfl (app_few c4) c5 (star_cons c4) rfl rfl)
      · cases h
    · cases h
  · cases h
theorem cExt_ok (ro : RecOk r) (G : Gd X C Γ) {x attr : Str} {p1 ap cp pos : Pos} {a : Expr} {f : Sx} (h : cExt r Γ x attr ap cp a = some f) : PS X (.Expr (.Call (.Attribute (.Name x p1) attr ap) [a] [] cp) pos) (TS' C f) := by
  unfold cExt at h
  split at h
  · rename_i i e1
    split at h
    · rename_i hc
      obtain ⟨c1, c2, c3, c4, c5⟩ := hc
      split at h
      · rename_i f1 l e2
        cases h
        have e' : attr = "extend" := by simpa using c1
        subst e'
        exact st_frz l (st_ext G.hK (nat_of G e1) (vis_of G c2) (okN_1 c3) (okN_2 c3) (ro.e _ _ _ _ _ _ _ G e2) rfl (app_few c4) c5 (star_cons c4) rfl rfl)
      · cases h
    · cases h
  · cases h
theorem cSs_ok {c : Stmt → Option Sx} (hc : ∀ st f, c st = some f → PS X st (TS' C f)) : ∀ {sts : List Stmt} {f : Sx}, cSs c sts = some f → PSs X sts (TS' C f)
  | [], f, h => by cases h; exact ss_nil
  | st :: sts, f, h => by
    unfold cSs at h
    split at h
    · rename_i f1 e1
      split at h
      · rename_i g e2
        cases h
        exact ss_cons (hc _ _ e1) (cSs_ok hc e2)
      · cases h
    · cases h
theorem own_ok (G : Gd X C Γ) : PassesOwn (model X.prog X.w) X.A X.env X.xe := by
  rw [G.xe]
  exact PassesOwn.never
theorem cExp_ok (ro : RecOk r) (G : Gd X C Γ) {e : Expr} {f : Sx} {pos : Pos} (h : cExp r Γ e = some f) : PS X (.Expr e pos) (TS' C f) := by
  unfold cExp at h
  split at h
  · rename_i hd
    cases h
    unfold isDoc at hd
    split at hd
    · exact st_doc
    · cases hd
  · split at h
    · rename_i v e1
      rw [asApp_ok e1]
      split at h
      · exact cApp_ok ro G h
      · split at h
        · exact cExt_ok ro G h
        · cases h
    · split at h
      · rename_i hc
        split at h
        · rename_i f1 l e1
          cases h
          exact st_frz l (st_drop (ro.e _ _ _ _ _ _ _ G e1) (swaps_plain hc))
        · cases h
      · cases h
theorem cAug_ok (ro : RecOk r) (G : Gd X C Γ) {tg e : Expr} {op : Operator} {f : Sx} {pos : Pos} (h : cAug r Γ tg op e = some f) : PS X (.AugAssign tg op e pos) (TS' C f) := by
  unfold cAug at h
  split at h
  · rename_i x p e0
    rw [asName_ok e0]
    split at h
    · rename_i i fo e1 e2
      split at h
      · rename_i hl
        split at h
        · rename_i f1 l e3
          cases h
          obtain ⟨l1, l2⟩ := G.st _ hl
          exact st_frz l (st_aug G.nd (nat_of G e1) (by rw [G.sc]; exact l1) l2 (ro.e _ _ _ _ _ _ _ G e3) (aug_ok e2))
        · cases h
      · cases h
    · cases h
  · cases h
theorem cS1_ok (ro : RecOk r) (G : Gd X C Γ) {c : Stmt → Option Sx} (ih : ∀ st f, c st = some f → PS X st (TS' C f)) {st : Stmt} {f : Sx} (h : cS1 c r Γ st = some f) : PS X st (TS' C f) := by
    cases st with
    | Expr e p => exact cExp_ok ro G h
    | Return o p =>
      cases o with
      | none => cases h; exact st_retN
      | some e =>
        have h : (match r.1 Γ .va e with | some (f, l) => some (sFrz l (sRet f)) | none => none) = some f := h
        split at h
        · rename_i f1 l e1
          cases h
          exact st_frz l (st_ret (ro.e _ _ _ _ _ _ _ G e1))
        · cases h
    | Assign ts e p =>
      have h : (match one ts with | some tg => cAsg r Γ tg e | none => none) = some f := h
      split at h
      · rename_i tg e1
        rw [one_ok e1]
        exact cAsg_ok ro G h
      · cases h
    | AugAssign tg op e p => exact cAug_ok ro G h
    | If q a b p =>
      have h : (match r.2 Γ q, cSs c a, cSs c b with | some (t, l), some f, some g => some (sFrz l (sIf t f g)) | _, _, _ => none) = some f := h
      split at h
      · rename_i t l f1 g1 e1 e2 e3
        cases h
        exact st_frz l (st_if (ro.t _ _ _ _ _ _ G e1) (cSs_ok ih e2) (cSs_ok ih e3))
      · cases h
    | For tg iter body els p =>
      have h : (if els.isEmpty = true then match cI r Γ (isTupE tg) iter, cG Γ (List.range Γ.N.length) 4 tg, cSs c body with | some (it, l), some g, some f => some (sFrz l (sFor it g f)) | _, _, _ => none else none) = some f := h
      split at h
      · rename_i he
        split at h
        · rename_i it l g f1 e1 e2 e3
          cases h
          obtain ⟨i1, i2⟩ := cI_ok (tg := tg) ro G e1
          have : els = [] := List.isEmpty_iff.mp he
          subst this
          exact st_frz l (st_for (own_ok G) G.calm i1 (cG_ok G e2) (cSs_ok ih e3) i2)
        · cases h
      · cases h
    | While q body els p =>
      have h : (if els.isEmpty = true then match r.2 Γ q, cSs c body with | some (t, l), some f => some (whL l t f Γ.fuel) | _, _ => none else none) = some f := h
      split at h
      · rename_i he
        split at h
        · rename_i t l f1 e1 e2
          cases h
          have : els = [] := List.isEmpty_iff.mp he
          subst this
          exact st_while l Γ.fuel (own_ok G) (ro.t _ _ _ _ _ _ G e1) (cSs_ok ih e2)
        · cases h
      · cases h
    | Pass p => cases h; exact st_pass
    | Break p => cases h; exact st_break
    | Continue p => cases h; exact st_cont
    | Raise a b p => cases h; exact st_stuck
    | _ => cases h
theorem kill_ok {st : Stmt} {f : Sx} (h : PS X st (TS' C f)) : PS X st (TS' C (killOf Γ st f)) := by
  unfold killOf
  split
  · exact st_after _ h
  · exact h
theorem cS_ok (ro : RecOk r) (G : Gd X C Γ) : ∀ {n : Nat} {st : Stmt} {f : Sx}, cS r Γ n st = some f → PS X st (TS' C f)
  | 0, st, f, h => by cases h
  | n + 1, st, f, h => by
    unfold cS at h
    split at h
    · rename_i f1 e1
      cases h
      exact kill_ok (cS1_ok ro G (fun st f q => cS_ok ro G q) e1)
    · cases h
end
end Dv
set_option Elab.async false
set_option linter.all false
set_option maxRecDepth 100000
set_option maxHeartbeats 2000000
/-! Part 13: a def from its text; the source of draws. -/
namespace Dv
open PySem PySem.Spec PyProof.Rows L2

def slOf : Ar → Sl
  | .d x => .d x
  | .src => .src
def st0 (N : List Str) (as : List Ar) : Rho := as.map slOf ++ List.replicate (N.length - as.length) .no
/-- what a body is worth -/
def wth (N : List Str) (g : Sx) : Ctr := fun as W => match g (st0 N as) W with
  | some (.rt d W') => some (d, W')
  | some (.nx _ W') => some (.none, W')
  | _ => none
def den (Γ : Gm) (st : Stmt) : Option Sx := cSs (cS (recs 40) Γ 40) (defBody st)
theorem ars_len {K : PySem.W.Frag} {Z : Zn} {F : Hp} {vs : List V} {as : List Ar} (h : ArsOk K Z F vs as) : vs.length = as.length := by
  induction h with
  | nil => rfl
  | cons _ _ ih => simp [ih]
theorem ars_get {K : PySem.W.Frag} {Z : Zn} {F : Hp} {vs : List V} {as : List Ar} (h : ArsOk K Z F vs as) : ∀ (i : Nat) (a : Ar), as[i]? = some a → ∃ v, vs[i]? = some v ∧ ArOk K Z F v a := by
  induction h with
  | nil => intro i a e; simp at e
  | cons a r ih =>
    intro i x e
    cases i with
    | zero => simp at e; subst e; exact ⟨_, rfl, a⟩
    | succ i => obtain ⟨v, h1, h2⟩ := ih i x (by simpa using e); exact ⟨v, by simpa using h1, h2⟩
theorem rel_start {C : Ct} {N : List Str} {vs : List V} {as : List Ar} {W : Src} (h1 : Same C.F0 C.H0) (h2 : SrcAt C.Z W C.H0) (h3 : ∀ a, Zm C.Z a → C.F0 a = none) (h4 : ArsOk C.K C.Z C.F0 vs as) : Rel C (st0 N as) W C.F0 C.F0 (L2.start N vs) C.H0 where
  fg := Same.refl _
  gh := h1
  src := h2
  gz := h3
  b1 := Same.refl _
  b2 := fun _ _ h _ => h
  b3 := fun _ _ _ h => h
  len := by
    have := ars_len h4
    unfold st0 L2.start
    rw [List.length_append, List.length_append, List.length_map, List.length_map, List.length_replicate, List.length_replicate, this]
  sl := fun i s e => by
    have hl := ars_len h4
    unfold st0 at e
    unfold L2.start
    by_cases hi : i < as.length
    · rw [List.getElem?_append_left (by simpa using hi), List.getElem?_map] at e
      cases ha : as[i]? with
      | none => rw [ha] at e; cases e
      | some a =>
        rw [ha] at e
        cases e
        obtain ⟨v, g1, g2⟩ := ars_get h4 i a ha
        refine ⟨some v, ?_, ?_⟩
        · rw [List.getElem?_append_left (by rw [List.length_map, hl]; exact hi), List.getElem?_map, g1]
          rfl
        · cases a with
          | d x => exact .d g2
          | src => obtain ⟨p, q1, rfl⟩ := g2; exact .src q1
    · rw [List.getElem?_append_right (by simpa using hi), List.getElem?_replicate] at e
      split at e
      · rename_i hlt
        cases e
        rw [List.length_map] at hlt
        refine ⟨none, ?_, .no⟩
        rw [List.getElem?_append_right (by rw [List.length_map, hl]; omega), List.getElem?_replicate, List.length_map, hl, if_pos hlt]
      · cases e
  ap := fun i j a xs ys e1 _ _ _ => by
    exfalso
    unfold st0 at e1
    by_cases hi : i < as.length
    · rw [List.getElem?_append_left (by simpa using hi), List.getElem?_map] at e1
      cases ha : as[i]? with
      | none => rw [ha] at e1; cases e1
      | some b => rw [ha] at e1; cases b <;> cases e1
    · rw [List.getElem?_append_right (by simpa using hi), List.getElem?_replicate] at e1
      split at e1 <;> cases e1
section
variable {P : Program} {w : World} {K : PySem.W.Frag} {mg : Str → Option Value} {base : Heap} {k : Nat} {f : Addr} {fd : FuncData} {ps : List Str}
/-- a def does what its text reads -/
theorem fg_def {x qual : Str} {st : Stmt} (Γ : Gm) (φ : Ctr) (F : Fun K x qual st f fd) (S : FnScope Γ.N ps (defScope st)) (hsc : Γ.sc = defScope st) (hraw : Γ.raw = defScope st)
    (tb : ∀ X : Cx, X.prog = P → X.w = w → X.K = K → X.mg = mg → X.base = base → Room k X.A → Tb X Γ)
    (hφ : ∀ as W p, φ as W = some p → as.length = ps.length ∧ ∃ n g, den { Γ with fuel := n } st = some g ∧ wth Γ.N g as W = some p) :
    FG P w K mg base CX0 (k + 1) f fd ps (spC K φ ps.length) := by
  refine FG.of F S (fun vs H Q E h => h.1) fun cdv A out s H vs Q E hr hg h => ?_
  obtain ⟨hl, Z, F0, as, W, r, W', f1, f2, f3, f4, f5, q⟩ := h
  obtain ⟨_, n, g, hden, hw⟩ := hφ _ _ _ f5
  let C : Ct := ⟨K, Z, F0, H⟩
  let X : Cx := (cxOf CX0 P w K mg base Γ.N qual (defScope st) f cdv A out s H E).nox
  have hrX : Room k X.A := hr
  have G : Gd X C { Γ with fuel := n } := by
    refine ⟨rfl, rfl, hg, S.nd, rfl, hsc.symm, fun y hy => ?_, rfl, ?_, hr.hd, by show Γ.sc.kind = _; rw [hsc]; exact S.kind, ?_⟩
    · have hy' : isLoc Γ.raw y = true := hy
      refine ⟨?_, .inl rfl⟩
      show L2.Loc Γ.sc y
      rw [hsc, ← hraw]
      exact isLoc_ok hy'
    · have hu : X.A.units + 16 * k + 200 < cLine := hr.un
      show X.A.units + 70 < cLine
      omega
    · have t := tb X rfl rfl rfl rfl rfl hrX
      exact ⟨t.fn, t.ct, t.bl, t.md⟩
  have hb : PSs X (defBody st) (TS' C g) := cSs_ok (fun s f q => cS_ok (recs_ok 40) G q) hden
  refine ⟨TS' C g, hb.nox, ?_⟩
  have R0 : Rel C (st0 Γ.N as) W F0 F0 (L2.start Γ.N vs) H := rel_start (C := C) f1 f2 f3 f4
  unfold wth at hw
  have fin : ∀ {v ρ F G σ H'}, Same F0 F → Rel C ρ W' F G σ H' → Dq K F v r → Q v H' := fun {v ρ F G σ H'} s1 R d => q v F H' s1 R.fh R.src (fun a o h n => R.b2 a o h n) (fun a o h n => R.b3 a o h n) d
  split at hw
  · rename_i d W1 e
    cases hw
    exact ⟨_, W, F0, F0, _, R0, e, fun v ρ F G σ H' s1 R d => fin s1 R d⟩
  · rename_i ρ1 W1 e
    cases hw
    exact ⟨_, W, F0, F0, _, R0, e, fun F G σ H' s1 R => fin s1 R .non⟩
  · cases hw
end

/-! ### the source -/
def pickL (many : Int) : List Int → Int → List Int × Int
  | cs, left => if 1 < many ∧ left < 2 then match h : cs.getLast? with
    | some c => pickL many cs.dropLast c
    | none => (cs, left) else (cs, left)
  termination_by cs => cs.length
  decreasing_by
    simp only [List.length_dropLast]
    have : cs ≠ [] := fun e => by rw [e] at h; cases h
    have := List.length_pos_iff.mpr this
    omega
def mix1 (W : Src) : Int := (W.mixed + (W.turn + 1) * 104729) % 998244353
def mix2 (W : Src) : Int := (mix1 W * mix1 W + (W.turn + 1) * 17) % 2147483647
def pickF (many : Int) (W : Src) : Int × Src :=
  let p := pickL many W.cells W.left
  if many < 2 ∨ 1 < p.2 then (p.2 % (if many > 1 then many else 1), ⟨p.1, p.2 / (if many > 1 then many else 1), W.mixed, W.turn⟩)
  else (mix2 W / 16 % many, ⟨p.1, p.2, mix2 W, W.turn + 1⟩)
theorem pickF_low (many : Int) (W : Src) : 0 ≤ (pickF many W).1 := by
  unfold pickF
  simp only
  split
  · exact Int.emod_nonneg _ (by split <;> omega)
  · rename_i h
    exact Int.emod_nonneg _ (by omega)
theorem pickF_lt {many : Int} (W : Src) (h : 1 ≤ many) : (pickF many W).1 < many := by
  unfold pickF
  simp only
  split
  · have := Int.emod_lt_of_pos ((pickL many W.cells W.left).2) (b := if many > 1 then many else 1) (by split <;> omega)
    show _ % _ < many
    split at this <;> (split <;> omega)
  · rename_i h
    exact Int.emod_lt_of_pos _ (by omega)
def pickOk : Int → Bool
  | .ofNat n => Nat.ble n 999999999
  | .negSucc _ => true
theorem pickOk_lt {i : Int} : pickOk i = true ↔ i < 1000000000 := by
  cases i with
  | ofNat n =>
    show Nat.ble n 999999999 = true ↔ _
    rw [Nat.ble_eq]
    show n ≤ 999999999 ↔ ((n : Int) < 1000000000)
    omega
  | negSucc n =>
    have h : Int.negSucc n < 1000000000 := by omega
    exact ⟨fun _ => h, fun _ => rfl⟩
def cPick : Ctr := fun as W => match as with
  | [.src, .d (.int many)] => if pickOk many = true then some (.int (pickF many W).1, (pickF many W).2) else none
  | _ => none
/-- what _law_source gives -/
def spSrc (K : PySem.W.Frag) : Sp := fun vs H Q _ => ∃ (a : Addr) (ns : List Int), vs = [.ref a] ∧ SqL K H a (ns.map V.int) ∧ ns.length ≤ 63 ∧ ∀ (H' : Hp) (p q : Addr) (W : Src), Same H H' → H p = none → H q = none → SrcAt (some (p, q)) W H' → Q (.ref p) H'
theorem valV_key {kvs : List (Key × V)} {k : Key} {v : V} (h : valV kvs k = some v) : valV kvs k = some v := h
end Dv
set_option Elab.async false
set_option linter.all false
set_option maxRecDepth 100000
set_option maxHeartbeats 2000000
/-! Part 14: defs of a text, one behind another. -/
namespace Dv
open PySem PySem.Spec PyProof.Rows L2

/-- a def by its body's worth -/
def wf (n : Nat) (N : List Str) (g : Sx) : Ctr := fun as W => if as.length = n then wth N g as W else none
def wfn (n m : Nat) (g : Sx) : Ctr := fun as W => if as.length = n then match g (as.map slOf ++ List.replicate (m - as.length) .no) W with
  | some (.rt d W') => some (d, W')
  | some (.nx _ W') => some (.none, W')
  | _ => none else none
theorem wf_wfn (n : Nat) (N : List Str) (g : Sx) : wf n N g = wfn n N.length g := rfl
/-- the def named x is worth φ -/
structure Wk (P : Program) (w : World) (K : PySem.W.Frag) (mg : Str → Option Value) (base : Heap) (x : Str) (n : Nat) (φ : Ctr) (k : Nat) : Prop where
  ex : ∃ f fd ps, FG P w K mg base CX0 k f fd ps (spC K φ n) ∧ mg x = some (.ref f) ∧ PySem.W.keepIn K (.ref f) = true ∧ Binds K fd ps []
structure DI (K : PySem.W.Frag) (mg : Str → Option Value) (x : Str) (st : Stmt) (ps : List Str) : Prop where
  ex : ∃ f fd, Fun K x x st f fd ∧ mg x = some (.ref f) ∧ Binds K fd ps []
def BL (mg : Str → Option Value) : Prop := ∀ x ∈ bnames, mg x = none
def CtOk (K : PySem.W.Frag) (mg : Str → Option Value) (x : Str) (d : PyData) : Prop := ∃ v u, mg x = some u ∧ RelV v u ∧ ∀ F, Dq K F v d
theorem ct_int {K : PySem.W.Frag} {mg : Str → Option Value} {x : Str} {i : Int} {t : Tok} (h : mg x = some (.int i t)) : CtOk K mg x (.int i) := ⟨.int i, _, h, ⟨t, rfl⟩, fun F => .int i⟩
theorem lookup_mem {α : Type} : ∀ {l : List (Str × α)} {x : Str} {a : α}, l.lookup x = some a → (x, a) ∈ l
  | (k, v) :: r, x, a, h => by
    rw [List.lookup_cons] at h
    cases hb : x == k with
    | true =>
      rw [hb] at h
      cases h
      have : x = k := by simpa using hb
      rw [this]
      exact List.mem_cons_self
    | false =>
      rw [hb] at h
      exact List.mem_cons_of_mem _ (lookup_mem h)
section
variable {P : Program} {w : World} {K : PySem.W.Frag} {mg : Str → Option Value} {base : Heap} {k : Nat}
theorem Wk.mono {x : Str} {n : Nat} {φ : Ctr} {j : Nat} (h : Wk P w K mg base x n φ j) (hj : j ≤ k) : Wk P w K mg base x n φ k := by
  obtain ⟨f, fd, ps, a, b⟩ := h.ex
  exact ⟨f, fd, ps, a.mono hj, b⟩
def AllWk (P : Program) (w : World) (K : PySem.W.Frag) (mg : Str → Option Value) (base : Heap) (k : Nat) (l : List (Str × Nat × Ctr)) : Prop := ∀ e ∈ l, Wk P w K mg base e.1 e.2.1 e.2.2 k
theorem aw_nil : AllWk P w K mg base k [] := fun _ h => by cases h
theorem aw_cons {x : Str} {n : Nat} {φ : Ctr} {j : Nat} {l : List (Str × Nat × Ctr)} (h : Wk P w K mg base x n φ j) (hj : j ≤ k) (r : AllWk P w K mg base k l) : AllWk P w K mg base k ((x, n, φ) :: l) := fun e he => by
  rcases List.mem_cons.mp he with z | z
  · rw [z]; exact h.mono hj
  · exact r e z
def AllCt (K : PySem.W.Frag) (mg : Str → Option Value) (l : List (Str × PyData)) : Prop := ∀ e ∈ l, CtOk K mg e.1 e.2
theorem ac_nil : AllCt K mg [] := fun _ h => by cases h
theorem ac_cons {x : Str} {d : PyData} {l : List (Str × PyData)} (h : CtOk K mg x d) (r : AllCt K mg l) : AllCt K mg ((x, d) :: l) := fun e he => by
  rcases List.mem_cons.mp he with z | z
  · rw [z]; exact h
  · exact r e z
def AllMd (mg : Str → Option Value) (l : List (Str × String)) : Prop := ∀ e ∈ l, mg e.1 = some (.builtin e.2)
theorem am_nil : AllMd mg [] := fun _ h => by cases h
theorem am_cons {x : Str} {d : String} {l : List (Str × String)} (h : mg x = some (.builtin d)) (r : AllMd mg l) : AllMd mg ((x, d) :: l) := fun e he => by
  rcases List.mem_cons.mp he with z | z
  · rw [z]; exact h
  · exact r e z
theorem tb_of {X : Cx} {Γ : Gm} (fs : AllWk X.prog X.w X.K X.mg X.base k Γ.fns) (hr : Room k X.A) (cs : AllCt X.K X.mg Γ.cts) (bl : BL X.mg) (ms : AllMd X.mg Γ.mods) : Tb X Γ where
  fn := fun x n φ h => by
    obtain ⟨f, fd, ps, a, b, c, d⟩ := (fs _ (lookup_mem h)).ex
    exact ⟨k, f, fd, ps, a, hr, b, c, d⟩
  ct := fun x d h => cs _ (lookup_mem h)
  bl := bl
  md := fun x id h => ms _ (lookup_mem h)
theorem wk_def {x : Str} {st : Stmt} {ps : List Str} (D : DI K mg x st ps) (Γ : Gm) (g : Sx) (S : FnScope Γ.N ps (defScope st)) (hsc : Γ.sc = defScope st) (hraw : Γ.raw = defScope st) (fs : AllWk P w K mg base k Γ.fns) (cs : AllCt K mg Γ.cts) (bl : BL mg) (ms : AllMd mg Γ.mods)
    (hd : den Γ st = some g) : Wk P w K mg base x ps.length (wf ps.length Γ.N g) (k + 1) := by
  obtain ⟨f, fd, F, h1, h2⟩ := D.ex
  refine ⟨f, fd, ps, fg_def Γ _ F S hsc hraw (fun X e1 e2 e3 e4 e5 hr => ?_) (fun as W p h => ?_), h1, F.kp, h2⟩
  · subst e1 e2 e3 e4 e5
    exact tb_of fs hr cs bl ms
  · unfold wf at h
    split at h
    · rename_i hl
      exact ⟨hl, Γ.fuel, g, hd, h⟩
    · cases h
/-- a def that stands under another name -/
theorem wk_as {x y : Str} {st : Stmt} {ps : List Str} {n m : Nat} {f : Addr} {fd : FuncData} (F : Fun K x x st f fd) (h1 : mg y = some (.ref f)) (h2 : Binds K fd ps []) (Γ : Gm) (g : Sx) (hn : ps.length = n) (hm : Γ.N.length = m) (S : FnScope Γ.N ps (defScope st)) (hsc : Γ.sc = defScope st) (hraw : Γ.raw = defScope st) (fs : AllWk P w K mg base k Γ.fns) (cs : AllCt K mg Γ.cts) (bl : BL mg) (ms : AllMd mg Γ.mods)
    (hd : den Γ st = some g) : Wk P w K mg base y n (wfn n m g) (k + 1) := by
  subst hn hm
  refine ⟨f, fd, ps, fg_def Γ _ F S hsc hraw (fun X e1 e2 e3 e4 e5 hr => ?_) (fun as W p h => ?_), h1, F.kp, h2⟩
  · subst e1 e2 e3 e4 e5
    exact tb_of fs hr cs bl ms
  · unfold wfn at h
    split at h
    · rename_i hl
      refine ⟨hl, Γ.fuel, g, hd, ?_⟩
      exact h
    · cases h
theorem wk_def' {x : Str} {st : Stmt} {ps : List Str} {n m : Nat} (D : DI K mg x st ps) (Γ : Gm) (g : Sx) (hn : ps.length = n) (hm : Γ.N.length = m) (S : FnScope Γ.N ps (defScope st)) (hsc : Γ.sc = defScope st) (hraw : Γ.raw = defScope st) (fs : AllWk P w K mg base k Γ.fns) (cs : AllCt K mg Γ.cts) (bl : BL mg) (ms : AllMd mg Γ.mods)
    (hd : den Γ st = some g) : Wk P w K mg base x n (wfn n m g) (k + 1) := by
  subst hn hm
  exact wk_def D Γ g S hsc hraw fs cs bl ms hd
/-- a draw -/
theorem wk_pick {x : Str} {f : Addr} {fd : FuncData} {ps : List Str} {spP : Sp} (F : FG P w K mg base CX0 k f fd ps spP) (h1 : mg x = some (.ref f)) (h2 : PySem.W.keepIn K (.ref f) = true) (h3 : Binds K fd ps []) (hp : ps.length = 2)
    (hs : ∀ (p q : Addr) (W : Src) (many : Int) (H : Hp) (Q : VK) (E : XK), SrcAt (some (p, q)) W H → many < 1000000000 → (∀ H', SrcAt (some (p, q)) (pickF many W).2 H' → (∀ a o, H a = some o → a ≠ p → a ≠ q → H' a = some o) → Q (.int (pickF many W).1) H') → spP [.ref p, .int many] H Q E) : Wk P w K mg base x 2 cPick k := by
  refine ⟨f, fd, ps, F.imp fun vs H Q E h => ?_, h1, h2, h3⟩
  obtain ⟨hl, Z, F0, as, W, r, W', f1, f2, f3, f4, f5, q⟩ := h
  unfold cPick at f5
  split at f5
  · rename_i many
    split at f5
    · rename_i hm
      cases f5
      cases f4 with
      | cons a1 r1 =>
        cases r1 with
        | cons a2 r2 =>
          cases r2
          obtain ⟨p, hZ, rfl⟩ := a1
          subst hZ
          cases a2
          refine hs p.1 p.2 W many H Q E f2 (pickOk_lt.mp hm) fun H' s1 k1 => ?_
          refine q _ F0 H' (Same.refl _) (fun b o hb => ?_) s1 (fun b o hb hz => ?_) (fun _ _ _ h => h) (.int _)
          · have hz : ¬ Zm (some p) b := fun z => by rw [f3 b z] at hb; cases hb
            exact k1 b o (f1 b o hb) (fun e => hz ⟨p, rfl, .inl e⟩) (fun e => hz ⟨p, rfl, .inr e⟩)
          · exact k1 b o hb (fun e => hz ⟨p, rfl, .inl e⟩) (fun e => hz ⟨p, rfl, .inr e⟩)
    · cases f5
  · cases f5
/-- source = _law_source(script) -/
theorem h1_mk {X : Cx} {K0 : PySem.W.Frag} (hK : X.K = K0) {j : Nat} {f : Addr} {fd : FuncData} {p1 p2 p3 p4 p5 : Pos} (F : FG X.prog X.w X.K X.mg X.base CX0 j f fd ["script"] (spSrc X.K)) (hr : Room j X.A) (hg : X.A.guards = some []) (nd : X.N.Nodup) (n0 : X.N[0]? = some ("script" : Str)) (n1 : X.N[1]? = some ("source" : Str))
    (l1 : L2.Loc X.env.scope "source") (v0 : Vis X.env.scope "script") (gl : Gl X "_law_source") (hm : X.mg "_law_source" = some (.ref f)) (hk : PySem.W.keepIn X.K (.ref f) = true) (hb : Binds X.K fd ["script"] []) (hf : X.fn "source" = true) :
    PS X (.Assign [.Name "source" p1] (.Call (.Name "_law_source" p2) [.Name "script" p3] [] p4) p5) (fun D σ H => spSrc K0 [(σ[0]?.getD none).getD .non] H (fun v H' => D.nx (σ.set 1 (some v)) H') E0) := by
  subst hK
  refine ps_weak (ps_set (i := 1) nd n1 l1 (pe_fg F hr hg gl hm hk hb pass0 (pa_cons (pe_var n0 v0) pa_nil) (by decide +kernel) rfl rfl) rfl (.inl hf)) fun D σ H h => ?_
  obtain ⟨a, ns, e, h2, h3, h4⟩ := h
  have e1 : (σ[0]?.getD none).getD V.non = .ref a := by
    injection e
  have e2 : σ[0]? = some (some (.ref a)) := by
    cases q : σ[0]? with
    | none => rw [q] at e1; cases e1
    | some o =>
      rw [q] at e1
      cases o with
      | none => cases e1
      | some v =>
        have : v = .ref a := e1
        rw [this]
  exact ⟨_, e2, a, ns, rfl, h2, h3, fun H1 p q W s np nq sa => h4 H1 p q W s np nq sa⟩
/-- the law: source = _law_source(script), then what its text reads -/
def spLaw (K : PySem.W.Frag) : Sp := fun vs H Q _ => ∃ (a : Addr) (ns : List Int), vs = [.ref a] ∧ SqL K H a (ns.map V.int) ∧ ns.length ≤ 63 ∧ ∀ H', Q (.bl true) H'
def restOf (st : Stmt) : List Stmt := (defBody st).drop 1
/-- the slots as the law stands behind its first statement -/
def stL (n : Nat) : Rho := .no :: .src :: List.replicate n .no
theorem fg_law {f : Addr} {fd : FuncData} {x : Str} {st : Stmt} {a1 : Stmt} {rest : List Stmt} {n : Nat} (F : Fun K x x st f fd) (Γ : Gm) (g : Sx) (hN : Γ.N.length = n + 2) (S : FnScope Γ.N ["script"] (defScope st)) (hsc : Γ.sc = defScope st) (hraw : Γ.raw = defScope st) (fs : AllWk P w K mg base k Γ.fns) (cs : AllCt K mg Γ.cts) (bl : BL mg) (ms : AllMd mg Γ.mods)
    (hb : defBody st = a1 :: rest)
    (h1 : ∀ X : Cx, X.prog = P → X.w = w → X.K = K → X.mg = mg → X.base = base → X.N = Γ.N → X.env.scope = defScope st → X.fn = (fun _ => true) → X.A.guards = some [] → Room k X.A → PS X a1 (fun D σ H => spSrc K [(σ[0]?.getD none).getD .non] H (fun v H' => D.nx (σ.set 1 (some v)) H') E0))
    (hd : cSs (cS (recs 40) Γ 40) rest = some g) (hg : ∀ W : Src, ∃ W', g (stL n) W = some (.rt (.bool true) W')) : FG P w K mg base CX0 (k + 1) f fd ["script"] (spLaw K) := by
  refine FG.of F S (fun vs H Q E h => ?_) fun cdv A out s H vs Q E hr hgd h => ?_
  · obtain ⟨a, ns, rfl, _⟩ := h
    rfl
  obtain ⟨a, ns, rfl, hS, hl, fin⟩ := h
  let X : Cx := (cxOf CX0 P w K mg base Γ.N x (defScope st) f cdv A out s H E).nox
  have hrX : Room k X.A := hr
  have p1 := h1 X rfl rfl rfl rfl rfl rfl rfl rfl hgd hrX
  -- the rest, whatever the source's place and the heaps at its start
  have p2 : PSs X rest (fun D σ H' => ∃ C : Ct, C.K = K ∧ TS' C g D σ H') := by
    refine ⟨fun pins s σ H' D I h => ?_⟩
    obtain ⟨C, hK, h⟩ := h
    have G : Gd X C Γ := by
      refine ⟨hK.symm, rfl, hgd, S.nd, rfl, hsc.symm, fun y hy => ⟨?_, .inl rfl⟩, rfl, ?_, hr.hd, by rw [hsc]; exact S.kind, tb_of fs hrX cs bl ms⟩
      · rw [hsc, ← hraw]; exact isLoc_ok hy
      · have hu : X.A.units + 16 * k + 200 < cLine := hr.un
        show X.A.units + 70 < cLine
        omega
    exact (cSs_ok (fun s f q => cS_ok (recs_ok 40) G q) hd).run pins s σ H' D I h
  refine ⟨_, PSs.nox (by rw [hb]; exact pss_cons p1 p2), ?_⟩
  have hst : L2.start Γ.N [V.ref a] = some (.ref a) :: List.replicate (n + 1) none := by
    unfold L2.start
    rw [hN]
    rfl
  rw [hst]
  refine ⟨a, ns, rfl, hS, hl, fun H' p q W s1 np nq sa => ?_⟩
  let C : Ct := ⟨K, some (p, q), fun _ => none, H'⟩
  refine ⟨C, rfl, ?_⟩
  have hset : ((some (V.ref a) :: List.replicate (n + 1) (none : Option V)).set 1 (some (V.ref p))) = some (.ref a) :: some (.ref p) :: List.replicate n none := by
    rw [List.replicate_succ]
    rfl
  rw [hset]
  obtain ⟨W', hW⟩ := hg W
  refine ⟨stL n, W, fun _ => none, fun _ => none, _, ?_, hW, fun v ρ F' G' σ' H2 _ R d => ?_⟩
  · refine ⟨Same.refl _, (fun b o h => by cases h), sa, fun _ _ => rfl, Same.refl _, fun _ _ h _ => h, fun _ _ _ _ => rfl, by simp [stL], fun i t e => ?_, fun i j b xs ys e1 _ _ _ => ?_⟩
    · unfold stL at e
      match i, e with
      | 0, e => cases e; exact ⟨_, rfl, .no⟩
      | 1, e => cases e; exact ⟨_, rfl, SlotOk.src (p := (p, q)) rfl⟩
      | i + 2, e =>
        have e : (List.replicate n Sl.no)[i]? = some t := e
        rw [List.getElem?_replicate] at e
        split at e
        · rename_i hi
          cases e
          exact ⟨none, by show (List.replicate n (none : Option V))[i]? = _; rw [List.getElem?_replicate, if_pos hi], .no⟩
        · cases e
    · exfalso
      unfold stL at e1
      match i, e1 with
      | 0, e => cases e
      | 1, e => cases e
      | i + 2, e =>
        have e : (List.replicate n Sl.no)[i]? = some (.own xs) := e
        rw [List.getElem?_replicate] at e
        split at e <;> cases e
  · cases d
    exact fin H2
end
end Dv
set_option Elab.async false
set_option linter.all false
set_option maxRecDepth 100000
set_option maxHeartbeats 1000000
/-! Part 20: a checker that the kernel runs: what it finds holds whatever is drawn. Values are passed on whole. -/
namespace Fe
open PySem PySem.Spec Dv
abbrev R := Option PyData
abbrev FE := Rho → (PyData → R) → R
abbrev FT := Rho → (Bool → R) → R
abbrev FL := Rho → (List PyData → R) → R
abbrev FP := Rho → (Option Int → R) → R
abbrev FA := Rho → (List Ar → R) → R
abbrev FC := List Ar → (PyData → R) → R
abbrev FG := PyData → Rho → (Rho → R) → R
abbrev FGs := List PyData → Rho → (Rho → R) → R
abbrev FS := Rho → (Rho → R) → (Rho → R) → (Rho → R) → (PyData → R) → R
structure OkE (f : Ex) (F : FE) : Prop where
  h : ∀ ρ K r, F ρ K = some r → ∀ W, ∃ d W', f ρ W = some (d, W') ∧ K d = some r
structure OkT (f : Tx) (F : FT) : Prop where
  h : ∀ ρ K r, F ρ K = some r → ∀ W, ∃ d W', f ρ W = some (d, W') ∧ K d = some r
structure OkL (f : Lx) (F : FL) : Prop where
  h : ∀ ρ K r, F ρ K = some r → ∀ W, ∃ d W', f ρ W = some (d, W') ∧ K d = some r
structure OkP (f : Px) (F : FP) : Prop where
  h : ∀ ρ K r, F ρ K = some r → ∀ W, ∃ d W', f ρ W = some (d, W') ∧ K d = some r
structure OkA (f : Ax) (F : FA) : Prop where
  h : ∀ ρ K r, F ρ K = some r → ∀ W, ∃ d W', f ρ W = some (d, W') ∧ K d = some r
structure OkC (φ : Ctr) (F : FC) : Prop where
  h : ∀ as K r, F as K = some r → ∀ W, ∃ d W', φ as W = some (d, W') ∧ K d = some r
structure OkG (g : Gx) (F : FG) : Prop where
  h : ∀ d ρ K r, F d ρ K = some r → ∃ ρ', g d ρ = some ρ' ∧ K ρ' = some r
structure OkGs (g : Gxs) (F : FGs) : Prop where
  h : ∀ d ρ K r, F d ρ K = some r → ∃ ρ', g d ρ = some ρ' ∧ K ρ' = some r
def EndOk (nx bk ct : Rho → R) (rt : PyData → R) (r : PyData) : Out → Prop
  | .nx ρ _ => nx ρ = some r
  | .bk ρ _ => bk ρ = some r
  | .ct ρ _ => ct ρ = some r
  | .rt d _ => rt d = some r
structure OkS (f : Sx) (F : FS) : Prop where
  h : ∀ ρ nx bk ct rt r, F ρ nx bk ct rt = some r → ∀ W, ∃ o, f ρ W = some o ∧ EndOk nx bk ct rt r o
structure Ok1 (op : PyData → Option PyData) (F : PyData → (PyData → R) → R) : Prop where
  h : ∀ x K r, F x K = some r → ∃ z, op x = some z ∧ K z = some r
structure Ok2 (op : PyData → PyData → Option PyData) (F : PyData → PyData → (PyData → R) → R) : Prop where
  h : ∀ x y K r, F x y K = some r → ∃ z, op x y = some z ∧ K z = some r
structure OkN (op : List PyData → Option PyData) (F : List PyData → (PyData → R) → R) : Prop where
  h : ∀ x K r, F x K = some r → ∃ z, op x = some z ∧ K z = some r

noncomputable section
/-! ### looking into data -/
def mNat (x : Nat) (k : Nat → R) : R := Nat.rec (k 0) (fun n _ => k (Nat.succ n)) x
theorem mNat_eq (x : Nat) (k : Nat → R) : mNat x k = k x := by cases x <;> rfl
def mIntV (i : Int) (k : Int → R) : R := Int.rec (fun n => mNat n fun m => k (.ofNat m)) (fun n => mNat n fun m => k (.negSucc m)) i
theorem mIntV_eq (i : Int) (k : Int → R) : mIntV i k = k i := by
  cases i with
  | ofNat n => exact mNat_eq n fun m => k (.ofNat m)
  | negSucc n => exact mNat_eq n fun m => k (.negSucc m)
def mB (b : Bool) (t e : R) : R := Bool.rec e t b
theorem mB_t (t e : R) : mB true t e = t := rfl
theorem mB_f (t e : R) : mB false t e = e := rfl
def mInt (x : PyData) (k : Int → R) : R :=
  PyData.rec (motive_1 := fun _ => R) (motive_2 := fun _ => PUnit) (motive_3 := fun _ => PUnit) (motive_4 := fun _ => PUnit)
    none (fun _ => none) k (fun _ => none) (fun _ _ => none) (fun _ _ => none) (fun _ _ => none) ⟨⟩ (fun _ _ _ _ => ⟨⟩) ⟨⟩ (fun _ _ _ _ => ⟨⟩) (fun _ _ _ _ => ⟨⟩) x
theorem mInt_some {x : PyData} {k : Int → R} {r : PyData} (h : mInt x k = some r) : ∃ i, x = .int i ∧ k i = some r := by
  cases x <;> first | exact ⟨_, rfl, h⟩ | cases h
def mBool (x : PyData) (k : Bool → R) : R :=
  PyData.rec (motive_1 := fun _ => R) (motive_2 := fun _ => PUnit) (motive_3 := fun _ => PUnit) (motive_4 := fun _ => PUnit)
    none k (fun _ => none) (fun _ => none) (fun _ _ => none) (fun _ _ => none) (fun _ _ => none) ⟨⟩ (fun _ _ _ _ => ⟨⟩) ⟨⟩ (fun _ _ _ _ => ⟨⟩) (fun _ _ _ _ => ⟨⟩) x
theorem mBool_some {x : PyData} {k : Bool → R} {r : PyData} (h : mBool x k = some r) : ∃ i, x = .bool i ∧ k i = some r := by
  cases x <;> first | exact ⟨_, rfl, h⟩ | cases h
/-- by kind: a list, a tuple, something else -/
def mSeq (x : PyData) (kl kt : List PyData → R) (ko : R) : R :=
  PyData.rec (motive_1 := fun _ => R) (motive_2 := fun _ => PUnit) (motive_3 := fun _ => PUnit) (motive_4 := fun _ => PUnit)
    ko (fun _ => ko) (fun _ => ko) (fun _ => ko) (fun xs _ => kl xs) (fun xs _ => kt xs) (fun _ _ => ko) ⟨⟩ (fun _ _ _ _ => ⟨⟩) ⟨⟩ (fun _ _ _ _ => ⟨⟩) (fun _ _ _ _ => ⟨⟩) x
theorem mSeq_some {x : PyData} {kl kt : List PyData → R} {ko : R} {r : PyData} (h : mSeq x kl kt ko = some r) :
    (∃ xs, x = .list xs ∧ kl xs = some r) ∨ (∃ xs, x = .tuple xs ∧ kt xs = some r) ∨ ((∀ xs, x ≠ .list xs ∧ x ≠ .tuple xs) ∧ ko = some r) := by
  cases x with
  | list xs => exact .inl ⟨xs, rfl, h⟩
  | tuple xs => exact .inr (.inl ⟨xs, rfl, h⟩)
  | _ => exact .inr (.inr ⟨fun xs => ⟨(nomatch ·), (nomatch ·)⟩, h⟩)
def mTup (x : PyData) (k : List PyData → R) : R := mSeq x (fun _ => none) k none
theorem mTup_some {x : PyData} {k : List PyData → R} {r : PyData} (h : mTup x k = some r) : ∃ xs, x = .tuple xs ∧ k xs = some r := by
  rcases mSeq_some h with ⟨_, _, z⟩ | z | ⟨_, z⟩
  · cases z
  · exact z
  · cases z
def mSl (s : Sl) (kn : R) (kd : PyData → R) (ko : List PyData → R) (ks : R) : R := Sl.rec kn kd ko ks s
def getS (ρ : Rho) (i : Nat) (k : Sl → R) : R :=
  List.rec (motive := fun _ => Nat → R) (fun _ => none) (fun s _ ih i => Nat.rec (k s) (fun j _ => ih j) i) ρ i
theorem getS_some : ∀ {ρ : Rho} {i : Nat} {k : Sl → R} {r : PyData}, getS ρ i k = some r → ∃ s, ρ[i]? = some s ∧ k s = some r
  | [], _, _, _, h => by cases h
  | s :: t, 0, _, _, h => ⟨s, rfl, h⟩
  | s :: t, i + 1, k, r, h => getS_some (ρ := t) (i := i) h
/-- a slot set -/
def setS (ρ : Rho) (i : Nat) (x : Sl) (k : Rho → R) : R :=
  List.rec (motive := fun _ => Nat → (Rho → R) → R) (fun _ _ => none) (fun s t ih i k => Nat.rec (k (x :: t)) (fun j _ => ih j fun t' => k (s :: t')) i) ρ i k
theorem setS_some : ∀ {ρ : Rho} {i : Nat} {x : Sl} {k : Rho → R} {r : PyData}, setS ρ i x k = some r → k (ρ.set i x) = some r
  | [], _, _, _, _, h => by cases h
  | s :: t, 0, _, _, _, h => h
  | s :: t, i + 1, x, k, r, h => setS_some (ρ := t) (i := i) (k := fun t' => k (s :: t')) h
/-- lists -/
def appC (xs ys : List PyData) (k : List PyData → R) : R := List.rec (motive := fun _ => (List PyData → R) → R) (fun k => k ys) (fun x _ ih k => ih fun r => k (x :: r)) xs k
theorem appC_eq (ys : List PyData) : ∀ (xs : List PyData) (k : List PyData → R), appC xs ys k = k (xs ++ ys)
  | [], _ => rfl
  | x :: xs, k => appC_eq ys xs fun r => k (x :: r)
/-- so many items at most -/
def fewB (xs : List PyData) (n : Nat) : Bool := List.rec (motive := fun _ => Nat → Bool) (fun _ => true) (fun _ _ ih n => Nat.rec false (fun m _ => ih m) n) xs n
theorem fewB_le : ∀ {xs : List PyData} {n : Nat}, fewB xs n = true → xs.length ≤ n
  | [], _, _ => Nat.zero_le _
  | _ :: _, 0, h => by cases h
  | x :: xs, n + 1, h => Nat.succ_le_succ (fewB_le (xs := xs) (n := n) h)
def few (xs : List PyData) (k : R) : R := mB (fewB xs 4000) k none
theorem few_some {xs : List PyData} {k : R} {r : PyData} (h : few xs k = some r) : xs.length ≤ 4000 ∧ k = some r := by
  unfold few at h
  cases e : fewB xs 4000 with
  | true => rw [e] at h; exact ⟨fewB_le e, h⟩
  | false => rw [e] at h; cases h
theorem few_line : (8000 : Nat) ≤ sizeLine := by rw [sizeLine_eq]; omega
def lenC (xs : List PyData) (k : Nat → R) : R := List.rec (motive := fun _ => Nat → R) (fun n => mNat n k) (fun _ _ ih n => ih (Nat.succ n)) xs 0
theorem lenC_aux (k : Nat → R) : ∀ (xs : List PyData) (n : Nat), (List.rec (motive := fun _ => Nat → R) (fun n => mNat n k) (fun _ _ ih n => ih (Nat.succ n)) xs n : R) = k (n + xs.length)
  | [], n => mNat_eq n k
  | x :: xs, n => by
    refine (lenC_aux k xs (Nat.succ n)).trans ?_
    rw [List.length_cons]
    congr 1
    omega
theorem lenC_eq (xs : List PyData) (k : Nat → R) : lenC xs k = k xs.length := by
  have := lenC_aux k xs 0
  rw [Nat.zero_add] at this
  exact this
def nthC (xs : List PyData) (i : Nat) (k : PyData → R) : R :=
  List.rec (motive := fun _ => Nat → R) (fun _ => none) (fun s _ ih i => Nat.rec (k s) (fun j _ => ih j) i) xs i
theorem nthC_some : ∀ {xs : List PyData} {i : Nat} {k : PyData → R} {r : PyData}, nthC xs i k = some r → ∃ s, xs[i]? = some s ∧ k s = some r
  | [], _, _, _, h => by cases h
  | s :: t, 0, _, _, h => ⟨s, rfl, h⟩
  | s :: t, i + 1, k, r, h => nthC_some (xs := t) (i := i) h
def dropC (n : Nat) (xs : List PyData) (k : List PyData → R) : R :=
  List.rec (motive := fun _ => Nat → R) (fun _ => k []) (fun x t ih n => Nat.rec (k (x :: t)) (fun j _ => ih j) n) xs n
theorem dropC_eq (k : List PyData → R) : ∀ (xs : List PyData) (n : Nat), dropC n xs k = k (xs.drop n)
  | [], n => by rw [List.drop_nil]; rfl
  | x :: t, 0 => rfl
  | x :: t, n + 1 => dropC_eq k t n
def takeC (n : Nat) (xs : List PyData) (k : List PyData → R) : R :=
  List.rec (motive := fun _ => Nat → (List PyData → R) → R) (fun _ k => k []) (fun x _ ih n k => Nat.rec (k []) (fun j _ => ih j fun r => k (x :: r)) n) xs n k
theorem takeC_eq : ∀ (xs : List PyData) (n : Nat) (k : List PyData → R), takeC n xs k = k (xs.take n)
  | [], n, k => by rw [List.take_nil]; rfl
  | x :: t, 0, k => rfl
  | x :: t, n + 1, k => takeC_eq t n fun r => k (x :: r)
def revC (xs : List PyData) (k : List PyData → R) : R := List.rec (motive := fun _ => List PyData → R) (fun a => k a) (fun x _ ih a => ih (x :: a)) xs []
theorem revC_aux (k : List PyData → R) : ∀ (xs a : List PyData), (List.rec (motive := fun _ => List PyData → R) (fun a => k a) (fun x _ ih a => ih (x :: a)) xs a : R) = k (xs.reverse ++ a)
  | [], _ => rfl
  | x :: xs, a => by
    refine (revC_aux k xs (x :: a)).trans ?_
    rw [List.reverse_cons, List.append_assoc]
    rfl
theorem revC_eq (xs : List PyData) (k : List PyData → R) : revC xs k = k xs.reverse := by
  have := revC_aux k xs []
  rw [List.append_nil] at this
  exact this

/-! ### operators -/
/-- one that is not made faster -/
def any2 (op : PyData → PyData → Option PyData) (x y : PyData) (K : PyData → R) : R := Option.rec none K (op x y)
theorem ok_any2 (op : PyData → PyData → Option PyData) : Ok2 op (any2 op) := ⟨fun x y K r h => by
  unfold any2 at h
  cases e : op x y with
  | none => rw [e] at h; cases h
  | some z => rw [e] at h; exact ⟨z, rfl, h⟩⟩
def any1 (op : PyData → Option PyData) (x : PyData) (K : PyData → R) : R := Option.rec none K (op x)
theorem ok_any1 (op : PyData → Option PyData) : Ok1 op (any1 op) := ⟨fun x K r h => by
  unfold any1 at h
  cases e : op x with
  | none => rw [e] at h; cases h
  | some z => rw [e] at h; exact ⟨z, rfl, h⟩⟩
def anyN (op : List PyData → Option PyData) (x : List PyData) (K : PyData → R) : R := Option.rec none K (op x)
theorem ok_anyN (op : List PyData → Option PyData) : OkN op (anyN op) := ⟨fun x K r h => by
  unfold anyN at h
  cases e : op x with
  | none => rw [e] at h; cases h
  | some z => rw [e] at h; exact ⟨z, rfl, h⟩⟩
def nOp (f : Nat → Nat → Nat) (g : Int → Int → Int) (i j : Int) (K : PyData → R) : R :=
  Int.rec (fun a => Int.rec (fun b => mNat (f a b) fun c => K (.int (.ofNat c))) (fun b => mIntV (g (.ofNat a) (.negSucc b)) fun c => K (.int c)) j)
    (fun a => mIntV (g (.negSucc a) j) fun c => K (.int c)) i
theorem nOp_eq {f : Nat → Nat → Nat} {g : Int → Int → Int} (h : ∀ a b : Nat, g (.ofNat a) (.ofNat b) = .ofNat (f a b)) (i j : Int) (K : PyData → R) : nOp f g i j K = K (.int (g i j)) := by
  cases i with
  | ofNat a => cases j with
    | ofNat b =>
      rw [h]
      exact mNat_eq (f a b) fun c => K (.int (.ofNat c))
    | negSucc b => exact mIntV_eq (g (.ofNat a) (.negSucc b)) fun c => K (.int c)
  | negSucc a => exact mIntV_eq (g (.negSucc a) j) fun c => K (.int c)
def fAdd (x y : PyData) (K : PyData → R) : R :=
  mSeq x (fun xs => mSeq y (fun ys => few xs (few ys (appC xs ys fun zs => K (.list zs)))) (fun _ => none) none)
    (fun xs => mSeq y (fun _ => none) (fun ys => few xs (few ys (appC xs ys fun zs => K (.tuple zs)))) none)
    (mInt x fun i => mInt y fun j => nOp Nat.add Int.add i j K)
theorem ok_bAdd : Ok2 bAdd fAdd := ⟨fun x y K r h => by
  unfold fAdd at h
  rcases mSeq_some h with ⟨xs, ex, h1⟩ | ⟨xs, ex, h1⟩ | ⟨_, h1⟩
  · rcases mSeq_some h1 with ⟨ys, ey, h2⟩ | ⟨ys, ey, h2⟩ | ⟨_, h2⟩
    · obtain ⟨l1, h3⟩ := few_some h2
      obtain ⟨l2, h4⟩ := few_some h3
      rw [appC_eq] at h4
      have := few_line
      rw [ex, ey]
      refine ⟨_, ?_, h4⟩
      unfold bAdd
      exact if_pos (by omega)
    · cases h2
    · cases h2
  · rcases mSeq_some h1 with ⟨ys, ey, h2⟩ | ⟨ys, ey, h2⟩ | ⟨_, h2⟩
    · cases h2
    · obtain ⟨l1, h3⟩ := few_some h2
      obtain ⟨l2, h4⟩ := few_some h3
      rw [appC_eq] at h4
      have := few_line
      rw [ex, ey]
      refine ⟨_, ?_, h4⟩
      unfold bAdd
      exact if_pos (by omega)
    · cases h2
  · obtain ⟨i, ex, h2⟩ := mInt_some h1
    obtain ⟨j, ey, h3⟩ := mInt_some h2
    rw [nOp_eq (f := Nat.add) (g := Int.add) (fun a b => rfl)] at h3
    rw [ex, ey]
    exact ⟨_, rfl, h3⟩⟩
def fSub (x y : PyData) (K : PyData → R) : R := mInt x fun i => mInt y fun j => mIntV (Int.sub i j) fun c => K (.int c)
theorem ok_bSub : Ok2 bSub fSub := ⟨fun x y K r h => by
  obtain ⟨i, ex, h1⟩ := mInt_some h
  obtain ⟨j, ey, h2⟩ := mInt_some h1
  rw [mIntV_eq] at h2
  rw [ex, ey]
  exact ⟨_, rfl, h2⟩⟩
def fMul (x y : PyData) (K : PyData → R) : R :=
  mSeq x (fun xs => any2 bMul x y K) (fun xs => any2 bMul x y K)
    (mInt x fun i => mInt y fun j => mB (Nat.ble (Nat.add (Nat.log2 (Int.natAbs i)) (Nat.log2 (Int.natAbs j))) 999999) (nOp Nat.mul Int.mul i j K) none)
theorem mB_some {b : Bool} {t e : R} {r : PyData} (h : mB b t e = some r) : (b = true ∧ t = some r) ∨ (b = false ∧ e = some r) := by
  cases b
  · exact .inr ⟨rfl, h⟩
  · exact .inl ⟨rfl, h⟩
theorem ok_bMul : Ok2 bMul fMul := ⟨fun x y K r h => by
  unfold fMul at h
  rcases mSeq_some h with ⟨xs, ex, h1⟩ | ⟨xs, ex, h1⟩ | ⟨_, h1⟩
  · exact (ok_any2 bMul).h _ _ _ _ h1
  · exact (ok_any2 bMul).h _ _ _ _ h1
  · obtain ⟨i, ex, h2⟩ := mInt_some h1
    obtain ⟨j, ey, h3⟩ := mInt_some h2
    rcases mB_some h3 with ⟨c, h4⟩ | ⟨_, h4⟩
    · rw [nOp_eq (f := Nat.mul) (g := Int.mul) (fun a b => rfl)] at h4
      rw [ex, ey]
      refine ⟨_, ?_, h4⟩
      have c' := Nat.le_of_ble_eq_true c
      have ok : mulOk i j = true := by
        unfold mulOk
        refine decide_eq_true ?_
        have : Nat.add (Nat.log2 (Int.natAbs i)) (Nat.log2 (Int.natAbs j)) = i.natAbs.log2 + j.natAbs.log2 := rfl
        omega
      unfold bMul
      simp only [ok, if_true]
      rfl
    · cases h4⟩
def fDiv (x y : PyData) (K : PyData → R) : R := mInt x fun i => mInt y fun j =>
  Int.rec (fun b => mB (Nat.ble 1 b) (mB (Nat.ble (Nat.log2 b) 8999) (nOp Nat.div (fun a c => a / c) i (.ofNat b) K) none) none) (fun _ => none) j
theorem ok_bDiv : Ok2 bDiv fDiv := ⟨fun x y K r h => by
  obtain ⟨i, ex, h1⟩ := mInt_some h
  obtain ⟨j, ey, h2⟩ := mInt_some h1
  rw [ex, ey]
  cases j with
  | negSucc b => cases h2
  | ofNat b =>
    rcases mB_some h2 with ⟨c, h4⟩ | ⟨_, h4⟩
    · rcases mB_some h4 with ⟨c2, h5⟩ | ⟨_, h5⟩
      · rw [nOp_eq (f := Nat.div) (g := fun a c => a / c) (fun a b => rfl)] at h5
        refine ⟨_, ?_, h5⟩
        have c' := Nat.le_of_ble_eq_true c
        have c2' := Nat.le_of_ble_eq_true c2
        have ok : divOk (.ofNat b) = true := by
          unfold divOk
          rw [Bool.and_eq_true]
          refine ⟨decide_eq_true ?_, decide_eq_true ?_⟩
          · show (0 : Int) < (b : Int)
            omega
          · show Nat.log2 b < 9000
            omega
        unfold bDiv
        exact if_pos ok
      · cases h5
    · cases h4⟩
def fMod (x y : PyData) (K : PyData → R) : R := mInt x fun i => mInt y fun j =>
  Int.rec (fun b => mB (Nat.ble 1 b) (nOp Nat.mod (fun a c => a % c) i (.ofNat b) K) none) (fun _ => none) j
theorem ok_bMod : Ok2 bMod fMod := ⟨fun x y K r h => by
  obtain ⟨i, ex, h1⟩ := mInt_some h
  obtain ⟨j, ey, h2⟩ := mInt_some h1
  rw [ex, ey]
  cases j with
  | negSucc b => cases h2
  | ofNat b =>
    rcases mB_some h2 with ⟨c, h5⟩ | ⟨_, h4⟩
    · rw [nOp_eq (f := Nat.mod) (g := fun a c => a % c) (fun a b => rfl)] at h5
      refine ⟨_, ?_, h5⟩
      have c' := Nat.le_of_ble_eq_true c
      unfold bMod
      refine if_pos ?_
      show (0 : Int) < (b : Int)
      omega
    · cases h4⟩
/-- an order of ints -/
def iLe (i j : Int) : Bool := Int.rec (fun a => Int.rec (fun b => Nat.ble a b) (fun _ => false) j) (fun a => Int.rec (fun _ => true) (fun b => Nat.ble b a) j) i
theorem iLe_eq (i j : Int) : iLe i j = decide (i ≤ j) := by
  cases i with
  | ofNat a => cases j with
    | ofNat b =>
      show Nat.ble a b = _
      rw [Bool.eq_iff_iff, Nat.ble_eq, decide_eq_true_eq]
      show a ≤ b ↔ (a : Int) ≤ (b : Int)
      omega
    | negSucc b =>
      show false = _
      refine (decide_eq_false ?_).symm
      show ¬ ((a : Int) ≤ Int.negSucc b)
      omega
  | negSucc a => cases j with
    | ofNat b =>
      show true = _
      refine (decide_eq_true ?_).symm
      show Int.negSucc a ≤ (b : Int)
      omega
    | negSucc b =>
      show Nat.ble b a = _
      rw [Bool.eq_iff_iff, Nat.ble_eq, decide_eq_true_eq]
      omega
def iLt (i j : Int) : Bool := Bool.rec true false (iLe j i)
theorem iLt_eq (i j : Int) : iLt i j = decide (i < j) := by
  unfold iLt
  rw [iLe_eq]
  by_cases h : j ≤ i
  · rw [decide_eq_true h, decide_eq_false (by omega)]
  · rw [decide_eq_false h, decide_eq_true (by omega)]
def fBool (b : Bool) (K : PyData → R) : R := mB b (K (.bool true)) (K (.bool false))
theorem fBool_eq (b : Bool) (K : PyData → R) : fBool b K = K (.bool b) := by cases b <;> rfl
def fCmp (p : Int → Int → Bool) (x y : PyData) (K : PyData → R) : R := mInt x fun i => mInt y fun j => fBool (p i j) K
theorem ok_cLe : Ok2 cLe (fCmp iLe) := ⟨fun x y K r h => by
  obtain ⟨i, ex, h1⟩ := mInt_some h
  obtain ⟨j, ey, h2⟩ := mInt_some h1
  rw [fBool_eq, iLe_eq] at h2
  rw [ex, ey]
  exact ⟨_, rfl, h2⟩⟩
theorem ok_cGe : Ok2 cGe (fCmp fun i j => iLe j i) := ⟨fun x y K r h => by
  obtain ⟨i, ex, h1⟩ := mInt_some h
  obtain ⟨j, ey, h2⟩ := mInt_some h1
  rw [fBool_eq] at h2
  dsimp only at h2
  rw [iLe_eq] at h2
  rw [ex, ey]
  exact ⟨_, rfl, h2⟩⟩
def fLt (x y : PyData) (K : PyData → R) : R := mSeq x (fun _ => none) (fun _ => any2 cLt x y K) (fCmp iLt x y K)
theorem ok_cLt : Ok2 cLt fLt := ⟨fun x y K r h => by
  rcases mSeq_some h with ⟨xs, ex, h1⟩ | ⟨xs, ex, h1⟩ | ⟨_, h0⟩
  · cases h1
  · exact (ok_any2 cLt).h _ _ _ _ h1
  · obtain ⟨i, ex, h1⟩ := mInt_some h0
    obtain ⟨j, ey, h2⟩ := mInt_some h1
    rw [fBool_eq, iLt_eq] at h2
    rw [ex, ey]
    exact ⟨_, rfl, h2⟩⟩
def fGt (x y : PyData) (K : PyData → R) : R := mSeq x (fun _ => none) (fun _ => any2 cGt x y K) (fCmp (fun i j => iLt j i) x y K)
theorem ok_cGt : Ok2 cGt fGt := ⟨fun x y K r h => by
  rcases mSeq_some h with ⟨xs, ex, h1⟩ | ⟨xs, ex, h1⟩ | ⟨_, h0⟩
  · cases h1
  · exact (ok_any2 cGt).h _ _ _ _ h1
  · obtain ⟨i, ex, h1⟩ := mInt_some h0
    obtain ⟨j, ey, h2⟩ := mInt_some h1
    rw [fBool_eq] at h2
    dsimp only at h2
    rw [iLt_eq] at h2
    rw [ex, ey]
    exact ⟨_, rfl, h2⟩⟩

/-! ### == -/
/-- shape: no dict, no text, at most so deep -/
def shpN (x : PyData) : Nat → Bool :=
  PyData.rec (motive_1 := fun _ => Nat → Bool) (motive_2 := fun _ => Nat → Bool) (motive_3 := fun _ => PUnit) (motive_4 := fun _ => PUnit)
    (fun _ => true) (fun _ _ => true) (fun _ _ => true) (fun _ _ => false) (fun _ ih n => Nat.rec false (fun m _ => ih m) n) (fun _ ih n => Nat.rec false (fun m _ => ih m) n) (fun _ _ _ => false)
    (fun _ => true) (fun _ _ ih1 ih2 n => Bool.rec false (ih2 n) (ih1 n)) ⟨⟩ (fun _ _ _ _ => ⟨⟩) (fun _ _ _ _ => ⟨⟩) x
def shpA (x : List PyData) : Nat → Bool :=
  PyData.rec_1 (motive_1 := fun _ => Nat → Bool) (motive_2 := fun _ => Nat → Bool) (motive_3 := fun _ => PUnit) (motive_4 := fun _ => PUnit)
    (fun _ => true) (fun _ _ => true) (fun _ _ => true) (fun _ _ => false) (fun _ ih n => Nat.rec false (fun m _ => ih m) n) (fun _ ih n => Nat.rec false (fun m _ => ih m) n) (fun _ _ _ => false)
    (fun _ => true) (fun _ _ ih1 ih2 n => Bool.rec false (ih2 n) (ih1 n)) ⟨⟩ (fun _ _ _ _ => ⟨⟩) (fun _ _ _ _ => ⟨⟩) x
theorem br_and {a b : Bool} (h : (Bool.rec false b a : Bool) = true) : a = true ∧ b = true := by
  cases a
  · cases h
  · exact ⟨rfl, h⟩
mutual
theorem shpN_ok : ∀ {x : PyData} {n : Nat}, shpN x n = true → x.canLay0 = true ∧ x.depth ≤ n
  | .none, n, _ => ⟨rfl, Nat.zero_le _⟩
  | .bool _, n, _ => ⟨rfl, Nat.zero_le _⟩
  | .int _, n, _ => ⟨rfl, Nat.zero_le _⟩
  | .str _, n, h => by cases h
  | .dict _, n, h => by cases h
  | .list xs, 0, h => by cases h
  | .list xs, n + 1, h => by
    have h' : shpA xs n = true := h
    obtain ⟨a, b⟩ := shpA_ok h'
    exact ⟨a, Nat.succ_le_succ b⟩
  | .tuple xs, 0, h => by cases h
  | .tuple xs, n + 1, h => by
    have h' : shpA xs n = true := h
    obtain ⟨a, b⟩ := shpA_ok h'
    exact ⟨a, Nat.succ_le_succ b⟩
theorem shpA_ok : ∀ {x : List PyData} {n : Nat}, shpA x n = true → PyData.canLayAll0 x = true ∧ PyData.depthAll x ≤ n
  | [], n, _ => ⟨rfl, Nat.zero_le _⟩
  | x :: xs, n, h => by
    have h' : (Bool.rec false (shpA xs n) (shpN x n) : Bool) = true := h
    obtain ⟨a, b⟩ := br_and h'
    obtain ⟨a1, a2⟩ := shpN_ok a
    obtain ⟨b1, b2⟩ := shpA_ok b
    refine ⟨?_, ?_⟩
    · rw [PyData.canLayAll0, a1, b1]; rfl
    · rw [PyData.depthAll]
      exact Nat.max_le.mpr ⟨a2, b2⟩
end
def shpB (x : PyData) : Bool := shpN x 12
theorem shpB_ok {x : PyData} (h : shpB x = true) : SeqAt.shaped x = true := by
  obtain ⟨a, b⟩ := shpN_ok h
  unfold SeqAt.shaped
  rw [a, Bool.true_and]
  exact decide_eq_true (by omega)
def iEq (i j : Int) : Bool := Int.rec (fun a => Int.rec (fun b => Nat.beq a b) (fun _ => false) j) (fun a => Int.rec (fun _ => false) (fun b => Nat.beq a b) j) i
theorem iEq_eq (i j : Int) : iEq i j = (i == j) := by
  cases i with
  | ofNat a => cases j with
    | ofNat b =>
      show Nat.beq a b = _
      rw [Bool.eq_iff_iff, Nat.beq_eq, beq_iff_eq]
      exact ⟨fun h => by rw [h], fun h => by cases h; rfl⟩
    | negSucc b =>
      show false = _
      symm
      rw [beq_eq_false_iff_ne]
      exact (nomatch ·)
  | negSucc a => cases j with
    | ofNat b =>
      show false = _
      symm
      rw [beq_eq_false_iff_ne]
      exact (nomatch ·)
    | negSucc b =>
      show Nat.beq a b = _
      rw [Bool.eq_iff_iff, Nat.beq_eq, beq_iff_eq]
      exact ⟨fun h => by rw [h], fun h => by cases h; rfl⟩
/-- what a datum shows, as a Bool -/
def kInt (x : PyData) (k : Int → Bool) (kb : Bool → Bool) : Bool :=
  PyData.rec (motive_1 := fun _ => Bool) (motive_2 := fun _ => PUnit) (motive_3 := fun _ => PUnit) (motive_4 := fun _ => PUnit)
    false kb k (fun _ => false) (fun _ _ => false) (fun _ _ => false) (fun _ _ => false) ⟨⟩ (fun _ _ _ _ => ⟨⟩) ⟨⟩ (fun _ _ _ _ => ⟨⟩) (fun _ _ _ _ => ⟨⟩) x
def kNone (x : PyData) : Bool :=
  PyData.rec (motive_1 := fun _ => Bool) (motive_2 := fun _ => PUnit) (motive_3 := fun _ => PUnit) (motive_4 := fun _ => PUnit)
    true (fun _ => false) (fun _ => false) (fun _ => false) (fun _ _ => false) (fun _ _ => false) (fun _ _ => false) ⟨⟩ (fun _ _ _ _ => ⟨⟩) ⟨⟩ (fun _ _ _ _ => ⟨⟩) (fun _ _ _ _ => ⟨⟩) x
def kList (x : PyData) (k : List PyData → Bool) : Bool :=
  PyData.rec (motive_1 := fun _ => Bool) (motive_2 := fun _ => PUnit) (motive_3 := fun _ => PUnit) (motive_4 := fun _ => PUnit)
    false (fun _ => false) (fun _ => false) (fun _ => false) (fun xs _ => k xs) (fun _ _ => false) (fun _ _ => false) ⟨⟩ (fun _ _ _ _ => ⟨⟩) ⟨⟩ (fun _ _ _ _ => ⟨⟩) (fun _ _ _ _ => ⟨⟩) x
def kTup (x : PyData) (k : List PyData → Bool) : Bool :=
  PyData.rec (motive_1 := fun _ => Bool) (motive_2 := fun _ => PUnit) (motive_3 := fun _ => PUnit) (motive_4 := fun _ => PUnit)
    false (fun _ => false) (fun _ => false) (fun _ => false) (fun _ _ => false) (fun xs _ => k xs) (fun _ _ => false) ⟨⟩ (fun _ _ _ _ => ⟨⟩) ⟨⟩ (fun _ _ _ _ => ⟨⟩) (fun _ _ _ _ => ⟨⟩) x
def bEq (a b : Bool) : Bool := Bool.rec (Bool.rec true false b) (Bool.rec false true b) a
/-- equal; of texts nothing is told -/
def eqN (x : PyData) : PyData → Bool :=
  PyData.rec (motive_1 := fun _ => PyData → Bool) (motive_2 := fun _ => List PyData → Bool) (motive_3 := fun _ => PUnit) (motive_4 := fun _ => PUnit)
    kNone (fun b y => kInt y (fun j => iEq (Bool.rec 0 1 b) j) (bEq b)) (fun i y => kInt y (iEq i) (fun b => iEq i (Bool.rec 0 1 b))) (fun _ _ => false)
    (fun _ ih y => kList y ih) (fun _ ih y => kTup y ih) (fun _ _ _ => false)
    (fun ys => List.rec true (fun _ _ _ => false) ys) (fun _ _ ih1 ih2 ys => List.rec false (fun y t _ => Bool.rec false (ih2 t) (ih1 y)) ys) ⟨⟩ (fun _ _ _ _ => ⟨⟩) (fun _ _ _ _ => ⟨⟩) x
def eqA (x : List PyData) : List PyData → Bool :=
  PyData.rec_1 (motive_1 := fun _ => PyData → Bool) (motive_2 := fun _ => List PyData → Bool) (motive_3 := fun _ => PUnit) (motive_4 := fun _ => PUnit)
    kNone (fun b y => kInt y (fun j => iEq (Bool.rec 0 1 b) j) (bEq b)) (fun i y => kInt y (iEq i) (fun b => iEq i (Bool.rec 0 1 b))) (fun _ _ => false)
    (fun _ ih y => kList y ih) (fun _ ih y => kTup y ih) (fun _ _ _ => false)
    (fun ys => List.rec true (fun _ _ _ => false) ys) (fun _ _ ih1 ih2 ys => List.rec false (fun y t _ => Bool.rec false (ih2 t) (ih1 y)) ys) ⟨⟩ (fun _ _ _ _ => ⟨⟩) (fun _ _ _ _ => ⟨⟩) x
theorem bEq_eq (a b : Bool) : bEq a b = (a == b) := by cases a <;> cases b <;> rfl
theorem recB (b : Bool) : (Bool.rec (0 : Int) 1 b : Int) = if b = true then 1 else 0 := by cases b <;> rfl
mutual
theorem eqN_ok : ∀ {x : PyData} {n : Nat} (y : PyData), shpN x n = true → eqN x y = PyData.eqv x y
  | .none, n, y, _ => by cases y <;> rfl
  | .bool b, n, y, _ => by
    cases y with
    | bool c => exact bEq_eq b c
    | int j =>
      show iEq (Bool.rec 0 1 b) j = _
      rw [iEq_eq, recB]
      rfl
    | _ => rfl
  | .int i, n, y, _ => by
    cases y with
    | bool c =>
      show iEq i (Bool.rec 0 1 c) = _
      rw [iEq_eq, recB]
      rfl
    | int j => exact iEq_eq i j
    | _ => rfl
  | .str _, n, _, h => by cases h
  | .dict _, n, _, h => by cases h
  | .list xs, 0, _, h => by cases h
  | .list xs, n + 1, y, h => by
    have h' : shpA xs n = true := h
    cases y with
    | list ys =>
      show eqA xs ys = _
      rw [eqA_ok ys h']
      rfl
    | _ => rfl
  | .tuple xs, 0, _, h => by cases h
  | .tuple xs, n + 1, y, h => by
    have h' : shpA xs n = true := h
    cases y with
    | tuple ys =>
      show eqA xs ys = _
      rw [eqA_ok ys h']
      rfl
    | _ => rfl
theorem eqA_ok : ∀ {x : List PyData} {n : Nat} (y : List PyData), shpA x n = true → eqA x y = PyData.eqvAll x y
  | [], n, y, _ => by cases y <;> rfl
  | x :: xs, n, y, h => by
    have h' : (Bool.rec false (shpA xs n) (shpN x n) : Bool) = true := h
    obtain ⟨a, b⟩ := br_and h'
    cases y with
    | nil => rfl
    | cons y ys =>
      show (Bool.rec false (eqA xs ys) (eqN x y) : Bool) = _
      rw [eqN_ok y a, eqA_ok ys b, PyData.eqvAll]
      cases PyData.eqv x y <;> rfl
end
def isStr (x : PyData) : Bool :=
  PyData.rec (motive_1 := fun _ => Bool) (motive_2 := fun _ => PUnit) (motive_3 := fun _ => PUnit) (motive_4 := fun _ => PUnit)
    false (fun _ => false) (fun _ => false) (fun _ => true) (fun _ _ => false) (fun _ _ => false) (fun _ _ => false) ⟨⟩ (fun _ _ _ _ => ⟨⟩) ⟨⟩ (fun _ _ _ _ => ⟨⟩) (fun _ _ _ _ => ⟨⟩) x
def fEq (x y : PyData) (K : PyData → R) : R := mB (isStr x) (any2 cEq x y K) (mB (shpB x) (mB (shpB y) (fBool (eqN x y) K) none) none)
def fNe (x y : PyData) (K : PyData → R) : R := mB (isStr x) (any2 cNe x y K) (mB (shpB x) (mB (shpB y) (mB (eqN x y) (K (.bool false)) (K (.bool true))) none) none)
theorem eqS_shp {x y : PyData} (h : shpB x = true) : (eqS x y).isSome = true → False := by
  intro z
  cases x with
  | str s => cases h
  | _ => cases z
theorem ok_cEq : Ok2 cEq fEq := ⟨fun x y K r h => by
  rcases mB_some h with ⟨_, h1⟩ | ⟨_, h0⟩
  · exact (ok_any2 cEq).h _ _ _ _ h1
  rcases mB_some h0 with ⟨c1, h1⟩ | ⟨_, h1⟩
  · rcases mB_some h1 with ⟨c2, h2⟩ | ⟨_, h2⟩
    · rw [fBool_eq, eqN_ok y c1] at h2
      refine ⟨_, ?_, h2⟩
      unfold cEq
      rw [if_neg (eqS_shp c1), if_pos ⟨shpB_ok c1, shpB_ok c2⟩]
    · cases h2
  · cases h1⟩
theorem ok_cNe : Ok2 cNe fNe := ⟨fun x y K r h => by
  rcases mB_some h with ⟨_, h1⟩ | ⟨_, h0⟩
  · exact (ok_any2 cNe).h _ _ _ _ h1
  rcases mB_some h0 with ⟨c1, h1⟩ | ⟨_, h1⟩
  · rcases mB_some h1 with ⟨c2, h2⟩ | ⟨_, h2⟩
    · have e := eqN_ok y c1
      have go : cNe x y = some (.bool (!PyData.eqv x y)) := by
        unfold cNe
        rw [if_neg (eqS_shp c1), if_pos ⟨shpB_ok c1, shpB_ok c2⟩]
      rcases mB_some h2 with ⟨c3, h3⟩ | ⟨c3, h3⟩
      · refine ⟨_, ?_, h3⟩
        rw [go, ← e, c3]
        rfl
      · refine ⟨_, ?_, h3⟩
        rw [go, ← e, c3]
        rfl
    · cases h2
  · cases h1⟩
/-- in -/
def anyB (d : PyData) (xs : List PyData) : Bool := List.rec (motive := fun _ => Bool) false (fun x _ ih => Bool.rec ih true (eqN x d)) xs
theorem anyB_ok {d : PyData} : ∀ {xs : List PyData} {n : Nat}, shpA xs n = true → anyB d xs = xs.any fun z => PyData.eqv z d
  | [], _, _ => rfl
  | x :: xs, n, h => by
    have h' : (Bool.rec false (shpA xs n) (shpN x n) : Bool) = true := h
    obtain ⟨a, b⟩ := br_and h'
    show (Bool.rec (anyB d xs) true (eqN x d) : Bool) = _
    rw [eqN_ok d a, anyB_ok b, List.any_cons]
    cases PyData.eqv x d <;> rfl
def fInB (x y : PyData) (K : Bool → R) : R :=
  mSeq y (fun xs => mB (shpB x) (mB (shpB y) (K (anyB x xs)) none) none) (fun xs => mB (shpB x) (mB (shpB y) (K (anyB x xs)) none) none) none
theorem fInB_ok {x y : PyData} {K : Bool → R} {r : PyData} (h : fInB x y K = some r) : ∃ b, cIn x y = some (.bool b) ∧ K b = some r := by
  rcases mSeq_some h with ⟨xs, ey, h1⟩ | ⟨xs, ey, h1⟩ | ⟨_, h1⟩
  · rcases mB_some h1 with ⟨c1, h2⟩ | ⟨_, h2⟩
    · rcases mB_some h2 with ⟨c2, h3⟩ | ⟨_, h3⟩
      · rw [ey] at c2 ⊢
        have c2' : shpA xs 11 = true := c2
        rw [anyB_ok c2'] at h3
        refine ⟨_, ?_, h3⟩
        unfold cIn
        exact if_pos ⟨shpB_ok c1, shpB_ok c2⟩
      · cases h3
    · cases h2
  · rcases mB_some h1 with ⟨c1, h2⟩ | ⟨_, h2⟩
    · rcases mB_some h2 with ⟨c2, h3⟩ | ⟨_, h3⟩
      · rw [ey] at c2 ⊢
        have c2' : shpA xs 11 = true := c2
        rw [anyB_ok c2'] at h3
        refine ⟨_, ?_, h3⟩
        unfold cIn
        exact if_pos ⟨shpB_ok c1, shpB_ok c2⟩
      · cases h3
    · cases h2
  · cases h1
def fIn (x y : PyData) (K : PyData → R) : R := mB (isStr y) (any2 cIn x y K) (fInB x y fun b => fBool b K)
def fNotIn (x y : PyData) (K : PyData → R) : R := mB (isStr y) (any2 cNotIn x y K) (fInB x y fun b => mB b (K (.bool false)) (K (.bool true)))
theorem ok_cIn : Ok2 cIn fIn := ⟨fun x y K r h => by
  rcases mB_some h with ⟨_, h1⟩ | ⟨_, h0⟩
  · exact (ok_any2 cIn).h _ _ _ _ h1
  obtain ⟨b, e, h1⟩ := fInB_ok h0
  rw [fBool_eq] at h1
  exact ⟨_, e, h1⟩⟩
theorem ok_cNotIn : Ok2 cNotIn fNotIn := ⟨fun x y K r h => by
  rcases mB_some h with ⟨_, h1⟩ | ⟨_, h0⟩
  · exact (ok_any2 cNotIn).h _ _ _ _ h1
  obtain ⟨b, e, h1⟩ := fInB_ok h0
  unfold cNotIn
  rw [e]
  rcases mB_some h1 with ⟨c, h2⟩ | ⟨c, h2⟩
  · rw [c]; exact ⟨_, rfl, h2⟩
  · rw [c]; exact ⟨_, rfl, h2⟩⟩
def fIsN (x y : PyData) (K : PyData → R) : R := any2 cIsN x y K
theorem ok_cIsN : Ok2 cIsN (any2 cIsN) := ok_any2 _
theorem ok_cNotN : Ok2 cNotN (any2 cNotN) := ok_any2 _
theorem ok_bPow : Ok2 bPow (any2 bPow) := ok_any2 _
theorem ok_mIndex : Ok2 mIndex (any2 mIndex) := ok_any2 _
/-- x[i] -/
def fIx (x y : PyData) (K : PyData → R) : R :=
  mSeq x (fun xs => mInt y fun i => Int.rec (fun n => nthC xs n K) (fun n => lenC xs fun l => mB (Nat.ble (Nat.succ n) l) (nthC xs (Nat.sub (Nat.sub l n) 1) K) none) i)
    (fun xs => mInt y fun i => Int.rec (fun n => nthC xs n K) (fun n => lenC xs fun l => mB (Nat.ble (Nat.succ n) l) (nthC xs (Nat.sub (Nat.sub l n) 1) K) none) i) (any2 bIx x y K)
theorem at_nat {xs : List PyData} {n : Nat} {d : PyData} (h : xs[n]? = some d) : L2.atI xs (.ofNat n) = some d := by
  have lt : n < xs.length := (List.getElem?_eq_some_iff.mp h).1
  unfold L2.atI L2.ixN
  rw [if_pos (by show (0 : Int) ≤ (n : Int); omega), if_pos (by show (n : Int) < (xs.length : Int); omega)]
  exact h
theorem at_neg {xs : List PyData} {n : Nat} {d : PyData} (hl : Nat.ble (Nat.succ n) xs.length = true) (h : xs[Nat.sub (Nat.sub xs.length n) 1]? = some d) : L2.atI xs (.negSucc n) = some d := by
  have hl' := Nat.le_of_ble_eq_true hl
  unfold L2.atI L2.ixN
  rw [if_neg (by omega), if_pos (by omega)]
  have e : (Int.negSucc n + (xs.length : Int)).toNat = Nat.sub (Nat.sub xs.length n) 1 := by
    show _ = xs.length - n - 1
    omega
  show xs[(Int.negSucc n + (xs.length : Int)).toNat]? = some d
  rw [e]
  exact h
theorem ok_bIx : Ok2 bIx fIx := ⟨fun x y K r h => by
  rcases mSeq_some h with ⟨xs, ex, h1⟩ | ⟨xs, ex, h1⟩ | ⟨_, h1⟩
  · obtain ⟨i, ey, h2⟩ := mInt_some h1
    rw [ex, ey]
    cases i with
    | ofNat n =>
      obtain ⟨d, e, h3⟩ := nthC_some h2
      exact ⟨d, at_nat e, h3⟩
    | negSucc n =>
      have h2' : (lenC xs fun l => mB (Nat.ble (Nat.succ n) l) (nthC xs (Nat.sub (Nat.sub l n) 1) K) none) = some r := h2
      rw [lenC_eq] at h2'
      rcases mB_some h2' with ⟨c, h3⟩ | ⟨_, h3⟩
      · obtain ⟨d, e, h4⟩ := nthC_some h3
        exact ⟨d, at_neg c e, h4⟩
      · cases h3
  · obtain ⟨i, ey, h2⟩ := mInt_some h1
    rw [ex, ey]
    cases i with
    | ofNat n =>
      obtain ⟨d, e, h3⟩ := nthC_some h2
      exact ⟨d, at_nat e, h3⟩
    | negSucc n =>
      have h2' : (lenC xs fun l => mB (Nat.ble (Nat.succ n) l) (nthC xs (Nat.sub (Nat.sub l n) 1) K) none) = some r := h2
      rw [lenC_eq] at h2'
      rcases mB_some h2' with ⟨c, h3⟩ | ⟨_, h3⟩
      · obtain ⟨d, e, h4⟩ := nthC_some h3
        exact ⟨d, at_neg c e, h4⟩
      · cases h3
  · exact (ok_any2 bIx).h _ _ _ _ h1⟩
/-! slices -/
def minC (a b : Nat) (k : Nat → R) : R := mB (Nat.ble a b) (k a) (k b)
theorem minC_eq (a b : Nat) (k : Nat → R) : minC a b k = k (min a b) := by
  unfold minC
  cases e : Nat.ble a b with
  | true => rw [Nat.min_eq_left (Nat.le_of_ble_eq_true e)]; rfl
  | false =>
    have : ¬ a ≤ b := fun z => by rw [Nat.ble_eq_true_of_le z] at e; cases e
    rw [Nat.min_eq_right (by omega)]; rfl
def ixC (n d : Nat) (o : Option Int) (k : Nat → R) : R := Option.rec (k d) (fun v => Int.rec (fun m => minC m n k) (fun m => mNat (Nat.sub n (Nat.succ m)) k) v) o
theorem ixC_eq (n d : Nat) (o : Option Int) (k : Nat → R) : ixC n d o k = k (HT.sIx n d o) := by
  cases o with
  | none => rfl
  | some v =>
    cases v with
    | ofNat m =>
      refine (minC_eq m n k).trans ?_
      have : HT.sIx n d (some (Int.ofNat m)) = min m n := HT.sIx_nat n d m
      rw [this]
    | negSucc m =>
      refine (mNat_eq _ k).trans ?_
      have : HT.sIx n d (some (Int.negSucc m)) = Nat.sub n (Nat.succ m) := by
        show (if Int.negSucc m < 0 then (Int.negSucc m + (n : Int)).toNat else min (Int.negSucc m).toNat n) = n - (m + 1)
        rw [if_pos (by omega)]
        omega
      rw [this]
def slC (xs : List PyData) (lo hi : Option Int) (k : List PyData → R) : R := lenC xs fun n => ixC n 0 lo fun a => ixC n n hi fun b => dropC a xs fun ys => takeC (Nat.sub b a) ys k
theorem slC_eq (xs : List PyData) (lo hi : Option Int) (k : List PyData → R) : slC xs lo hi k = k (cutG xs lo hi) := by
  unfold slC cutG
  rw [lenC_eq, ixC_eq, ixC_eq, dropC_eq, takeC_eq]
  rfl
def fSl (x : PyData) (lo hi : Option Int) (K : PyData → R) : R := mSeq x (fun xs => slC xs lo hi fun zs => K (.list zs)) (fun xs => slC xs lo hi fun zs => K (.tuple zs)) (Option.rec none K (oSl x lo hi))
theorem ok_oSl {x : PyData} {lo hi : Option Int} {K : PyData → R} {r : PyData} (h : fSl x lo hi K = some r) : ∃ z, oSl x lo hi = some z ∧ K z = some r := by
  rcases mSeq_some h with ⟨xs, ex, h1⟩ | ⟨xs, ex, h1⟩ | ⟨_, h1⟩
  · rw [slC_eq] at h1
    rw [ex]
    exact ⟨_, rfl, h1⟩
  · rw [slC_eq] at h1
    rw [ex]
    exact ⟨_, rfl, h1⟩
  · cases e : oSl x lo hi with
    | none => rw [e] at h1; cases h1
    | some z => rw [e] at h1; exact ⟨z, rfl, h1⟩
def fRev (x : PyData) (K : PyData → R) : R := mSeq x (fun xs => revC xs fun zs => K (.list zs)) (fun xs => revC xs fun zs => K (.tuple zs)) none
theorem ok_oRev : Ok1 oRev fRev := ⟨fun x K r h => by
  rcases mSeq_some h with ⟨xs, ex, h1⟩ | ⟨xs, ex, h1⟩ | ⟨_, h1⟩
  · rw [revC_eq] at h1
    rw [ex]
    exact ⟨_, rfl, h1⟩
  · rw [revC_eq] at h1
    rw [ex]
    exact ⟨_, rfl, h1⟩
  · cases h1⟩
def fNeg (x : PyData) (K : PyData → R) : R := mInt x fun i => mIntV (Int.neg i) fun j => K (.int j)
theorem ok_uNeg : Ok1 uNeg fNeg := ⟨fun x K r h => by
  obtain ⟨i, ex, h1⟩ := mInt_some h
  rw [mIntV_eq] at h1
  rw [ex]
  exact ⟨_, rfl, h1⟩⟩
theorem ok_isT (T : String) : Ok1 (isT T) (any1 (isT T)) := ok_any1 _
/-! calls of built-in functions -/
def arg1 (xs : List PyData) (k : PyData → R) : R := List.rec none (fun x t _ => List.rec (k x) (fun _ _ _ => none) t) xs
theorem arg1_some {xs : List PyData} {k : PyData → R} {r : PyData} (h : arg1 xs k = some r) : ∃ x, xs = [x] ∧ k x = some r := by
  match xs, h with
  | [x], h => exact ⟨x, rfl, h⟩
def ffLen (xs : List PyData) (K : PyData → R) : R := arg1 xs fun x => mSeq x (fun ys => lenC ys fun n => K (.int (.ofNat n))) (fun ys => lenC ys fun n => K (.int (.ofNat n))) (anyN fLen [x] K)
theorem ok_fLen : OkN fLen ffLen := ⟨fun xs K r h => by
  obtain ⟨x, ex, h1⟩ := arg1_some h
  rw [ex]
  rcases mSeq_some h1 with ⟨ys, ey, h2⟩ | ⟨ys, ey, h2⟩ | ⟨_, h2⟩
  · rw [lenC_eq] at h2
    rw [ey]
    exact ⟨_, rfl, h2⟩
  · rw [lenC_eq] at h2
    rw [ey]
    exact ⟨_, rfl, h2⟩
  · exact (ok_anyN fLen).h _ _ _ h2⟩
def ffTuple (xs : List PyData) (K : PyData → R) : R := arg1 xs fun x => mSeq x (fun ys => K (.tuple ys)) (fun ys => K (.tuple ys)) none
theorem ok_fTuple : OkN fTuple ffTuple := ⟨fun xs K r h => by
  obtain ⟨x, ex, h1⟩ := arg1_some h
  rw [ex]
  rcases mSeq_some h1 with ⟨ys, ey, h2⟩ | ⟨ys, ey, h2⟩ | ⟨_, h2⟩
  · rw [ey]; exact ⟨_, rfl, h2⟩
  · rw [ey]; exact ⟨_, rfl, h2⟩
  · cases h2⟩
def ffList (xs : List PyData) (K : PyData → R) : R := arg1 xs fun x => mSeq x (fun ys => K (.list ys)) (fun ys => K (.list ys)) none
theorem ok_fList : OkN fList ffList := ⟨fun xs K r h => by
  obtain ⟨x, ex, h1⟩ := arg1_some h
  rw [ex]
  rcases mSeq_some h1 with ⟨ys, ey, h2⟩ | ⟨ys, ey, h2⟩ | ⟨_, h2⟩
  · rw [ey]; exact ⟨_, rfl, h2⟩
  · rw [ey]; exact ⟨_, rfl, h2⟩
  · cases h2⟩
/-- an op that gives a number -/
def anyI (op : List PyData → Option PyData) (x : List PyData) (K : PyData → R) : R := Option.rec none (fun z => mInt z fun i => mIntV i fun j => K (.int j)) (op x)
theorem ok_anyI (op : List PyData → Option PyData) : OkN op (anyI op) := ⟨fun x K r h => by
  unfold anyI at h
  cases e : op x with
  | none => rw [e] at h; cases h
  | some z =>
    rw [e] at h
    obtain ⟨i, ez, h1⟩ := mInt_some h
    rw [mIntV_eq] at h1
    exact ⟨z, rfl, by rw [ez]; exact h1⟩⟩
theorem ok_fInt : OkN fInt (anyI fInt) := ok_anyI _
theorem ok_fAbs : OkN fAbs (anyI fAbs) := ok_anyI _
theorem ok_fMaxA : OkN fMaxA (anyI fMaxA) := ok_anyI _
theorem ok_fMinA : OkN fMinA (anyI fMinA) := ok_anyI _
theorem ok_fSum : OkN fSum (anyI fSum) := ok_anyI _
theorem ok_fGcd : OkN fGcd (anyI fGcd) := ok_anyI _
def anyBo (op : List PyData → Option PyData) (x : List PyData) (K : PyData → R) : R := Option.rec none (fun z => mBool z fun b => fBool b K) (op x)
theorem ok_anyBo (op : List PyData → Option PyData) : OkN op (anyBo op) := ⟨fun x K r h => by
  unfold anyBo at h
  cases e : op x with
  | none => rw [e] at h; cases h
  | some z =>
    rw [e] at h
    obtain ⟨i, ez, h1⟩ := mBool_some h
    rw [fBool_eq] at h1
    exact ⟨z, rfl, by rw [ez]; exact h1⟩⟩
theorem ok_fAll : OkN fAll (anyBo fAll) := ok_anyBo _
theorem ok_fAny : OkN fAny (anyBo fAny) := ok_anyBo _
theorem ok_fStr : OkN fStr (anyN fStr) := ok_anyN _
theorem ok_fRepr : OkN fRepr (anyN fRepr) := ok_anyN _
theorem ok_fSort : OkN fSort (anyN fSort) := ok_anyN _
def fAddI (x y : PyData) (K : PyData → R) : R := mInt x fun i => mInt y fun j => nOp Nat.add Int.add i j K
theorem ok_aAdd : Ok2 aAdd fAddI := ⟨fun x y K r h => by
  obtain ⟨i, ex, h1⟩ := mInt_some h
  obtain ⟨j, ey, h2⟩ := mInt_some h1
  rw [nOp_eq (f := Nat.add) (g := Int.add) (fun a b => rfl)] at h2
  rw [ex, ey]
  exact ⟨_, rfl, h2⟩⟩
theorem ok_aSub : Ok2 aSub fSub := ⟨fun x y K r h => by
  obtain ⟨i, ex, h1⟩ := mInt_some h
  obtain ⟨j, ey, h2⟩ := mInt_some h1
  rw [mIntV_eq] at h2
  rw [ex, ey]
  exact ⟨_, rfl, h2⟩⟩
end
end Fe
set_option Elab.async false
set_option linter.all false
set_option maxRecDepth 100000
set_option maxHeartbeats 1000000
/-! Part 21: the checker's readings of expressions and statements. -/
namespace Fe
open PySem PySem.Spec Dv
noncomputable section
variable {f g : Ex} {F G : FE} {t u : Tx} {T U : FT} {l m : Lx} {L M : FL}
def xC (d : PyData) : FE := fun _ K => K d
theorem ok_eC (d : PyData) : OkE (eC d) (xC d) := ⟨fun ρ K r h W => ⟨d, W, rfl, h⟩⟩
def xVar (i : Nat) : FE := fun ρ K => getS ρ i fun s => mSl s none K (fun xs => K (.list xs)) none
theorem ok_eVar (i : Nat) : OkE (eVar i) (xVar i) := ⟨fun ρ K r h W => by
  obtain ⟨s, e, h1⟩ := getS_some h
  unfold eVar
  rw [e]
  cases s with
  | no => cases h1
  | d x => exact ⟨x, W, rfl, h1⟩
  | own xs => exact ⟨_, W, rfl, h1⟩
  | src => cases h1⟩
def xVal (i : Nat) : FE := fun ρ K => getS ρ i fun s => mSl s none K (fun _ => none) none
theorem ok_eVal (i : Nat) : OkE (eVal i) (xVal i) := ⟨fun ρ K r h W => by
  obtain ⟨s, e, h1⟩ := getS_some h
  unfold eVal
  rw [e]
  cases s with
  | d x => exact ⟨x, W, rfl, h1⟩
  | _ => cases h1⟩
def x1 (op : PyData → (PyData → R) → R) (F : FE) : FE := fun ρ K => F ρ fun x => op x K
theorem ok_e1 {op o} (h : Ok1 op o) (a : OkE f F) : OkE (e1 op f) (x1 o F) := ⟨fun ρ K r q W => by
  obtain ⟨x, W1, e1', q1⟩ := a.h ρ _ r q W
  obtain ⟨z, e2', q2⟩ := h.h _ _ _ q1
  refine ⟨z, W1, ?_, q2⟩
  unfold e1
  rw [e1']
  simp only [e2', Option.map_some]⟩
def x2 (op : PyData → PyData → (PyData → R) → R) (F G : FE) : FE := fun ρ K => F ρ fun x => G ρ fun y => op x y K
theorem ok_e2 {op o} (h : Ok2 op o) (a : OkE f F) (b : OkE g G) : OkE (e2 op f g) (x2 o F G) := ⟨fun ρ K r q W => by
  obtain ⟨x, W1, e1', q1⟩ := a.h ρ _ r q W
  obtain ⟨y, W2, e2', q2⟩ := b.h ρ _ r q1 W1
  obtain ⟨z, e3', q3⟩ := h.h _ _ _ _ q2
  refine ⟨z, W2, ?_, q3⟩
  unfold e2
  rw [e1']
  simp only [e2', e3', Option.map_some]⟩
def xN (op : List PyData → (PyData → R) → R) (L : FL) : FE := fun ρ K => L ρ fun xs => op xs K
theorem ok_eN {op o} (h : OkN op o) (a : OkL l L) : OkE (eN op l) (xN o L) := ⟨fun ρ K r q W => by
  obtain ⟨x, W1, e1', q1⟩ := a.h ρ _ r q W
  obtain ⟨z, e3', q3⟩ := h.h _ _ _ q1
  refine ⟨z, W1, ?_, q3⟩
  unfold eN
  rw [e1']
  simp only [e3', Option.map_some]⟩
def yNil : FL := fun _ K => K []
theorem ok_lNil : OkL lNil yNil := ⟨fun ρ K r h W => ⟨[], W, rfl, h⟩⟩
def yCons (F : FE) (L : FL) : FL := fun ρ K => F ρ fun x => L ρ fun xs => K (x :: xs)
theorem ok_lCons (a : OkE f F) (b : OkL l L) : OkL (lCons f l) (yCons F L) := ⟨fun ρ K r q W => by
  obtain ⟨x, W1, e1', q1⟩ := a.h ρ _ r q W
  obtain ⟨y, W2, e2', q2⟩ := b.h ρ _ r q1 W1
  refine ⟨_, W2, ?_, q2⟩
  unfold lCons
  rw [e1']
  simp only [e2']⟩
/-- a display's length is known -/
structure LenL (l : Lx) (n : Nat) : Prop where
  h : ∀ ρ W xs W', l ρ W = some (xs, W') → xs.length = n
theorem len_nil : LenL lNil 0 := ⟨fun ρ W xs W' h => by cases h; rfl⟩
theorem len_cons {n : Nat} (h : LenL l n) : LenL (lCons f l) (n + 1) := ⟨fun ρ W xs W' q => by
  unfold lCons at q
  split at q
  · split at q
    · rename_i e
      cases q
      rw [List.length_cons, h.h _ _ _ _ e]
    · cases q
  · cases q⟩
def xTup (L : FL) : FE := fun ρ K => L ρ fun xs => K (.tuple xs)
theorem ok_tup {n : Nat} (hn : n ≤ 1000) (hl : LenL l n) (a : OkL l L) : OkE (eN oTup l) (xTup L) := ⟨fun ρ K r q W => by
  obtain ⟨x, W1, e1', q1⟩ := a.h ρ _ r q W
  refine ⟨_, W1, ?_, q1⟩
  unfold eN oTup
  have := hl.h _ _ _ _ e1'
  have := few_line
  rw [e1']
  simp only [if_pos (show x.length ≤ sizeLine by omega), Option.map_some]⟩
def xLst (L : FL) : FE := fun ρ K => L ρ fun xs => K (.list xs)
theorem ok_lst {n : Nat} (hn : n ≤ 1000) (hl : LenL l n) (a : OkL l L) : OkE (eN oLst l) (xLst L) := ⟨fun ρ K r q W => by
  obtain ⟨x, W1, e1', q1⟩ := a.h ρ _ r q W
  refine ⟨_, W1, ?_, q1⟩
  unfold eN oLst
  have := hl.h _ _ _ _ e1'
  have := few_line
  rw [e1']
  simp only [if_pos (show x.length ≤ sizeLine by omega), Option.map_some]⟩
def xIf (T : FT) (F G : FE) : FE := fun ρ K => T ρ fun b => mB b (F ρ K) (G ρ K)
theorem ok_eIf (c : OkT t T) (a : OkE f F) (b : OkE g G) : OkE (eIf t f g) (xIf T F G) := ⟨fun ρ K r q W => by
  obtain ⟨x, W1, e1', q1⟩ := c.h ρ _ r q W
  unfold eIf
  rw [e1']
  cases x with
  | true => exact a.h ρ K r q1 W1
  | false => exact b.h ρ K r q1 W1⟩
/-! tests -/
def tOfC (F : FE) : FT := fun ρ K => F ρ fun x => mBool x K
theorem ok_tOf (a : OkE f F) : OkT (tOf f) (tOfC F) := ⟨fun ρ K r q W => by
  obtain ⟨x, W1, e1', q1⟩ := a.h ρ _ r q W
  obtain ⟨b, ex, q2⟩ := mBool_some q1
  refine ⟨b, W1, ?_, q2⟩
  unfold tOf
  rw [e1', ex]⟩
def tNegC (T : FT) : FT := fun ρ K => T ρ fun b => mB b (K false) (K true)
theorem ok_tNeg (c : OkT t T) : OkT (tNeg t) (tNegC T) := ⟨fun ρ K r q W => by
  obtain ⟨x, W1, e1', q1⟩ := c.h ρ _ r q W
  refine ⟨!x, W1, ?_, ?_⟩
  · unfold tNeg
    rw [e1']
  · cases x <;> exact q1⟩
def tAndC (T U : FT) : FT := fun ρ K => T ρ fun b => mB b (U ρ K) (K false)
theorem ok_tAnd2 (c : OkT t T) (d : OkT u U) : OkT (tAnd2 t u) (tAndC T U) := ⟨fun ρ K r q W => by
  obtain ⟨x, W1, e1', q1⟩ := c.h ρ _ r q W
  unfold tAnd2
  rw [e1']
  cases x with
  | true => exact d.h ρ K r q1 W1
  | false => exact ⟨false, W1, rfl, q1⟩⟩
def tOrC (T U : FT) : FT := fun ρ K => T ρ fun b => mB b (K true) (U ρ K)
theorem ok_tOr2 (c : OkT t T) (d : OkT u U) : OkT (tOr2 t u) (tOrC T U) := ⟨fun ρ K r q W => by
  obtain ⟨x, W1, e1', q1⟩ := c.h ρ _ r q W
  unfold tOr2
  rw [e1']
  cases x with
  | true => exact ⟨true, W1, rfl, q1⟩
  | false => exact d.h ρ K r q1 W1⟩
def xOf (T : FT) : FE := fun ρ K => T ρ fun b => fBool b K
theorem ok_eOf (c : OkT t T) : OkE (eOf t) (xOf T) := ⟨fun ρ K r q W => by
  obtain ⟨x, W1, e1', q1⟩ := c.h ρ _ r q W
  rw [fBool_eq] at q1
  refine ⟨_, W1, ?_, q1⟩
  unfold eOf
  rw [e1']⟩
def xAnd (F G : FE) : FE := fun ρ K => F ρ fun x => mBool x fun b => mB b (G ρ K) (K (.bool false))
theorem ok_eAnd2 (a : OkE f F) (b : OkE g G) : OkE (eAnd2 f g) (xAnd F G) := ⟨fun ρ K r q W => by
  obtain ⟨x, W1, e1', q1⟩ := a.h ρ _ r q W
  obtain ⟨c, ex, q2⟩ := mBool_some q1
  unfold eAnd2
  rw [e1', ex]
  cases c with
  | true => exact b.h ρ K r q2 W1
  | false => exact ⟨_, W1, rfl, q2⟩⟩
def xOr (F G : FE) : FE := fun ρ K => F ρ fun x => mBool x fun b => mB b (K (.bool true)) (G ρ K)
theorem ok_eOr2 (a : OkE f F) (b : OkE g G) : OkE (eOr2 f g) (xOr F G) := ⟨fun ρ K r q W => by
  obtain ⟨x, W1, e1', q1⟩ := a.h ρ _ r q W
  obtain ⟨c, ex, q2⟩ := mBool_some q1
  unfold eOr2
  rw [e1', ex]
  cases c with
  | true => exact ⟨_, W1, rfl, q2⟩
  | false => exact b.h ρ K r q2 W1⟩
def xNot (F : FE) : FE := fun ρ K => F ρ fun x => mBool x fun b => mB b (K (.bool false)) (K (.bool true))
theorem ok_eNot (a : OkE f F) : OkE (eNot f) (xNot F) := ⟨fun ρ K r q W => by
  obtain ⟨x, W1, e1', q1⟩ := a.h ρ _ r q W
  obtain ⟨c, ex, q2⟩ := mBool_some q1
  unfold eNot
  rw [e1', ex]
  refine ⟨_, W1, rfl, ?_⟩
  cases c <;> exact q2⟩
def xChain (o p : PyData → PyData → (PyData → R) → R) (F G H : FE) : FE := fun ρ K => F ρ fun x => G ρ fun y => o x y fun c => mBool c fun b => mB b (H ρ fun z => p y z K) (K (.bool false))
theorem ok_eChain {h : Ex} {H : FE} {op op2 o p} (h1 : Ok2 op o) (h2 : Ok2 op2 p) (a : OkE f F) (b : OkE g G) (c : OkE h H) : OkE (eChain op op2 f g h) (xChain o p F G H) := ⟨fun ρ K r q W => by
  obtain ⟨x, W1, e1', q1⟩ := a.h ρ _ r q W
  obtain ⟨y, W2, e2', q2⟩ := b.h ρ _ r q1 W1
  obtain ⟨z, e3', q3⟩ := h1.h _ _ _ _ q2
  obtain ⟨d, ez, q4⟩ := mBool_some q3
  unfold eChain
  rw [e1']
  simp only [e2', e3', ez]
  cases d with
  | true =>
    obtain ⟨v, W3, e4', q5⟩ := c.h ρ _ r q4 W2
    obtain ⟨w, e5', q6⟩ := h2.h _ _ _ _ q5
    simp only [e4', e5', Option.map_some]
    exact ⟨w, W3, rfl, q6⟩
  | false => exact ⟨_, W2, rfl, q4⟩⟩
def pNoC : FP := fun _ K => K none
theorem ok_pNo : OkP pNo pNoC := ⟨fun ρ K r h W => ⟨none, W, rfl, h⟩⟩
def pOfC (F : FE) : FP := fun ρ K => F ρ fun x => mInt x fun i => K (some i)
theorem ok_pOf (a : OkE f F) : OkP (pOf f) (pOfC F) := ⟨fun ρ K r q W => by
  obtain ⟨x, W1, e1', q1⟩ := a.h ρ _ r q W
  obtain ⟨c, ex, q2⟩ := mInt_some q1
  refine ⟨some c, W1, ?_, q2⟩
  unfold pOf
  rw [e1', ex]⟩
def xSl (F : FE) (P Q : FP) : FE := fun ρ K => F ρ fun x => P ρ fun a => Q ρ fun b => fSl x a b K
theorem ok_eSl {p q : Px} {P Q : FP} (a : OkE f F) (b : OkP p P) (c : OkP q Q) : OkE (eSl f p q) (xSl F P Q) := ⟨fun ρ K r h W => by
  obtain ⟨x, W1, e1', q1⟩ := a.h ρ _ r h W
  obtain ⟨y, W2, e2', q2⟩ := b.h ρ _ r q1 W1
  obtain ⟨z, W3, e3', q3⟩ := c.h ρ _ r q2 W2
  obtain ⟨v, e4', q4⟩ := ok_oSl q3
  refine ⟨v, W3, ?_, q4⟩
  unfold eSl
  rw [e1']
  simp only [e2', e3', e4', Option.map_some]⟩
/-! calls -/
def aNilC : FA := fun _ K => K []
theorem ok_aNil : OkA aNil aNilC := ⟨fun ρ K r h W => ⟨[], W, rfl, h⟩⟩
def aConsC (F : FE) (A : FA) : FA := fun ρ K => F ρ fun x => A ρ fun xs => K (.d x :: xs)
theorem ok_aCons {a : Ax} {A : FA} (h : OkE f F) (k : OkA a A) : OkA (aCons f a) (aConsC F A) := ⟨fun ρ K r q W => by
  obtain ⟨x, W1, e1', q1⟩ := h.h ρ _ r q W
  obtain ⟨y, W2, e2', q2⟩ := k.h ρ _ r q1 W1
  refine ⟨_, W2, ?_, q2⟩
  unfold aCons
  rw [e1']
  simp only [e2']⟩
def aSrcC (i : Nat) (A : FA) : FA := fun ρ K => getS ρ i fun s => mSl s none (fun _ => none) (fun _ => none) (A ρ fun xs => K (.src :: xs))
theorem ok_aSrc {i : Nat} {a : Ax} {A : FA} (k : OkA a A) : OkA (aSrc i a) (aSrcC i A) := ⟨fun ρ K r q W => by
  obtain ⟨s, e, q1⟩ := getS_some q
  cases s with
  | src =>
    obtain ⟨y, W2, e2', q2⟩ := k.h ρ _ r q1 W
    refine ⟨_, W2, ?_, q2⟩
    unfold aSrc
    rw [e]
    simp only [e2']
  | _ => cases q1⟩
def xCall (φ : FC) (A : FA) : FE := fun ρ K => A ρ fun as => φ as K
theorem ok_eCall {φ : Ctr} {Φ : FC} {a : Ax} {A : FA} (h : OkC φ Φ) (k : OkA a A) : OkE (eCall φ a) (xCall Φ A) := ⟨fun ρ K r q W => by
  obtain ⟨y, W1, e1', q1⟩ := k.h ρ _ r q W
  obtain ⟨d, W2, e2', q2⟩ := h.h _ _ _ q1 W1
  refine ⟨d, W2, ?_, q2⟩
  unfold eCall
  rw [e1']
  exact e2'⟩
/-- what a pure def gives, once found, is passed on -/
def pureC (run : List Ar → R) : FC := fun as K => Option.rec none (fun d => K d) (run as)
theorem ok_pure {φ : Ctr} {run : List Ar → R} (h : ∀ as d, run as = some d → ∀ W, ∃ W', φ as W = some (d, W')) : OkC φ (pureC run) := ⟨fun as K r q W => by
  unfold pureC at q
  cases e : run as with
  | none => rw [e] at q; cases q
  | some d =>
    rw [e] at q
    obtain ⟨W', e'⟩ := h as d e W
    exact ⟨d, W', e', q⟩⟩
/-! targets -/
def gNC (i : Nat) : FG := fun d ρ K => setS ρ i (.d d) K
theorem ok_gN (i : Nat) : OkG (gN i) (gNC i) := ⟨fun d ρ K r h => ⟨_, rfl, setS_some h⟩⟩
def sameB (xs : List PyData) (n : Nat) : Bool := List.rec (motive := fun _ => Nat → Bool) (fun n => Nat.beq n 0) (fun _ _ ih n => Nat.rec false (fun m _ => ih m) n) xs n
theorem sameB_eq : ∀ {xs : List PyData} {n : Nat}, sameB xs n = true → xs.length = n
  | [], n, h => (Nat.eq_of_beq_eq_true h).symm
  | _ :: _, 0, h => by cases h
  | x :: xs, n + 1, h => congrArg Nat.succ (sameB_eq (xs := xs) (n := n) h)
def gTC (n : Nat) (G : FGs) : FG := fun d ρ K => mTup d fun xs => mB (sameB xs n) (G xs ρ K) none
theorem ok_gT {n : Nat} {g : Gxs} {G : FGs} (h : OkGs g G) : OkG (gT n g) (gTC n G) := ⟨fun d ρ K r q => by
  obtain ⟨xs, ed, q1⟩ := mTup_some q
  rcases mB_some q1 with ⟨c, q2⟩ | ⟨_, q2⟩
  · obtain ⟨ρ', e, q3⟩ := h.h _ _ _ _ q2
    refine ⟨ρ', ?_, q3⟩
    rw [ed]
    unfold gT
    simp only [if_pos (sameB_eq c)]
    exact e
  · cases q2⟩
def gs0C : FGs := fun xs ρ K => List.rec (K ρ) (fun _ _ _ => none) xs
theorem ok_gs0 : OkGs gs0 gs0C := ⟨fun xs ρ K r h => by
  cases xs with
  | nil => exact ⟨ρ, rfl, h⟩
  | cons _ _ => cases h⟩
def gsCC (G : FG) (Gs : FGs) : FGs := fun xs ρ K => List.rec none (fun x t _ => G x ρ fun ρ1 => Gs t ρ1 K) xs
theorem ok_gsC {g : Gx} {G : FG} {gs : Gxs} {Gs : FGs} (h : OkG g G) (k : OkGs gs Gs) : OkGs (gsC g gs) (gsCC G Gs) := ⟨fun xs ρ K r q => by
  cases xs with
  | nil => cases q
  | cons x t =>
    obtain ⟨ρ1, e1', q1⟩ := h.h _ _ _ _ q
    obtain ⟨ρ2, e2', q2⟩ := k.h _ _ _ _ q1
    refine ⟨ρ2, ?_, q2⟩
    unfold gsC
    simp only [e1', e2']⟩
/-! statements -/
variable {a b : Sx} {A B : FS}
def zNx : FS := fun ρ nx _ _ _ => nx ρ
theorem ok_s0 : OkS s0 zNx := ⟨fun ρ nx bk ct rt r h W => ⟨_, rfl, h⟩⟩
theorem ok_sPass : OkS sPass zNx := ok_s0
def zSeq (A B : FS) : FS := fun ρ nx bk ct rt => A ρ (fun ρ1 => B ρ1 nx bk ct rt) bk ct rt
theorem ok_sC (h : OkS a A) (k : OkS b B) : OkS (sC a b) (zSeq A B) := ⟨fun ρ nx bk ct rt r q W => by
  obtain ⟨o, e, q1⟩ := h.h ρ _ _ _ _ r q W
  unfold sC
  rw [e]
  cases o with
  | nx ρ1 W1 => exact k.h ρ1 _ _ _ _ r q1 W1
  | bk ρ1 W1 => exact ⟨_, rfl, q1⟩
  | ct ρ1 W1 => exact ⟨_, rfl, q1⟩
  | rt d W1 => exact ⟨_, rfl, q1⟩⟩
def zBk : FS := fun ρ _ bk _ _ => bk ρ
theorem ok_sBreak : OkS sBreak zBk := ⟨fun ρ nx bk ct rt r h W => ⟨_, rfl, h⟩⟩
def zCt : FS := fun ρ _ _ ct _ => ct ρ
theorem ok_sCont : OkS sCont zCt := ⟨fun ρ nx bk ct rt r h W => ⟨_, rfl, h⟩⟩
def zNo : FS := fun _ _ _ _ _ => none
theorem ok_sStuck : OkS sStuck zNo := ⟨fun ρ nx bk ct rt r h W => by cases h⟩
def zRet (F : FE) : FS := fun ρ _ _ _ rt => F ρ rt
theorem ok_sRet (h : OkE f F) : OkS (sRet f) (zRet F) := ⟨fun ρ nx bk ct rt r q W => by
  obtain ⟨x, W1, e1', q1⟩ := h.h ρ _ r q W
  refine ⟨.rt x W1, ?_, q1⟩
  unfold sRet
  rw [e1']⟩
def zRetN : FS := fun _ _ _ _ rt => rt .none
theorem ok_sRetN : OkS sRetN zRetN := ⟨fun ρ nx bk ct rt r h W => ⟨_, rfl, h⟩⟩
def zIf (T : FT) (A B : FS) : FS := fun ρ nx bk ct rt => T ρ fun c => mB c (A ρ nx bk ct rt) (B ρ nx bk ct rt)
theorem ok_sIf (c : OkT t T) (h : OkS a A) (k : OkS b B) : OkS (sIf t a b) (zIf T A B) := ⟨fun ρ nx bk ct rt r q W => by
  obtain ⟨x, W1, e1', q1⟩ := c.h ρ _ r q W
  unfold sIf
  rw [e1']
  cases x with
  | true => exact h.h _ _ _ _ _ _ q1 W1
  | false => exact k.h _ _ _ _ _ _ q1 W1⟩
def zDrop (F : FE) : FS := fun ρ nx _ _ _ => F ρ fun _ => nx ρ
theorem ok_sDrop (h : OkE f F) : OkS (sDrop f) (zDrop F) := ⟨fun ρ nx bk ct rt r q W => by
  obtain ⟨x, W1, e1', q1⟩ := h.h ρ _ r q W
  refine ⟨.nx ρ W1, ?_, q1⟩
  unfold sDrop
  rw [e1']⟩
def zSet (G : FG) (F : FE) : FS := fun ρ nx _ _ _ => F ρ fun d => G d ρ nx
theorem ok_sSet {g : Gx} {G : FG} (k : OkG g G) (h : OkE f F) : OkS (sSet g f) (zSet G F) := ⟨fun ρ nx bk ct rt r q W => by
  obtain ⟨x, W1, e1', q1⟩ := h.h ρ _ r q W
  obtain ⟨ρ1, e2', q2⟩ := k.h _ _ _ _ q1
  refine ⟨.nx ρ1 W1, ?_, q2⟩
  unfold sSet
  rw [e1']
  simp only [e2']⟩
def newS (d : PyData) (k : Sl → R) : R := mSeq d (fun xs => k (.own xs)) (fun _ => k (.d d)) (k (.d d))
def zNew (i : Nat) (F : FE) : FS := fun ρ nx _ _ _ => F ρ fun d => newS d fun s => setS ρ i s nx
theorem ok_sNew {i : Nat} (h : OkE f F) : OkS (sNew i f) (zNew i F) := ⟨fun ρ nx bk ct rt r q W => by
  obtain ⟨x, W1, e1', q1⟩ := h.h ρ _ r q W
  unfold sNew
  rw [e1']
  cases x with
  | list xs => exact ⟨_, rfl, setS_some q1⟩
  | _ => exact ⟨_, rfl, setS_some q1⟩⟩
theorem ok_sPut_t {i : Nat} (h : OkE f F) : OkS (sPut true i f) (zNew i F) := ok_sNew h
theorem ok_sPut_f {i : Nat} (h : OkE f F) : OkS (sPut false i f) (zSet (gNC i) F) := ok_sSet (ok_gN i) h
def frzC (i : Nat) (ρ : Rho) (k : Rho → R) : R := getS ρ i fun s => mSl s (k ρ) (fun _ => k ρ) (fun xs => setS ρ i (.d (.list xs)) k) (k ρ)
theorem frzC_some {i : Nat} {ρ : Rho} {k : Rho → R} {r : PyData} (h : frzC i ρ k = some r) : k (frz i ρ) = some r := by
  obtain ⟨s, e, h1⟩ := getS_some h
  unfold frz
  rw [e]
  cases s with
  | own xs => exact setS_some h1
  | _ => exact h1
def frzsC (is : List Nat) (ρ : Rho) (k : Rho → R) : R := List.rec (motive := fun _ => Rho → R) (fun ρ => k ρ) (fun i _ ih ρ => frzC i ρ ih) is ρ
theorem frzsC_some {k : Rho → R} {r : PyData} : ∀ {is : List Nat} {ρ : Rho}, frzsC is ρ k = some r → k (frzs is ρ) = some r
  | [], _, h => h
  | i :: is, ρ, h => frzsC_some (is := is) (frzC_some (i := i) (k := fun ρ => frzsC is ρ k) h)
def zFrz (is : List Nat) (A : FS) : FS := fun ρ nx bk ct rt => frzsC is ρ fun ρ1 => A ρ1 nx bk ct rt
theorem ok_sFrz {is : List Nat} (h : OkS a A) : OkS (sFrz is a) (zFrz is A) := ⟨fun ρ nx bk ct rt r q W => h.h _ _ _ _ _ _ (frzsC_some q) W⟩
def wipC (is : List Nat) (ρ : Rho) (k : Rho → R) : R := List.rec (motive := fun _ => (Rho → R) → R) (fun k => k ρ) (fun i _ ih k => ih fun ρ1 => setS ρ1 i .no k) is k
theorem wipC_some {ρ : Rho} {r : PyData} : ∀ {is : List Nat} {k : Rho → R}, wipC is ρ k = some r → k (wipeR ρ is) = some r
  | [], _, h => h
  | i :: is, k, h => setS_some (wipC_some (is := is) (k := fun ρ1 => setS ρ1 i .no k) h)
def zAfter (is : List Nat) (A : FS) : FS := fun ρ nx bk ct rt => A ρ (fun ρ1 => wipC is ρ1 nx) bk ct rt
theorem ok_sAfter {is : List Nat} (h : OkS a A) : OkS (sAfter is a) (zAfter is A) := ⟨fun ρ nx bk ct rt r q W => by
  obtain ⟨o, e, q1⟩ := h.h ρ _ _ _ _ r q W
  unfold sAfter
  rw [e]
  cases o with
  | nx ρ1 W1 => exact ⟨_, rfl, wipC_some q1⟩
  | bk ρ1 W1 => exact ⟨_, rfl, q1⟩
  | ct ρ1 W1 => exact ⟨_, rfl, q1⟩
  | rt d W1 => exact ⟨_, rfl, q1⟩⟩
def ownS (ρ : Rho) (i : Nat) (k : List PyData → R) : R := getS ρ i fun s => mSl s none (fun _ => none) k none
theorem ownS_some {ρ : Rho} {i : Nat} {k : List PyData → R} {r : PyData} (h : ownS ρ i k = some r) : ∃ xs, ρ[i]? = some (.own xs) ∧ k xs = some r := by
  obtain ⟨s, e, h1⟩ := getS_some h
  cases s with
  | own xs => exact ⟨xs, e, h1⟩
  | _ => cases h1
def zApp (i : Nat) (F : FE) : FS := fun ρ nx _ _ _ => F ρ fun d => ownS ρ i fun xs => few xs (appC xs [d] fun zs => setS ρ i (.own zs) nx)
theorem ok_sApp {i : Nat} (h : OkE f F) : OkS (sApp i f) (zApp i F) := ⟨fun ρ nx bk ct rt r q W => by
  obtain ⟨x, W1, e1', q1⟩ := h.h ρ _ r q W
  obtain ⟨xs, e2', q2⟩ := ownS_some q1
  obtain ⟨hl, q3⟩ := few_some q2
  rw [appC_eq] at q3
  have := few_line
  refine ⟨.nx (ρ.set i (.own (xs ++ [x]))) W1, ?_, setS_some q3⟩
  unfold sApp
  rw [e1']
  simp only [e2', if_pos (show xs.length < sizeLine by omega)]⟩
def yItems (F : FE) : FL := fun ρ K => F ρ fun d => mSeq d K K none
theorem ok_iSeq (h : OkE f F) : OkL (iSeq f) (yItems F) := ⟨fun ρ K r q W => by
  obtain ⟨x, W1, e1', q1⟩ := h.h ρ _ r q W
  unfold iSeq
  rw [e1']
  rcases mSeq_some q1 with ⟨xs, ex, h1⟩ | ⟨xs, ex, h1⟩ | ⟨_, h1⟩
  · rw [ex]; exact ⟨xs, W1, rfl, h1⟩
  · rw [ex]; exact ⟨xs, W1, rfl, h1⟩
  · cases h1⟩
def zExt (i : Nat) (F : FE) : FS := fun ρ nx _ _ _ => yItems F ρ fun ds => ownS ρ i fun xs => few xs (few ds (appC xs ds fun zs => setS ρ i (.own zs) nx))
theorem ok_sExt {i : Nat} (h : OkE f F) : OkS (sExt i f) (zExt i F) := ⟨fun ρ nx bk ct rt r q W => by
  obtain ⟨x, W1, e1', q1⟩ := (ok_iSeq h).h ρ _ r q W
  obtain ⟨xs, e2', q2⟩ := ownS_some q1
  obtain ⟨hl, q3⟩ := few_some q2
  obtain ⟨hl2, q4⟩ := few_some q3
  rw [appC_eq] at q4
  have := few_line
  refine ⟨.nx (ρ.set i (.own (xs ++ x))) W1, ?_, setS_some q4⟩
  unfold sExt
  rw [e1']
  simp only [e2', if_pos (show xs.length + x.length ≤ sizeLine by omega)]⟩
def zPop (j i : Nat) : FS := fun ρ nx _ _ _ => ownS ρ i fun xs => revC xs fun ys => List.rec none (fun d t _ => revC t fun zs => setS ρ i (.own zs) fun ρ1 => setS ρ1 j (.d d) nx) ys
theorem ok_sPop {j i : Nat} : OkS (sPop j i) (zPop j i) := ⟨fun ρ nx bk ct rt r q W => by
  obtain ⟨xs, e2', q2⟩ := ownS_some q
  rw [revC_eq] at q2
  cases er : xs.reverse with
  | nil => rw [er] at q2; cases q2
  | cons d t =>
    rw [er] at q2
    have q3 : (revC t fun zs => setS ρ i (.own zs) fun ρ1 => setS ρ1 j (.d d) nx) = some r := q2
    rw [revC_eq] at q3
    have ex : xs = t.reverse ++ [d] := by
      have := congrArg List.reverse er
      rw [List.reverse_reverse, List.reverse_cons] at this
      exact this
    have q4 := setS_some (setS_some q3)
    refine ⟨.nx ((ρ.set i (.own xs.dropLast)).set j (.d d)) W, ?_, ?_⟩
    · unfold sPop
      rw [e2']
      have hx : xs[xs.length - 1]? = some d := by rw [ex]; simp
      simp only [hx]
    · have hd : xs.dropLast = t.reverse := by rw [ex]; simp
      rw [hd]
      exact q4⟩
def zPopAt (j i : Nat) (F : FE) : FS := fun ρ nx _ _ _ => F ρ fun k => mInt k fun m => ownS ρ i fun xs => few xs (Int.rec (fun n => nthC xs n fun d => takeC n xs fun ys => dropC (Nat.succ n) xs fun zs => appC ys zs fun ws => setS ρ i (.own ws) fun ρ1 => setS ρ1 j (.d d) nx) (fun _ => none) m)
theorem ok_sPopAt {j i : Nat} (h : OkE f F) : OkS (sPopAt j i f) (zPopAt j i F) := ⟨fun ρ nx bk ct rt r q W => by
  obtain ⟨x, W1, e1', q1⟩ := h.h ρ _ r q W
  obtain ⟨m, ex, q2⟩ := mInt_some q1
  obtain ⟨xs, e2', q3⟩ := ownS_some q2
  obtain ⟨hl, q4⟩ := few_some q3
  cases m with
  | negSucc n => cases q4
  | ofNat n =>
    have q5 : (nthC xs n fun d => takeC n xs fun ys => dropC (Nat.succ n) xs fun zs => appC ys zs fun ws => setS ρ i (.own ws) fun ρ1 => setS ρ1 j (.d d) nx) = some r := q4
    obtain ⟨d, ed, q6⟩ := nthC_some q5
    rw [takeC_eq, dropC_eq, appC_eq] at q6
    have hlt : n < xs.length := (List.getElem?_eq_some_iff.mp ed).1
    have q7 := setS_some (setS_some q6)
    have := few_line
    refine ⟨.nx ((ρ.set i (.own (xs.eraseIdx n))).set j (.d d)) W1, ?_, ?_⟩
    · unfold sPopAt
      rw [e1', ex]
      simp only [e2', Int.ofNat_eq_natCast, Int.toNat_natCast, if_pos (show (0 : Int) ≤ (n : Int) ∧ (n : Int) < (xs.length : Int) ∧ xs.length ≤ sizeLine by omega), ed]
    · have : xs.eraseIdx n = xs.take n ++ xs.drop (n + 1) := List.eraseIdx_eq_take_drop_succ xs n
      rw [this]
      exact q7⟩
def zAug (i : Nat) (op : PyData → PyData → (PyData → R) → R) (F : FE) : FS := fun ρ nx _ _ _ => getS ρ i fun s => mSl s none (fun x => F ρ fun y => op x y fun z => setS ρ i (.d z) nx) (fun _ => none) none
theorem ok_sAug {i : Nat} {op o} (k : Ok2 op o) (h : OkE f F) : OkS (sAug i op f) (zAug i o F) := ⟨fun ρ nx bk ct rt r q W => by
  obtain ⟨s, e, q0⟩ := getS_some q
  cases s with
  | d x =>
    obtain ⟨y, W1, e1', q1⟩ := h.h ρ _ r q0 W
    obtain ⟨z, e2', q2⟩ := k.h _ _ _ _ q1
    refine ⟨.nx (ρ.set i (.d z)) W1, ?_, setS_some q2⟩
    unfold sAug
    rw [e]
    simp only [e1', e2']
  | _ => cases q0⟩
end
end Fe
set_option Elab.async false
set_option linter.all false
set_option maxRecDepth 100000
set_option maxHeartbeats 1000000
/-! Part 22: the checker's loops, calls, draws. -/
namespace Fe
open PySem PySem.Spec Dv
noncomputable section
variable {f g : Ex} {F G : FE} {t u : Tx} {T U : FT} {l m : Lx} {L M : FL} {a b : Sx} {A B : FS}
/-- lo, lo + 1, .. -/
def rngF (lo n : Nat) (k : List PyData → R) : R := Nat.rec (motive := fun _ => Nat → (List PyData → R) → R) (fun _ k => k []) (fun _ ih lo k => mNat (Nat.succ lo) fun lo1 => ih lo1 fun r => k (.int (.ofNat lo) :: r)) n lo k
theorem rng_succ (lo : Int) (n : Nat) : rng lo (n + 1) = .int lo :: rng (lo + 1) n := by
  unfold rng
  rw [List.range_succ_eq_map, List.map_cons, List.map_map]
  congr 1
  · simp
  · refine List.map_congr_left fun k _ => ?_
    show PyData.int (lo + ((k + 1 : Nat) : Int)) = PyData.int (lo + 1 + (k : Int))
    congr 1
    omega
theorem rngF_eq : ∀ (n lo : Nat) (k : List PyData → R), rngF lo n k = k (rng (lo : Int) n)
  | 0, lo, k => rfl
  | n + 1, lo, k => by
    rw [rng_succ]
    show (mNat (Nat.succ lo) fun lo1 => rngF lo1 n fun r => k (.int (.ofNat lo) :: r)) = _
    rw [mNat_eq]
    exact (rngF_eq n (Nat.succ lo) _)
def y1 (F : FE) : FL := fun ρ K => F ρ fun x => mInt x fun i => Int.rec (fun n => mB (Nat.ble n 1000000) (rngF 0 n K) none) (fun n => mB (Nat.ble n 1000000) (K []) none) i
theorem ok_iR1 (h : OkE f F) : OkL (iR1 f) (y1 F) := ⟨fun ρ K r q W => by
  obtain ⟨x, W1, e1', q1⟩ := h.h ρ _ r q W
  obtain ⟨i, ex, q2⟩ := mInt_some q1
  unfold iR1
  rw [e1', ex]
  cases i with
  | ofNat n =>
    rcases mB_some q2 with ⟨c, q3⟩ | ⟨_, q3⟩
    · rw [rngF_eq] at q3
      have c' := Nat.le_of_ble_eq_true c
      refine ⟨_, W1, ?_, q3⟩
      have : big62 (Int.ofNat n) = true := by
        unfold big62
        rw [Bool.and_eq_true, decide_eq_true_eq, decide_eq_true_eq, Int.ofNat_eq_natCast]
        omega
      exact if_pos this
    · cases q3
  | negSucc n =>
    rcases mB_some q2 with ⟨c, q3⟩ | ⟨_, q3⟩
    · have c' := Nat.le_of_ble_eq_true c
      refine ⟨[], W1, ?_, q3⟩
      have : big62 (Int.negSucc n) = true := by
        unfold big62
        rw [Bool.and_eq_true, decide_eq_true_eq, decide_eq_true_eq]
        omega
      exact if_pos this
    · cases q3⟩
def y2 (F G : FE) : FL := fun ρ K => F ρ fun x => G ρ fun y => mInt x fun i => mInt y fun j =>
  Int.rec (fun a => Int.rec (fun b => mB (Nat.ble a 1000000) (mB (Nat.ble b 1000000) (mNat (Nat.sub b a) fun n => rngF a n K) none) none) (fun _ => none) j) (fun _ => none) i
theorem ok_iR2 (h : OkE f F) (k : OkE g G) : OkL (iR2 f g) (y2 F G) := ⟨fun ρ K r q W => by
  obtain ⟨x, W1, e1', q1⟩ := h.h ρ _ r q W
  obtain ⟨y, W2, e2', q1'⟩ := k.h ρ _ r q1 W1
  obtain ⟨i, ex, q2⟩ := mInt_some q1'
  obtain ⟨j, ey, q3⟩ := mInt_some q2
  unfold iR2
  rw [e1', ex]
  simp only [e2', ey]
  cases i with
  | negSucc _ => cases q3
  | ofNat a => cases j with
    | negSucc _ => cases q3
    | ofNat b =>
      rcases mB_some q3 with ⟨c, q4⟩ | ⟨_, q4⟩
      · rcases mB_some q4 with ⟨c2, q5⟩ | ⟨_, q5⟩
        · rw [mNat_eq, rngF_eq] at q5
          have c' := Nat.le_of_ble_eq_true c
          have c2' := Nat.le_of_ble_eq_true c2
          refine ⟨_, W2, ?_, q5⟩
          have b1 : big62 (Int.ofNat a) = true := by
            unfold big62
            rw [Bool.and_eq_true, decide_eq_true_eq, decide_eq_true_eq, Int.ofNat_eq_natCast]
            omega
          have b2 : big62 (Int.ofNat b) = true := by
            unfold big62
            rw [Bool.and_eq_true, decide_eq_true_eq, decide_eq_true_eq, Int.ofNat_eq_natCast]
            omega
          have e : ((Int.ofNat b) - (Int.ofNat a)).toNat = Nat.sub b a := by
            show _ = b - a
            rw [Int.ofNat_eq_natCast, Int.ofNat_eq_natCast]
            omega
          rw [if_pos ⟨b1, b2⟩, e]
          rfl
        · cases q5
      · cases q4⟩
/-- an iteration that is not made faster: all items are looked into first -/
def deepI (xs : List PyData) (k : List PyData → R) : R := List.rec (motive := fun _ => (List PyData → R) → R) (fun k => k []) (fun x _ ih k => mInt x fun i => mIntV i fun j => ih fun r => k (.int j :: r)) xs k
theorem deepI_some : ∀ {xs : List PyData} {k : List PyData → R} {r : PyData}, deepI xs k = some r → k xs = some r
  | [], _, _, h => h
  | x :: xs, k, r, h => by
    obtain ⟨i, ex, h1⟩ := mInt_some h
    rw [mIntV_eq] at h1
    rw [ex]
    exact deepI_some (xs := xs) (k := fun r => k (.int i :: r)) h1
def y3 (L : FL) : FL := fun ρ K => L ρ fun xs => Option.rec none (fun ds => deepI ds K) (oR3 xs)
theorem ok_iR3 (h : OkL l L) : OkL (iR3 l) (y3 L) := ⟨fun ρ K r q W => by
  obtain ⟨x, W1, e1', q1⟩ := h.h ρ _ r q W
  unfold iR3
  rw [e1']
  cases e : oR3 x with
  | none => rw [e] at q1; cases q1
  | some ds =>
    rw [e] at q1
    exact ⟨ds, W1, by simp only [e, Option.map_some], deepI_some q1⟩⟩
def enumF (n : Nat) (xs : List PyData) (k : List PyData → R) : R := List.rec (motive := fun _ => Nat → (List PyData → R) → R) (fun _ k => k []) (fun x _ ih n k => mNat (Nat.succ n) fun n1 => ih n1 fun r => k (.tuple [.int (.ofNat n), x] :: r)) xs n k
theorem enumF_eq : ∀ (xs : List PyData) (n : Nat) (k : List PyData → R), enumF n xs k = k (enumD n xs)
  | [], _, _ => rfl
  | x :: xs, n, k => by
    show (mNat (Nat.succ n) fun n1 => enumF n1 xs fun r => k (.tuple [.int (.ofNat n), x] :: r)) = _
    rw [mNat_eq]
    exact enumF_eq xs (Nat.succ n) _
def yEn (F : FE) : FL := fun ρ K => F ρ fun d => mSeq d (fun xs => enumF 0 xs K) (fun xs => enumF 0 xs K) none
theorem ok_iEn (h : OkE f F) : OkL (iEn f) (yEn F) := ⟨fun ρ K r q W => by
  obtain ⟨x, W1, e1', q1⟩ := h.h ρ _ r q W
  unfold iEn
  rw [e1']
  rcases mSeq_some q1 with ⟨xs, ex, h1⟩ | ⟨xs, ex, h1⟩ | ⟨_, h1⟩
  · rw [enumF_eq] at h1
    rw [ex]; exact ⟨_, W1, rfl, h1⟩
  · rw [enumF_eq] at h1
    rw [ex]; exact ⟨_, W1, rfl, h1⟩
  · cases h1⟩
/-- pairs; where both must end at once, they do -/
def zipF (s : Bool) (xs ys : List PyData) (k : List PyData → R) : R := List.rec (motive := fun _ => List PyData → (List PyData → R) → R)
  (fun ys k => List.rec (k []) (fun _ _ _ => mB s none (k [])) ys) (fun x _ ih ys k => List.rec (mB s none (k [])) (fun y t _ => ih t fun r => k (.tuple [x, y] :: r)) ys) xs ys k
theorem zipF_some {s : Bool} : ∀ {xs ys : List PyData} {k : List PyData → R} {r : PyData}, zipF s xs ys k = some r → k (zipD xs ys) = some r ∧ (s = true → xs.length = ys.length)
  | [], [], _, _, h => ⟨h, fun _ => rfl⟩
  | [], y :: ys, k, r, h => by
    rcases mB_some h with ⟨_, h1⟩ | ⟨c, h1⟩
    · cases h1
    · exact ⟨h1, fun z => by rw [c] at z; cases z⟩
  | x :: xs, [], k, r, h => by
    rcases mB_some h with ⟨_, h1⟩ | ⟨c, h1⟩
    · cases h1
    · exact ⟨h1, fun z => by rw [c] at z; cases z⟩
  | x :: xs, y :: ys, k, r, h => by
    obtain ⟨h1, h2⟩ := zipF_some (xs := xs) (ys := ys) (k := fun r => k (.tuple [x, y] :: r)) h
    exact ⟨h1, fun z => by rw [List.length_cons, List.length_cons, h2 z]⟩
def itemsK (d : PyData) (k : List PyData → R) : R := mSeq d k k none
theorem itemsK_some {d : PyData} {k : List PyData → R} {r : PyData} (h : itemsK d k = some r) : ∃ xs, seqOf d = some xs ∧ k xs = some r := by
  rcases mSeq_some h with ⟨xs, ex, h1⟩ | ⟨xs, ex, h1⟩ | ⟨_, h1⟩
  · rw [ex]; exact ⟨xs, rfl, h1⟩
  · rw [ex]; exact ⟨xs, rfl, h1⟩
  · cases h1
def yZp (s : Bool) (F G : FE) : FL := fun ρ K => F ρ fun d => G ρ fun e => itemsK d fun xs => itemsK e fun ys => zipF s xs ys K
theorem ok_iZp {s : Bool} (h : OkE f F) (k : OkE g G) : OkL (iZp s f g) (yZp s F G) := ⟨fun ρ K r q W => by
  obtain ⟨x, W1, e1', q1⟩ := h.h ρ _ r q W
  obtain ⟨y, W2, e2', q2⟩ := k.h ρ _ r q1 W1
  obtain ⟨xs, e3', q3⟩ := itemsK_some q2
  obtain ⟨ys, e4', q4⟩ := itemsK_some q3
  obtain ⟨q5, q6⟩ := zipF_some q4
  refine ⟨_, W2, ?_, q5⟩
  unfold iZp
  rw [e1']
  simp only [e2', e3', e4']
  refine if_neg fun z => z.2 (q6 z.1)⟩
/-! loops -/
def forC (G : FG) (B : FS) (ds : List PyData) : Rho → (Rho → R) → (PyData → R) → R :=
  List.rec (motive := fun _ => Rho → (Rho → R) → (PyData → R) → R) (fun ρ nx _ => nx ρ) (fun d _ ih ρ nx rt => G d ρ fun ρ1 => B ρ1 (fun ρ2 => ih ρ2 nx rt) nx (fun ρ2 => ih ρ2 nx rt) rt) ds
theorem forC_ok {g : Gx} {G : FG} (hg : OkG g G) (hb : OkS b B) {bk ct : Rho → R} : ∀ (ds : List PyData) (ρ : Rho) (nx : Rho → R) (rt : PyData → R) (r : PyData), forC G B ds ρ nx rt = some r → ∀ W, ∃ o, forL g b ds ρ W = some o ∧ EndOk nx bk ct rt r o
  | [], ρ, nx, rt, r, h, W => ⟨_, rfl, h⟩
  | d :: ds, ρ, nx, rt, r, h, W => by
    have h' : (G d ρ fun ρ1 => B ρ1 (fun ρ2 => forC G B ds ρ2 nx rt) nx (fun ρ2 => forC G B ds ρ2 nx rt) rt) = some r := h
    obtain ⟨ρ1, e1', q1⟩ := hg.h _ _ _ _ h'
    obtain ⟨o, e2', q2⟩ := hb.h _ _ _ _ _ _ q1 W
    unfold forL
    simp only [e1', e2']
    cases o with
    | nx ρ2 W2 => exact forC_ok hg hb ds ρ2 nx rt r q2 W2
    | ct ρ2 W2 => exact forC_ok hg hb ds ρ2 nx rt r q2 W2
    | bk ρ2 W2 => exact ⟨_, rfl, q2⟩
    | rt x W2 => exact ⟨_, rfl, q2⟩
def zFor (L : FL) (G : FG) (B : FS) : FS := fun ρ nx _ _ rt => L ρ fun ds => forC G B ds ρ nx rt
theorem ok_sFor {g : Gx} {G : FG} (h : OkL l L) (hg : OkG g G) (hb : OkS b B) : OkS (sFor l g b) (zFor L G B) := ⟨fun ρ nx bk ct rt r q W => by
  obtain ⟨x, W1, e1', q1⟩ := h.h ρ _ r q W
  unfold sFor
  rw [e1']
  exact forC_ok hg hb x ρ nx rt r q1 W1⟩
def whC (is : List Nat) (T : FT) (B : FS) (n : Nat) : Rho → (Rho → R) → (PyData → R) → R :=
  Nat.rec (motive := fun _ => Rho → (Rho → R) → (PyData → R) → R) (fun _ _ _ => none)
    (fun _ ih ρ nx rt => frzsC is ρ fun ρ1 => T ρ1 fun c => mB c (B ρ1 (fun ρ2 => ih ρ2 nx rt) nx (fun ρ2 => ih ρ2 nx rt) rt) (nx ρ1)) n
theorem whC_ok {is : List Nat} (ht : OkT t T) (hb : OkS b B) {bk ct : Rho → R} : ∀ (n : Nat) (ρ : Rho) (nx : Rho → R) (rt : PyData → R) (r : PyData), whC is T B n ρ nx rt = some r → ∀ W, ∃ o, whL is t b n ρ W = some o ∧ EndOk nx bk ct rt r o
  | 0, ρ, nx, rt, r, h, W => by cases h
  | n + 1, ρ, nx, rt, r, h, W => by
    have h' : (frzsC is ρ fun ρ1 => T ρ1 fun c => mB c (B ρ1 (fun ρ2 => whC is T B n ρ2 nx rt) nx (fun ρ2 => whC is T B n ρ2 nx rt) rt) (nx ρ1)) = some r := h
    have q0 := frzsC_some h'
    obtain ⟨c, W1, e1', q1⟩ := ht.h _ _ _ q0 W
    unfold whL
    rw [e1']
    cases c with
    | false => exact ⟨_, rfl, q1⟩
    | true =>
      obtain ⟨o, e2', q2⟩ := hb.h _ _ _ _ _ _ q1 W1
      simp only [e2']
      cases o with
      | nx ρ2 W2 => exact whC_ok ht hb n ρ2 nx rt r q2 W2
      | ct ρ2 W2 => exact whC_ok ht hb n ρ2 nx rt r q2 W2
      | bk ρ2 W2 => exact ⟨_, rfl, q2⟩
      | rt x W2 => exact ⟨_, rfl, q2⟩
def zWh (is : List Nat) (T : FT) (B : FS) (n : Nat) : FS := fun ρ nx _ _ rt => whC is T B n ρ nx rt
theorem ok_whL {is : List Nat} {n : Nat} (ht : OkT t T) (hb : OkS b B) : OkS (whL is t b n) (zWh is T B n) := ⟨fun ρ nx bk ct rt r q W => whC_ok ht hb n ρ nx rt r q W⟩
def tYsC : FT := fun _ K => K true
theorem ok_tYs : OkT tYs tYsC := ⟨fun ρ K r h W => ⟨true, W, rfl, h⟩⟩
def cmpC (G : FG) (T : FT) (F : FE) (ρ : Rho) (ds : List PyData) : (List PyData → R) → R :=
  List.rec (motive := fun _ => (List PyData → R) → R) (fun k => k []) (fun d _ ih k => G d ρ fun ρ1 => T ρ1 fun c => mB c (F ρ1 fun x => ih fun xs => k (x :: xs)) (ih k)) ds
theorem cmpC_ok {g : Gx} {G : FG} (hg : OkG g G) (ht : OkT t T) (hf : OkE f F) {ρ : Rho} : ∀ (ds acc : List PyData) (k : List PyData → R) (r : PyData), cmpC G T F ρ ds k = some r → acc.length + ds.length ≤ sizeLine → ∀ W, ∃ xs W', cmpL g t f ρ ds acc W = some (acc ++ xs, W') ∧ k xs = some r
  | [], acc, k, r, h, _, W => ⟨[], W, by unfold cmpL; rw [List.append_nil], h⟩
  | d :: ds, acc, k, r, h, hl, W => by
    rw [List.length_cons] at hl
    have h' : (G d ρ fun ρ1 => T ρ1 fun c => mB c (F ρ1 fun x => cmpC G T F ρ ds fun xs => k (x :: xs)) (cmpC G T F ρ ds k)) = some r := h
    obtain ⟨ρ1, e1', q1⟩ := hg.h _ _ _ _ h'
    obtain ⟨c, W1, e2', q2⟩ := ht.h _ _ _ q1 W
    unfold cmpL
    simp only [e1', e2']
    cases c with
    | false => exact cmpC_ok hg ht hf ds acc k r q2 (by omega) W1
    | true =>
      obtain ⟨x, W2, e3', q3⟩ := hf.h _ _ _ q2 W1
      obtain ⟨xs, W3, e4', q4⟩ := cmpC_ok hg ht hf ds (acc ++ [x]) (fun xs => k (x :: xs)) r q3 (by rw [List.length_append, List.length_singleton]; omega) W2
      simp only [e3', if_pos (show acc.length < sizeLine by omega)]
      refine ⟨x :: xs, W3, ?_, q4⟩
      rw [e4', List.append_assoc]
      rfl
def xComp (is : List Nat) (L : FL) (G : FG) (T : FT) (F : FE) : FE := fun ρ K => L ρ fun ds => few ds (wipC is ρ fun ρ1 => cmpC G T F ρ1 ds fun xs => K (.list xs))
theorem ok_eComp {is : List Nat} {g : Gx} {G : FG} (h : OkL l L) (hg : OkG g G) (ht : OkT t T) (hf : OkE f F) : OkE (eComp is l g t f) (xComp is L G T F) := ⟨fun ρ K r q W => by
  obtain ⟨ds, W1, e1', q1⟩ := h.h ρ _ r q W
  obtain ⟨hl, q2⟩ := few_some q1
  have q3 := wipC_some q2
  have := few_line
  obtain ⟨xs, W2, e2', q4⟩ := cmpC_ok hg ht hf ds [] _ r q3 (by rw [List.length_nil]; omega) W1
  refine ⟨_, W2, ?_, q4⟩
  unfold eComp
  rw [e1']
  rw [List.nil_append] at e2'
  simp only [e2']⟩
/-! a, b = x, y -/
def putC (n : Bool) (i : Nat) (d : PyData) (ρ : Rho) (k : Rho → R) : R := mB n (newS d fun s => setS ρ i s k) (setS ρ i (.d d) k)
theorem putC_some {n : Bool} {i : Nat} {d : PyData} {ρ : Rho} {k : Rho → R} {r : PyData} (h : putC n i d ρ k = some r) : k (put n i d ρ) = some r := by
  cases n with
  | false => cases d <;> exact setS_some h
  | true => cases d <;> exact setS_some h
def putsC (is : List Nat) : List Bool → List PyData → Rho → (Rho → R) → R :=
  List.rec (motive := fun _ => List Bool → List PyData → Rho → (Rho → R) → R) (fun ns ds ρ k => List.rec (List.rec (k ρ) (fun _ _ _ => none) ds) (fun _ _ _ => none) ns)
    (fun i _ ih ns ds ρ k => List.rec none (fun n nt _ => List.rec none (fun d dt _ => putC n i d ρ fun ρ1 => ih nt dt ρ1 k) ds) ns) is
theorem putsC_some {r : PyData} : ∀ {is : List Nat} {ns : List Bool} {ds : List PyData} {ρ : Rho} {k : Rho → R}, putsC is ns ds ρ k = some r → ∃ ρ1, puts is ns ds ρ = some ρ1 ∧ k ρ1 = some r
  | [], [], [], ρ, k, h => ⟨ρ, rfl, h⟩
  | [], [], _ :: _, ρ, k, h => by cases h
  | [], _ :: _, _, ρ, k, h => by cases h
  | _ :: _, [], _, ρ, k, h => by cases h
  | _ :: _, _ :: _, [], ρ, k, h => by cases h
  | i :: is, n :: ns, d :: ds, ρ, k, h => by
    have h1 := putC_some (n := n) (i := i) (d := d) (ρ := ρ) (k := fun ρ1 => putsC is ns ds ρ1 k) h
    obtain ⟨ρ1, e, q⟩ := putsC_some h1
    exact ⟨ρ1, e, q⟩
def zPars (is : List Nat) (ns : List Bool) (L : FL) : FS := fun ρ nx _ _ _ => L ρ fun ds => putsC is ns ds ρ nx
theorem ok_sPars {is : List Nat} {fs : List Nx} {ns : List Bool} (h : OkL (lx fs) L) (e : fs.map (·.1) = ns) : OkS (sPars is fs) (zPars is ns L) := ⟨fun ρ nx bk ct rt r q W => by
  obtain ⟨ds, W1, e1', q1⟩ := h.h ρ _ r q W
  obtain ⟨ρ1, e2', q2⟩ := putsC_some q1
  refine ⟨.nx ρ1 W1, ?_, q2⟩
  unfold sPars
  rw [e1', e]
  simp only [e2']⟩
/-! defs -/
def endC (K : PyData → R) : (Rho → R) := fun _ => K .none
/-- a def's slots at its start -/
def argsC (as : List Ar) (m : Nat) (k : Rho → R) : R := List.rec (motive := fun _ => Nat → (Rho → R) → R)
  (fun m k => Nat.rec (motive := fun _ => (Rho → R) → R) (fun k => k []) (fun _ ih k => ih fun r => k (.no :: r)) m k)
  (fun x _ ih m k => Nat.rec none (fun j _ => Ar.rec (fun d => ih j fun r => k (.d d :: r)) (ih j fun r => k (.src :: r)) x) m) as m k
theorem nos_eq : ∀ (m : Nat) (k : Rho → R), (Nat.rec (motive := fun _ => (Rho → R) → R) (fun k => k []) (fun _ ih k => ih fun r => k (.no :: r)) m k : R) = k (List.replicate m .no)
  | 0, k => rfl
  | m + 1, k => (nos_eq m fun r => k (.no :: r)).trans rfl
theorem argsC_some {r : PyData} : ∀ {as : List Ar} {m : Nat} {k : Rho → R}, argsC as m k = some r → k (as.map slOf ++ List.replicate (m - as.length) .no) = some r
  | [], m, k, h => by
    have h' := (nos_eq m k).symm.trans h
    exact h'
  | x :: as, 0, k, h => by cases h
  | x :: as, m + 1, k, h => by
    have e : m + 1 - (x :: as).length = m - as.length := by rw [List.length_cons]; omega
    rw [e, List.map_cons]
    cases x with
    | d d => exact argsC_some (as := as) (m := m) (k := fun r => k (.d d :: r)) h
    | src => exact argsC_some (as := as) (m := m) (k := fun r => k (.src :: r)) h
def lenAr (as : List Ar) (n : Nat) : Bool := List.rec (motive := fun _ => Nat → Bool) (fun n => Nat.beq n 0) (fun _ _ ih n => Nat.rec false (fun m _ => ih m) n) as n
theorem lenAr_eq : ∀ {as : List Ar} {n : Nat}, lenAr as n = true → as.length = n
  | [], n, h => (Nat.eq_of_beq_eq_true h).symm
  | _ :: _, 0, h => by cases h
  | x :: xs, n + 1, h => congrArg Nat.succ (lenAr_eq (as := xs) (n := n) h)
def defC (n m : Nat) (A : FS) : FC := fun as K => mB (lenAr as n) (argsC as m fun ρ => A ρ (endC K) (fun _ => none) (fun _ => none) K) none
theorem ok_def {n m : Nat} (h : OkS a A) : OkC (wfn n m a) (defC n m A) := ⟨fun as K r q W => by
  rcases mB_some q with ⟨c, q1⟩ | ⟨_, q1⟩
  · have q2 := argsC_some q1
    obtain ⟨o, e, q3⟩ := h.h _ _ _ _ _ _ q2 W
    unfold wfn
    rw [if_pos (lenAr_eq c), e]
    cases o with
    | nx ρ W1 => exact ⟨_, W1, rfl, q3⟩
    | rt d W1 => exact ⟨d, W1, rfl, q3⟩
    | bk ρ W1 => cases q3
    | ct ρ W1 => cases q3
  · cases q1⟩
/-- a def that asks the source for nothing: its worth is found once -/
def runC (n m : Nat) (A : FS) (as : List Ar) : R := defC n m A as some
theorem ok_run {n m : Nat} (h : OkS a A) : OkC (wfn n m a) (pureC (runC n m A)) := ok_pure fun as d q W => by
  obtain ⟨d', W', e, q1⟩ := (ok_def (n := n) (m := m) h).h as some d q W
  cases q1
  exact ⟨W', e⟩
/-! draws: whatever is drawn, the end is True -/
def isYes (r e : R) : R := Option.rec none (fun d => mBool d fun b => mB b e none) r
theorem isYes_some {x e : R} {r : PyData} (h : isYes x e = some r) : x = some (.bool true) ∧ e = some r := by
  unfold isYes at h
  cases x with
  | none => cases h
  | some d =>
    obtain ⟨b, ed, h1⟩ := mBool_some h
    rcases mB_some h1 with ⟨c, h2⟩ | ⟨_, h2⟩
    · rw [ed, c]
      exact ⟨rfl, h2⟩
    · cases h2
def allC (K : PyData → R) (n : Nat) : R := Nat.rec (some (.bool true)) (fun j ih => isYes (K (.int (.ofNat j))) ih) n
theorem allC_some {K : PyData → R} : ∀ {n : Nat} {r : PyData}, allC K n = some r → r = .bool true ∧ ∀ j, j < n → K (.int (.ofNat j)) = some (.bool true)
  | 0, r, h => by
    cases h
    exact ⟨rfl, fun j hj => absurd hj (Nat.not_lt_zero j)⟩
  | n + 1, r, h => by
    obtain ⟨h1, h2⟩ := isYes_some h
    obtain ⟨h3, h4⟩ := allC_some h2
    refine ⟨h3, fun j hj => ?_⟩
    rcases Nat.lt_succ_iff_lt_or_eq.mp hj with z | z
    · exact h4 j z
    · rw [z]; exact h1
def drawC (x : PyData) (K : PyData → R) : R := mInt x fun i => Int.rec (fun n => mB (Nat.ble 1 n) (mB (Nat.ble n 999999999) (allC K n) none) none) (fun _ => none) i
theorem drawC_some {x : PyData} {K : PyData → R} {r : PyData} (h : drawC x K = some r) : ∃ n : Nat, x = .int (.ofNat n) ∧ 1 ≤ n ∧ n ≤ 999999999 ∧ r = .bool true ∧ ∀ j, j < n → K (.int (.ofNat j)) = some (.bool true) := by
  obtain ⟨i, ex, q1⟩ := mInt_some h
  cases i with
  | negSucc n => cases q1
  | ofNat n =>
    rcases mB_some q1 with ⟨c, q2⟩ | ⟨_, q2⟩
    · rcases mB_some q2 with ⟨c2, q3⟩ | ⟨_, q3⟩
      · obtain ⟨h1, h2⟩ := allC_some q3
        exact ⟨n, ex, Nat.le_of_ble_eq_true c, Nat.le_of_ble_eq_true c2, h1, h2⟩
      · cases q3
    · cases q2
def pickC : FC := fun as K => mB (lenAr as 2) (List.rec none (fun s t _ => Ar.rec (fun _ => none) (List.rec none (fun d _ _ => Ar.rec (fun x => drawC x K) none d) t) s) as) none
theorem ok_pick : OkC cPick pickC := ⟨fun as K r q W => by
  rcases mB_some q with ⟨c, q1⟩ | ⟨_, q1⟩
  · have hl := lenAr_eq c
    match as, hl, q1 with
    | [.src, .d x], _, q1 =>
      obtain ⟨n, ex, n1, n2, er, hk⟩ := drawC_some q1
      have lo := pickF_low (n : Int) W
      have hi := pickF_lt (many := (n : Int)) W (by omega)
      obtain ⟨j, ej⟩ : ∃ j : Nat, (pickF (n : Int) W).1 = (j : Int) := ⟨(pickF (n : Int) W).1.toNat, by omega⟩
      refine ⟨.int (pickF (n : Int) W).1, (pickF (n : Int) W).2, ?_, ?_⟩
      · rw [ex]
        have : pickOk (Int.ofNat n) = true := pickOk_lt.mpr (by rw [Int.ofNat_eq_natCast]; omega)
        unfold cPick
        simp only [this, if_true]
        rfl
      · rw [ej, er]
        exact hk j (by omega)
    | [.d _, _], _, q1 => cases q1
    | [.src, .src], _, q1 => cases q1
  · cases q1⟩
/-- the law -/
theorem law_of {n : Nat} (h : OkS a A) (c : A (stL n) (fun _ => none) (fun _ => none) (fun _ => none) some = some (.bool true)) : ∀ W : Src, ∃ W', a (stL n) W = some (.rt (.bool true) W') := fun W => by
  obtain ⟨o, e, q⟩ := h.h _ _ _ _ _ _ c W
  cases o with
  | rt d W' =>
    cases q
    exact ⟨W', e⟩
  | nx ρ W' => cases q
  | bk ρ W' => cases q
  | ct ρ W' => cases q
end
end Fe
set_option Elab.async false
set_option linter.all false
set_option maxRecDepth 100000
set_option maxHeartbeats 1000000
/-! Part 23: slots by their numbers, calls by how many are handed on (printed by mk23.py). -/
namespace Fe
open PySem PySem.Spec Dv
noncomputable section
variable {f g : Ex} {F G : FE} {t u : Tx} {T U : FT} {l m : Lx} {L M : FL} {a b : Sx} {A B : FS}
def at0 (k : Sl → R) (ρ : Rho) : R := List.rec (motive := fun _ => R) none (fun s _ _ => k s) ρ
theorem at0_eq : ∀ (ρ : Rho) (k : Sl → R), at0 k ρ = getS ρ 0 k
  | [], _ => rfl
  | _ :: _, _ => rfl
def set0 (x : Sl) (k : Rho → R) (t : Rho) : R := List.rec (motive := fun _ => R) none (fun _ t _ => k (x :: t)) t
theorem set0_eq : ∀ (ρ : Rho) (x : Sl) (k : Rho → R), set0 x k ρ = setS ρ 0 x k
  | [], _, _ => rfl
  | _ :: _, _, _ => rfl
def var0 : FE := fun ρ K => at0 (fun s => mSl s none K (fun xs => K (.list xs)) none) ρ
theorem ok_var0 : OkE (eVar 0) var0 := ⟨fun ρ K r h W => (ok_eVar 0).h ρ K r ((at0_eq ρ _).symm.trans h) W⟩
def val0 : FE := fun ρ K => at0 (fun s => mSl s none K (fun _ => none) none) ρ
theorem ok_val0 : OkE (eVal 0) val0 := ⟨fun ρ K r h W => (ok_eVal 0).h ρ K r ((at0_eq ρ _).symm.trans h) W⟩
def gn0 : FG := fun d ρ K => set0 (.d d) K ρ
theorem ok_gn0 : OkG (gN 0) gn0 := ⟨fun d ρ K r h => (ok_gN 0).h d ρ K r ((set0_eq ρ _ K).symm.trans h)⟩
def zS0 (F : FE) : FS := fun ρ nx _ _ _ => F ρ fun d => set0 (.d d) nx ρ
theorem ok_zS0 (h : OkE f F) : OkS (sSet (gN 0) f) (zS0 F) := ok_sSet ok_gn0 h
theorem ok_zSf0 (h : OkE f F) : OkS (sPut false 0 f) (zS0 F) := ok_zS0 h
def zN0 (F : FE) : FS := fun ρ nx _ _ _ => F ρ fun d => newS d fun s => set0 s nx ρ
theorem newS_some0 {d : PyData} {ρ : Rho} {nx : Rho → R} {r : PyData} (h : newS d (fun s => set0 s nx ρ) = some r) : newS d (fun s => setS ρ 0 s nx) = some r := by
  unfold newS at h ⊢
  simp only [set0_eq] at h
  exact h
theorem ok_zN0 (h : OkE f F) : OkS (sNew 0 f) (zN0 F) := ⟨fun ρ nx bk ct rt r q W => (ok_sNew (i := 0) ⟨fun ρ K r q W => h.h ρ K r q W⟩).h ρ nx bk ct rt r (by
  have e : zN0 F ρ nx bk ct rt = zNew 0 F ρ nx bk ct rt := by
    unfold zN0 zNew newS
    simp only [set0_eq]
  exact e.symm.trans q) W⟩
theorem ok_zNt0 (h : OkE f F) : OkS (sPut true 0 f) (zN0 F) := ok_zN0 h
def at1 (k : Sl → R) (ρ : Rho) : R := List.rec (motive := fun _ => R) none (fun _ t _ => List.rec (motive := fun _ => R) none (fun s _ _ => k s) t) ρ
theorem at1_eq : ∀ (ρ : Rho) (k : Sl → R), at1 k ρ = getS ρ 1 k
  | [], _ => rfl
  | _ :: t, k => at0_eq t k
def set1 (x : Sl) (k : Rho → R) (t : Rho) : R := List.rec (motive := fun _ => R) none (fun s0 t _ => List.rec (motive := fun _ => R) none (fun _ t _ => k (s0 :: x :: t)) t) t
theorem set1_eq : ∀ (ρ : Rho) (x : Sl) (k : Rho → R), set1 x k ρ = setS ρ 1 x k
  | [], _, _ => rfl
  | s :: t, x, k => set0_eq t x fun t' => k (s :: t')
def var1 : FE := fun ρ K => at1 (fun s => mSl s none K (fun xs => K (.list xs)) none) ρ
theorem ok_var1 : OkE (eVar 1) var1 := ⟨fun ρ K r h W => (ok_eVar 1).h ρ K r ((at1_eq ρ _).symm.trans h) W⟩
def val1 : FE := fun ρ K => at1 (fun s => mSl s none K (fun _ => none) none) ρ
theorem ok_val1 : OkE (eVal 1) val1 := ⟨fun ρ K r h W => (ok_eVal 1).h ρ K r ((at1_eq ρ _).symm.trans h) W⟩
def gn1 : FG := fun d ρ K => set1 (.d d) K ρ
theorem ok_gn1 : OkG (gN 1) gn1 := ⟨fun d ρ K r h => (ok_gN 1).h d ρ K r ((set1_eq ρ _ K).symm.trans h)⟩
def zS1 (F : FE) : FS := fun ρ nx _ _ _ => F ρ fun d => set1 (.d d) nx ρ
theorem ok_zS1 (h : OkE f F) : OkS (sSet (gN 1) f) (zS1 F) := ok_sSet ok_gn1 h
theorem ok_zSf1 (h : OkE f F) : OkS (sPut false 1 f) (zS1 F) := ok_zS1 h
def zN1 (F : FE) : FS := fun ρ nx _ _ _ => F ρ fun d => newS d fun s => set1 s nx ρ
theorem newS_some1 {d : PyData} {ρ : Rho} {nx : Rho → R} {r : PyData} (h : newS d (fun s => set1 s nx ρ) = some r) : newS d (fun s => setS ρ 1 s nx) = some r := by
  unfold newS at h ⊢
  simp only [set1_eq] at h
  exact h
theorem ok_zN1 (h : OkE f F) : OkS (sNew 1 f) (zN1 F) := ⟨fun ρ nx bk ct rt r q W => (ok_sNew (i := 1) ⟨fun ρ K r q W => h.h ρ K r q W⟩).h ρ nx bk ct rt r (by
  have e : zN1 F ρ nx bk ct rt = zNew 1 F ρ nx bk ct rt := by
    unfold zN1 zNew newS
    simp only [set1_eq]
  exact e.symm.trans q) W⟩
theorem ok_zNt1 (h : OkE f F) : OkS (sPut true 1 f) (zN1 F) := ok_zN1 h
def at2 (k : Sl → R) (ρ : Rho) : R := List.rec (motive := fun _ => R) none (fun _ t _ => List.rec (motive := fun _ => R) none (fun _ t _ => List.rec (motive := fun _ => R) none (fun s _ _ => k s) t) t) ρ
theorem at2_eq : ∀ (ρ : Rho) (k : Sl → R), at2 k ρ = getS ρ 2 k
  | [], _ => rfl
  | _ :: t, k => at1_eq t k
def set2 (x : Sl) (k : Rho → R) (t : Rho) : R := List.rec (motive := fun _ => R) none (fun s0 t _ => List.rec (motive := fun _ => R) none (fun s1 t _ => List.rec (motive := fun _ => R) none (fun _ t _ => k (s0 :: s1 :: x :: t)) t) t) t
theorem set2_eq : ∀ (ρ : Rho) (x : Sl) (k : Rho → R), set2 x k ρ = setS ρ 2 x k
  | [], _, _ => rfl
  | s :: t, x, k => set1_eq t x fun t' => k (s :: t')
def var2 : FE := fun ρ K => at2 (fun s => mSl s none K (fun xs => K (.list xs)) none) ρ
theorem ok_var2 : OkE (eVar 2) var2 := ⟨fun ρ K r h W => (ok_eVar 2).h ρ K r ((at2_eq ρ _).symm.trans h) W⟩
def val2 : FE := fun ρ K => at2 (fun s => mSl s none K (fun _ => none) none) ρ
theorem ok_val2 : OkE (eVal 2) val2 := ⟨fun ρ K r h W => (ok_eVal 2).h ρ K r ((at2_eq ρ _).symm.trans h) W⟩
def gn2 : FG := fun d ρ K => set2 (.d d) K ρ
theorem ok_gn2 : OkG (gN 2) gn2 := ⟨fun d ρ K r h => (ok_gN 2).h d ρ K r ((set2_eq ρ _ K).symm.trans h)⟩
def zS2 (F : FE) : FS := fun ρ nx _ _ _ => F ρ fun d => set2 (.d d) nx ρ
theorem ok_zS2 (h : OkE f F) : OkS (sSet (gN 2) f) (zS2 F) := ok_sSet ok_gn2 h
theorem ok_zSf2 (h : OkE f F) : OkS (sPut false 2 f) (zS2 F) := ok_zS2 h
def zN2 (F : FE) : FS := fun ρ nx _ _ _ => F ρ fun d => newS d fun s => set2 s nx ρ
theorem newS_some2 {d : PyData} {ρ : Rho} {nx : Rho → R} {r : PyData} (h : newS d (fun s => set2 s nx ρ) = some r) : newS d (fun s => setS ρ 2 s nx) = some r := by
  unfold newS at h ⊢
  simp only [set2_eq] at h
  exact h
theorem ok_zN2 (h : OkE f F) : OkS (sNew 2 f) (zN2 F) := ⟨fun ρ nx bk ct rt r q W => (ok_sNew (i := 2) ⟨fun ρ K r q W => h.h ρ K r q W⟩).h ρ nx bk ct rt r (by
  have e : zN2 F ρ nx bk ct rt = zNew 2 F ρ nx bk ct rt := by
    unfold zN2 zNew newS
    simp only [set2_eq]
  exact e.symm.trans q) W⟩
theorem ok_zNt2 (h : OkE f F) : OkS (sPut true 2 f) (zN2 F) := ok_zN2 h
def at3 (k : Sl → R) (ρ : Rho) : R := List.rec (motive := fun _ => R) none (fun _ t _ => List.rec (motive := fun _ => R) none (fun _ t _ => List.rec (motive := fun _ => R) none (fun _ t _ => List.rec (motive := fun _ => R) none (fun s _ _ => k s) t) t) t) ρ
theorem at3_eq : ∀ (ρ : Rho) (k : Sl → R), at3 k ρ = getS ρ 3 k
  | [], _ => rfl
  | _ :: t, k => at2_eq t k
def set3 (x : Sl) (k : Rho → R) (t : Rho) : R := List.rec (motive := fun _ => R) none (fun s0 t _ => List.rec (motive := fun _ => R) none (fun s1 t _ => List.rec (motive := fun _ => R) none (fun s2 t _ => List.rec (motive := fun _ => R) none (fun _ t _ => k (s0 :: s1 :: s2 :: x :: t)) t) t) t) t
theorem set3_eq : ∀ (ρ : Rho) (x : Sl) (k : Rho → R), set3 x k ρ = setS ρ 3 x k
  | [], _, _ => rfl
  | s :: t, x, k => set2_eq t x fun t' => k (s :: t')
def var3 : FE := fun ρ K => at3 (fun s => mSl s none K (fun xs => K (.list xs)) none) ρ
theorem ok_var3 : OkE (eVar 3) var3 := ⟨fun ρ K r h W => (ok_eVar 3).h ρ K r ((at3_eq ρ _).symm.trans h) W⟩
def val3 : FE := fun ρ K => at3 (fun s => mSl s none K (fun _ => none) none) ρ
theorem ok_val3 : OkE (eVal 3) val3 := ⟨fun ρ K r h W => (ok_eVal 3).h ρ K r ((at3_eq ρ _).symm.trans h) W⟩
def gn3 : FG := fun d ρ K => set3 (.d d) K ρ
theorem ok_gn3 : OkG (gN 3) gn3 := ⟨fun d ρ K r h => (ok_gN 3).h d ρ K r ((set3_eq ρ _ K).symm.trans h)⟩
def zS3 (F : FE) : FS := fun ρ nx _ _ _ => F ρ fun d => set3 (.d d) nx ρ
theorem ok_zS3 (h : OkE f F) : OkS (sSet (gN 3) f) (zS3 F) := ok_sSet ok_gn3 h
theorem ok_zSf3 (h : OkE f F) : OkS (sPut false 3 f) (zS3 F) := ok_zS3 h
def zN3 (F : FE) : FS := fun ρ nx _ _ _ => F ρ fun d => newS d fun s => set3 s nx ρ
theorem newS_some3 {d : PyData} {ρ : Rho} {nx : Rho → R} {r : PyData} (h : newS d (fun s => set3 s nx ρ) = some r) : newS d (fun s => setS ρ 3 s nx) = some r := by
  unfold newS at h ⊢
  simp only [set3_eq] at h
  exact h
theorem ok_zN3 (h : OkE f F) : OkS (sNew 3 f) (zN3 F) := ⟨fun ρ nx bk ct rt r q W => (ok_sNew (i := 3) ⟨fun ρ K r q W => h.h ρ K r q W⟩).h ρ nx bk ct rt r (by
  have e : zN3 F ρ nx bk ct rt = zNew 3 F ρ nx bk ct rt := by
    unfold zN3 zNew newS
    simp only [set3_eq]
  exact e.symm.trans q) W⟩
theorem ok_zNt3 (h : OkE f F) : OkS (sPut true 3 f) (zN3 F) := ok_zN3 h
def at4 (k : Sl → R) (ρ : Rho) : R := List.rec (motive := fun _ => R) none (fun _ t _ => List.rec (motive := fun _ => R) none (fun _ t _ => List.rec (motive := fun _ => R) none (fun _ t _ => List.rec (motive := fun _ => R) none (fun _ t _ => List.rec (motive := fun _ => R) none (fun s _ _ => k s) t) t) t) t) ρ
theorem at4_eq : ∀ (ρ : Rho) (k : Sl → R), at4 k ρ = getS ρ 4 k
  | [], _ => rfl
  | _ :: t, k => at3_eq t k
def set4 (x : Sl) (k : Rho → R) (t : Rho) : R := List.rec (motive := fun _ => R) none (fun s0 t _ => List.rec (motive := fun _ => R) none (fun s1 t _ => List.rec (motive := fun _ => R) none (fun s2 t _ => List.rec (motive := fun _ => R) none (fun s3 t _ => List.rec (motive := fun _ => R) none (fun _ t _ => k (s0 :: s1 :: s2 :: s3 :: x :: t)) t) t) t) t) t
theorem set4_eq : ∀ (ρ : Rho) (x : Sl) (k : Rho → R), set4 x k ρ = setS ρ 4 x k
  | [], _, _ => rfl
  | s :: t, x, k => set3_eq t x fun t' => k (s :: t')
def var4 : FE := fun ρ K => at4 (fun s => mSl s none K (fun xs => K (.list xs)) none) ρ
theorem ok_var4 : OkE (eVar 4) var4 := ⟨fun ρ K r h W => (ok_eVar 4).h ρ K r ((at4_eq ρ _).symm.trans h) W⟩
def val4 : FE := fun ρ K => at4 (fun s => mSl s none K (fun _ => none) none) ρ
theorem ok_val4 : OkE (eVal 4) val4 := ⟨fun ρ K r h W => (ok_eVal 4).h ρ K r ((at4_eq ρ _).symm.trans h) W⟩
def gn4 : FG := fun d ρ K => set4 (.d d) K ρ
theorem ok_gn4 : OkG (gN 4) gn4 := ⟨fun d ρ K r h => (ok_gN 4).h d ρ K r ((set4_eq ρ _ K).symm.trans h)⟩
def zS4 (F : FE) : FS := fun ρ nx _ _ _ => F ρ fun d => set4 (.d d) nx ρ
theorem ok_zS4 (h : OkE f F) : OkS (sSet (gN 4) f) (zS4 F) := ok_sSet ok_gn4 h
theorem ok_zSf4 (h : OkE f F) : OkS (sPut false 4 f) (zS4 F) := ok_zS4 h
def zN4 (F : FE) : FS := fun ρ nx _ _ _ => F ρ fun d => newS d fun s => set4 s nx ρ
theorem newS_some4 {d : PyData} {ρ : Rho} {nx : Rho → R} {r : PyData} (h : newS d (fun s => set4 s nx ρ) = some r) : newS d (fun s => setS ρ 4 s nx) = some r := by
  unfold newS at h ⊢
  simp only [set4_eq] at h
  exact h
theorem ok_zN4 (h : OkE f F) : OkS (sNew 4 f) (zN4 F) := ⟨fun ρ nx bk ct rt r q W => (ok_sNew (i := 4) ⟨fun ρ K r q W => h.h ρ K r q W⟩).h ρ nx bk ct rt r (by
  have e : zN4 F ρ nx bk ct rt = zNew 4 F ρ nx bk ct rt := by
    unfold zN4 zNew newS
    simp only [set4_eq]
  exact e.symm.trans q) W⟩
theorem ok_zNt4 (h : OkE f F) : OkS (sPut true 4 f) (zN4 F) := ok_zN4 h
def at5 (k : Sl → R) (ρ : Rho) : R := List.rec (motive := fun _ => R) none (fun _ t _ => List.rec (motive := fun _ => R) none (fun _ t _ => List.rec (motive := fun _ => R) none (fun _ t _ => List.rec (motive := fun _ => R) none (fun _ t _ => List.rec (motive := fun _ => R) none (fun _ t _ => List.rec (motive := fun _ => R) none (fun s _ _ => k s) t) t) t) t) t) ρ
theorem at5_eq : ∀ (ρ : Rho) (k : Sl → R), at5 k ρ = getS ρ 5 k
  | [], _ => rfl
  | _ :: t, k => at4_eq t k
def set5 (x : Sl) (k : Rho → R) (t : Rho) : R := List.rec (motive := fun _ => R) none (fun s0 t _ => List.rec (motive := fun _ => R) none (fun s1 t _ => List.rec (motive := fun _ => R) none (fun s2 t _ => List.rec (motive := fun _ => R) none (fun s3 t _ => List.rec (motive := fun _ => R) none (fun s4 t _ => List.rec (motive := fun _ => R) none (fun _ t _ => k (s0 :: s1 :: s2 :: s3 :: s4 :: x :: t)) t) t) t) t) t) t
theorem set5_eq : ∀ (ρ : Rho) (x : Sl) (k : Rho → R), set5 x k ρ = setS ρ 5 x k
  | [], _, _ => rfl
  | s :: t, x, k => set4_eq t x fun t' => k (s :: t')
def var5 : FE := fun ρ K => at5 (fun s => mSl s none K (fun xs => K (.list xs)) none) ρ
theorem ok_var5 : OkE (eVar 5) var5 := ⟨fun ρ K r h W => (ok_eVar 5).h ρ K r ((at5_eq ρ _).symm.trans h) W⟩
def val5 : FE := fun ρ K => at5 (fun s => mSl s none K (fun _ => none) none) ρ
theorem ok_val5 : OkE (eVal 5) val5 := ⟨fun ρ K r h W => (ok_eVal 5).h ρ K r ((at5_eq ρ _).symm.trans h) W⟩
def gn5 : FG := fun d ρ K => set5 (.d d) K ρ
theorem ok_gn5 : OkG (gN 5) gn5 := ⟨fun d ρ K r h => (ok_gN 5).h d ρ K r ((set5_eq ρ _ K).symm.trans h)⟩
def zS5 (F : FE) : FS := fun ρ nx _ _ _ => F ρ fun d => set5 (.d d) nx ρ
theorem ok_zS5 (h : OkE f F) : OkS (sSet (gN 5) f) (zS5 F) := ok_sSet ok_gn5 h
theorem ok_zSf5 (h : OkE f F) : OkS (sPut false 5 f) (zS5 F) := ok_zS5 h
def zN5 (F : FE) : FS := fun ρ nx _ _ _ => F ρ fun d => newS d fun s => set5 s nx ρ
theorem newS_some5 {d : PyData} {ρ : Rho} {nx : Rho → R} {r : PyData} (h : newS d (fun s => set5 s nx ρ) = some r) : newS d (fun s => setS ρ 5 s nx) = some r := by
  unfold newS at h ⊢
  simp only [set5_eq] at h
  exact h
theorem ok_zN5 (h : OkE f F) : OkS (sNew 5 f) (zN5 F) := ⟨fun ρ nx bk ct rt r q W => (ok_sNew (i := 5) ⟨fun ρ K r q W => h.h ρ K r q W⟩).h ρ nx bk ct rt r (by
  have e : zN5 F ρ nx bk ct rt = zNew 5 F ρ nx bk ct rt := by
    unfold zN5 zNew newS
    simp only [set5_eq]
  exact e.symm.trans q) W⟩
theorem ok_zNt5 (h : OkE f F) : OkS (sPut true 5 f) (zN5 F) := ok_zN5 h
def at6 (k : Sl → R) (ρ : Rho) : R := List.rec (motive := fun _ => R) none (fun _ t _ => List.rec (motive := fun _ => R) none (fun _ t _ => List.rec (motive := fun _ => R) none (fun _ t _ => List.rec (motive := fun _ => R) none (fun _ t _ => List.rec (motive := fun _ => R) none (fun _ t _ => List.rec (motive := fun _ => R) none (fun _ t _ => List.rec (motive := fun _ => R) none (fun s _ _ => k s) t) t) t) t) t) t) ρ
theorem at6_eq : ∀ (ρ : Rho) (k : Sl → R), at6 k ρ = getS ρ 6 k
  | [], _ => rfl
  | _ :: t, k => at5_eq t k
def set6 (x : Sl) (k : Rho → R) (t : Rho) : R := List.rec (motive := fun _ => R) none (fun s0 t _ => List.rec (motive := fun _ => R) none (fun s1 t _ => List.rec (motive := fun _ => R) none (fun s2 t _ => List.rec (motive := fun _ => R) none (fun s3 t _ => List.rec (motive := fun _ => R) none (fun s4 t _ => List.rec (motive := fun _ => R) none (fun s5 t _ => List.rec (motive := fun _ => R) none (fun _ t _ => k (s0 :: s1 :: s2 :: s3 :: s4 :: s5 :: x :: t)) t) t) t) t) t) t) t
theorem set6_eq : ∀ (ρ : Rho) (x : Sl) (k : Rho → R), set6 x k ρ = setS ρ 6 x k
  | [], _, _ => rfl
  | s :: t, x, k => set5_eq t x fun t' => k (s :: t')
def var6 : FE := fun ρ K => at6 (fun s => mSl s none K (fun xs => K (.list xs)) none) ρ
theorem ok_var6 : OkE (eVar 6) var6 := ⟨fun ρ K r h W => (ok_eVar 6).h ρ K r ((at6_eq ρ _).symm.trans h) W⟩
def val6 : FE := fun ρ K => at6 (fun s => mSl s none K (fun _ => none) none) ρ
theorem ok_val6 : OkE (eVal 6) val6 := ⟨fun ρ K r h W => (ok_eVal 6).h ρ K r ((at6_eq ρ _).symm.trans h) W⟩
def gn6 : FG := fun d ρ K => set6 (.d d) K ρ
theorem ok_gn6 : OkG (gN 6) gn6 := ⟨fun d ρ K r h => (ok_gN 6).h d ρ K r ((set6_eq ρ _ K).symm.trans h)⟩
def zS6 (F : FE) : FS := fun ρ nx _ _ _ => F ρ fun d => set6 (.d d) nx ρ
theorem ok_zS6 (h : OkE f F) : OkS (sSet (gN 6) f) (zS6 F) := ok_sSet ok_gn6 h
theorem ok_zSf6 (h : OkE f F) : OkS (sPut false 6 f) (zS6 F) := ok_zS6 h
def zN6 (F : FE) : FS := fun ρ nx _ _ _ => F ρ fun d => newS d fun s => set6 s nx ρ
theorem newS_some6 {d : PyData} {ρ : Rho} {nx : Rho → R} {r : PyData} (h : newS d (fun s => set6 s nx ρ) = some r) : newS d (fun s => setS ρ 6 s nx) = some r := by
  unfold newS at h ⊢
  simp only [set6_eq] at h
  exact h
theorem ok_zN6 (h : OkE f F) : OkS (sNew 6 f) (zN6 F) := ⟨fun ρ nx bk ct rt r q W => (ok_sNew (i := 6) ⟨fun ρ K r q W => h.h ρ K r q W⟩).h ρ nx bk ct rt r (by
  have e : zN6 F ρ nx bk ct rt = zNew 6 F ρ nx bk ct rt := by
    unfold zN6 zNew newS
    simp only [set6_eq]
  exact e.symm.trans q) W⟩
theorem ok_zNt6 (h : OkE f F) : OkS (sPut true 6 f) (zN6 F) := ok_zN6 h
def at7 (k : Sl → R) (ρ : Rho) : R := List.rec (motive := fun _ => R) none (fun _ t _ => List.rec (motive := fun _ => R) none (fun _ t _ => List.rec (motive := fun _ => R) none (fun _ t _ => List.rec (motive := fun _ => R) none (fun _ t _ => List.rec (motive := fun _ => R) none (fun _ t _ => List.rec (motive := fun _ => R) none (fun _ t _ => List.rec (motive := fun _ => R) none (fun _ t _ => List.rec (motive := fun _ => R) none (fun s _ _ => k s) t) t) t) t) t) t) t) ρ
theorem at7_eq : ∀ (ρ : Rho) (k : Sl → R), at7 k ρ = getS ρ 7 k
  | [], _ => rfl
  | _ :: t, k => at6_eq t k
def set7 (x : Sl) (k : Rho → R) (t : Rho) : R := List.rec (motive := fun _ => R) none (fun s0 t _ => List.rec (motive := fun _ => R) none (fun s1 t _ => List.rec (motive := fun _ => R) none (fun s2 t _ => List.rec (motive := fun _ => R) none (fun s3 t _ => List.rec (motive := fun _ => R) none (fun s4 t _ => List.rec (motive := fun _ => R) none (fun s5 t _ => List.rec (motive := fun _ => R) none (fun s6 t _ => List.rec (motive := fun _ => R) none (fun _ t _ => k (s0 :: s1 :: s2 :: s3 :: s4 :: s5 :: s6 :: x :: t)) t) t) t) t) t) t) t) t
theorem set7_eq : ∀ (ρ : Rho) (x : Sl) (k : Rho → R), set7 x k ρ = setS ρ 7 x k
  | [], _, _ => rfl
  | s :: t, x, k => set6_eq t x fun t' => k (s :: t')
def var7 : FE := fun ρ K => at7 (fun s => mSl s none K (fun xs => K (.list xs)) none) ρ
theorem ok_var7 : OkE (eVar 7) var7 := ⟨fun ρ K r h W => (ok_eVar 7).h ρ K r ((at7_eq ρ _).symm.trans h) W⟩
def val7 : FE := fun ρ K => at7 (fun s => mSl s none K (fun _ => none) none) ρ
theorem ok_val7 : OkE (eVal 7) val7 := ⟨fun ρ K r h W => (ok_eVal 7).h ρ K r ((at7_eq ρ _).symm.trans h) W⟩
def gn7 : FG := fun d ρ K => set7 (.d d) K ρ
theorem ok_gn7 : OkG (gN 7) gn7 := ⟨fun d ρ K r h => (ok_gN 7).h d ρ K r ((set7_eq ρ _ K).symm.trans h)⟩
def zS7 (F : FE) : FS := fun ρ nx _ _ _ => F ρ fun d => set7 (.d d) nx ρ
theorem ok_zS7 (h : OkE f F) : OkS (sSet (gN 7) f) (zS7 F) := ok_sSet ok_gn7 h
theorem ok_zSf7 (h : OkE f F) : OkS (sPut false 7 f) (zS7 F) := ok_zS7 h
def zN7 (F : FE) : FS := fun ρ nx _ _ _ => F ρ fun d => newS d fun s => set7 s nx ρ
theorem newS_some7 {d : PyData} {ρ : Rho} {nx : Rho → R} {r : PyData} (h : newS d (fun s => set7 s nx ρ) = some r) : newS d (fun s => setS ρ 7 s nx) = some r := by
  unfold newS at h ⊢
  simp only [set7_eq] at h
  exact h
theorem ok_zN7 (h : OkE f F) : OkS (sNew 7 f) (zN7 F) := ⟨fun ρ nx bk ct rt r q W => (ok_sNew (i := 7) ⟨fun ρ K r q W => h.h ρ K r q W⟩).h ρ nx bk ct rt r (by
  have e : zN7 F ρ nx bk ct rt = zNew 7 F ρ nx bk ct rt := by
    unfold zN7 zNew newS
    simp only [set7_eq]
  exact e.symm.trans q) W⟩
theorem ok_zNt7 (h : OkE f F) : OkS (sPut true 7 f) (zN7 F) := ok_zN7 h
def at8 (k : Sl → R) (ρ : Rho) : R := List.rec (motive := fun _ => R) none (fun _ t _ => List.rec (motive := fun _ => R) none (fun _ t _ => List.rec (motive := fun _ => R) none (fun _ t _ => List.rec (motive := fun _ => R) none (fun _ t _ => List.rec (motive := fun _ => R) none (fun _ t _ => List.rec (motive := fun _ => R) none (fun _ t _ => List.rec (motive := fun _ => R) none (fun _ t _ => List.rec (motive := fun _ => R) none (fun _ t _ => List.rec (motive := fun _ => R) none (fun s _ _ => k s) t) t) t) t) t) t) t) t) ρ
theorem at8_eq : ∀ (ρ : Rho) (k : Sl → R), at8 k ρ = getS ρ 8 k
  | [], _ => rfl
  | _ :: t, k => at7_eq t k
def set8 (x : Sl) (k : Rho → R) (t : Rho) : R := List.rec (motive := fun _ => R) none (fun s0 t _ => List.rec (motive := fun _ => R) none (fun s1 t _ => List.rec (motive := fun _ => R) none (fun s2 t _ => List.rec (motive := fun _ => R) none (fun s3 t _ => List.rec (motive := fun _ => R) none (fun s4 t _ => List.rec (motive := fun _ => R) none (fun s5 t _ => List.rec (motive := fun _ => R) none (fun s6 t _ => List.rec (motive := fun _ => R) none (fun s7 t _ => List.rec (motive := fun _ => R) none (fun _ t _ => k (s0 :: s1 :: s2 :: s3 :: s4 :: s5 :: s6 :: s7 :: x :: t)) t) t) t) t) t) t) t) t) t
theorem set8_eq : ∀ (ρ : Rho) (x : Sl) (k : Rho → R), set8 x k ρ = setS ρ 8 x k
  | [], _, _ => rfl
  | s :: t, x, k => set7_eq t x fun t' => k (s :: t')
def var8 : FE := fun ρ K => at8 (fun s => mSl s none K (fun xs => K (.list xs)) none) ρ
theorem ok_var8 : OkE (eVar 8) var8 := ⟨fun ρ K r h W => (ok_eVar 8).h ρ K r ((at8_eq ρ _).symm.trans h) W⟩
def val8 : FE := fun ρ K => at8 (fun s => mSl s none K (fun _ => none) none) ρ
theorem ok_val8 : OkE (eVal 8) val8 := ⟨fun ρ K r h W => (ok_eVal 8).h ρ K r ((at8_eq ρ _).symm.trans h) W⟩
def gn8 : FG := fun d ρ K => set8 (.d d) K ρ
theorem ok_gn8 : OkG (gN 8) gn8 := ⟨fun d ρ K r h => (ok_gN 8).h d ρ K r ((set8_eq ρ _ K).symm.trans h)⟩
def zS8 (F : FE) : FS := fun ρ nx _ _ _ => F ρ fun d => set8 (.d d) nx ρ
theorem ok_zS8 (h : OkE f F) : OkS (sSet (gN 8) f) (zS8 F) := ok_sSet ok_gn8 h
theorem ok_zSf8 (h : OkE f F) : OkS (sPut false 8 f) (zS8 F) := ok_zS8 h
def zN8 (F : FE) : FS := fun ρ nx _ _ _ => F ρ fun d => newS d fun s => set8 s nx ρ
theorem newS_some8 {d : PyData} {ρ : Rho} {nx : Rho → R} {r : PyData} (h : newS d (fun s => set8 s nx ρ) = some r) : newS d (fun s => setS ρ 8 s nx) = some r := by
  unfold newS at h ⊢
  simp only [set8_eq] at h
  exact h
theorem ok_zN8 (h : OkE f F) : OkS (sNew 8 f) (zN8 F) := ⟨fun ρ nx bk ct rt r q W => (ok_sNew (i := 8) ⟨fun ρ K r q W => h.h ρ K r q W⟩).h ρ nx bk ct rt r (by
  have e : zN8 F ρ nx bk ct rt = zNew 8 F ρ nx bk ct rt := by
    unfold zN8 zNew newS
    simp only [set8_eq]
  exact e.symm.trans q) W⟩
theorem ok_zNt8 (h : OkE f F) : OkS (sPut true 8 f) (zN8 F) := ok_zN8 h
def at9 (k : Sl → R) (ρ : Rho) : R := List.rec (motive := fun _ => R) none (fun _ t _ => List.rec (motive := fun _ => R) none (fun _ t _ => List.rec (motive := fun _ => R) none (fun _ t _ => List.rec (motive := fun _ => R) none (fun _ t _ => List.rec (motive := fun _ => R) none (fun _ t _ => List.rec (motive := fun _ => R) none (fun _ t _ => List.rec (motive := fun _ => R) none (fun _ t _ => List.rec (motive := fun _ => R) none (fun _ t _ => List.rec (motive := fun _ => R) none (fun _ t _ => List.rec (motive := fun _ => R) none (fun s _ _ => k s) t) t) t) t) t) t) t) t) t) ρ
theorem at9_eq : ∀ (ρ : Rho) (k : Sl → R), at9 k ρ = getS ρ 9 k
  | [], _ => rfl
  | _ :: t, k => at8_eq t k
def set9 (x : Sl) (k : Rho → R) (t : Rho) : R := List.rec (motive := fun _ => R) none (fun s0 t _ => List.rec (motive := fun _ => R) none (fun s1 t _ => List.rec (motive := fun _ => R) none (fun s2 t _ => List.rec (motive := fun _ => R) none (fun s3 t _ => List.rec (motive := fun _ => R) none (fun s4 t _ => List.rec (motive := fun _ => R) none (fun s5 t _ => List.rec (motive := fun _ => R) none (fun s6 t _ => List.rec (motive := fun _ => R) none (fun s7 t _ => List.rec (motive := fun _ => R) none (fun s8 t _ => List.rec (motive := fun _ => R) none (fun _ t _ => k (s0 :: s1 :: s2 :: s3 :: s4 :: s5 :: s6 :: s7 :: s8 :: x :: t)) t) t) t) t) t) t) t) t) t) t
theorem set9_eq : ∀ (ρ : Rho) (x : Sl) (k : Rho → R), set9 x k ρ = setS ρ 9 x k
  | [], _, _ => rfl
  | s :: t, x, k => set8_eq t x fun t' => k (s :: t')
def var9 : FE := fun ρ K => at9 (fun s => mSl s none K (fun xs => K (.list xs)) none) ρ
theorem ok_var9 : OkE (eVar 9) var9 := ⟨fun ρ K r h W => (ok_eVar 9).h ρ K r ((at9_eq ρ _).symm.trans h) W⟩
def val9 : FE := fun ρ K => at9 (fun s => mSl s none K (fun _ => none) none) ρ
theorem ok_val9 : OkE (eVal 9) val9 := ⟨fun ρ K r h W => (ok_eVal 9).h ρ K r ((at9_eq ρ _).symm.trans h) W⟩
def gn9 : FG := fun d ρ K => set9 (.d d) K ρ
theorem ok_gn9 : OkG (gN 9) gn9 := ⟨fun d ρ K r h => (ok_gN 9).h d ρ K r ((set9_eq ρ _ K).symm.trans h)⟩
def zS9 (F : FE) : FS := fun ρ nx _ _ _ => F ρ fun d => set9 (.d d) nx ρ
theorem ok_zS9 (h : OkE f F) : OkS (sSet (gN 9) f) (zS9 F) := ok_sSet ok_gn9 h
theorem ok_zSf9 (h : OkE f F) : OkS (sPut false 9 f) (zS9 F) := ok_zS9 h
def zN9 (F : FE) : FS := fun ρ nx _ _ _ => F ρ fun d => newS d fun s => set9 s nx ρ
theorem newS_some9 {d : PyData} {ρ : Rho} {nx : Rho → R} {r : PyData} (h : newS d (fun s => set9 s nx ρ) = some r) : newS d (fun s => setS ρ 9 s nx) = some r := by
  unfold newS at h ⊢
  simp only [set9_eq] at h
  exact h
theorem ok_zN9 (h : OkE f F) : OkS (sNew 9 f) (zN9 F) := ⟨fun ρ nx bk ct rt r q W => (ok_sNew (i := 9) ⟨fun ρ K r q W => h.h ρ K r q W⟩).h ρ nx bk ct rt r (by
  have e : zN9 F ρ nx bk ct rt = zNew 9 F ρ nx bk ct rt := by
    unfold zN9 zNew newS
    simp only [set9_eq]
  exact e.symm.trans q) W⟩
theorem ok_zNt9 (h : OkE f F) : OkS (sPut true 9 f) (zN9 F) := ok_zN9 h
def at10 (k : Sl → R) (ρ : Rho) : R := List.rec (motive := fun _ => R) none (fun _ t _ => List.rec (motive := fun _ => R) none (fun _ t _ => List.rec (motive := fun _ => R) none (fun _ t _ => List.rec (motive := fun _ => R) none (fun _ t _ => List.rec (motive := fun _ => R) none (fun _ t _ => List.rec (motive := fun _ => R) none (fun _ t _ => List.rec (motive := fun _ => R) none (fun _ t _ => List.rec (motive := fun _ => R) none (fun _ t _ => List.rec (motive := fun _ => R) none (fun _ t _ => List.rec (motive := fun _ => R) none (fun _ t _ => List.rec (motive := fun _ => R) none (fun s _ _ => k s) t) t) t) t) t) t) t) t) t) t) ρ
theorem at10_eq : ∀ (ρ : Rho) (k : Sl → R), at10 k ρ = getS ρ 10 k
  | [], _ => rfl
  | _ :: t, k => at9_eq t k
def set10 (x : Sl) (k : Rho → R) (t : Rho) : R := List.rec (motive := fun _ => R) none (fun s0 t _ => List.rec (motive := fun _ => R) none (fun s1 t _ => List.rec (motive := fun _ => R) none (fun s2 t _ => List.rec (motive := fun _ => R) none (fun s3 t _ => List.rec (motive := fun _ => R) none (fun s4 t _ => List.rec (motive := fun _ => R) none (fun s5 t _ => List.rec (motive := fun _ => R) none (fun s6 t _ => List.rec (motive := fun _ => R) none (fun s7 t _ => List.rec (motive := fun _ => R) none (fun s8 t _ => List.rec (motive := fun _ => R) none (fun s9 t _ => List.rec (motive := fun _ => R) none (fun _ t _ => k (s0 :: s1 :: s2 :: s3 :: s4 :: s5 :: s6 :: s7 :: s8 :: s9 :: x :: t)) t) t) t) t) t) t) t) t) t) t) t
theorem set10_eq : ∀ (ρ : Rho) (x : Sl) (k : Rho → R), set10 x k ρ = setS ρ 10 x k
  | [], _, _ => rfl
  | s :: t, x, k => set9_eq t x fun t' => k (s :: t')
def var10 : FE := fun ρ K => at10 (fun s => mSl s none K (fun xs => K (.list xs)) none) ρ
theorem ok_var10 : OkE (eVar 10) var10 := ⟨fun ρ K r h W => (ok_eVar 10).h ρ K r ((at10_eq ρ _).symm.trans h) W⟩
def val10 : FE := fun ρ K => at10 (fun s => mSl s none K (fun _ => none) none) ρ
theorem ok_val10 : OkE (eVal 10) val10 := ⟨fun ρ K r h W => (ok_eVal 10).h ρ K r ((at10_eq ρ _).symm.trans h) W⟩
def gn10 : FG := fun d ρ K => set10 (.d d) K ρ
theorem ok_gn10 : OkG (gN 10) gn10 := ⟨fun d ρ K r h => (ok_gN 10).h d ρ K r ((set10_eq ρ _ K).symm.trans h)⟩
def zS10 (F : FE) : FS := fun ρ nx _ _ _ => F ρ fun d => set10 (.d d) nx ρ
theorem ok_zS10 (h : OkE f F) : OkS (sSet (gN 10) f) (zS10 F) := ok_sSet ok_gn10 h
theorem ok_zSf10 (h : OkE f F) : OkS (sPut false 10 f) (zS10 F) := ok_zS10 h
def zN10 (F : FE) : FS := fun ρ nx _ _ _ => F ρ fun d => newS d fun s => set10 s nx ρ
theorem newS_some10 {d : PyData} {ρ : Rho} {nx : Rho → R} {r : PyData} (h : newS d (fun s => set10 s nx ρ) = some r) : newS d (fun s => setS ρ 10 s nx) = some r := by
  unfold newS at h ⊢
  simp only [set10_eq] at h
  exact h
theorem ok_zN10 (h : OkE f F) : OkS (sNew 10 f) (zN10 F) := ⟨fun ρ nx bk ct rt r q W => (ok_sNew (i := 10) ⟨fun ρ K r q W => h.h ρ K r q W⟩).h ρ nx bk ct rt r (by
  have e : zN10 F ρ nx bk ct rt = zNew 10 F ρ nx bk ct rt := by
    unfold zN10 zNew newS
    simp only [set10_eq]
  exact e.symm.trans q) W⟩
theorem ok_zNt10 (h : OkE f F) : OkS (sPut true 10 f) (zN10 F) := ok_zN10 h
def at11 (k : Sl → R) (ρ : Rho) : R := List.rec (motive := fun _ => R) none (fun _ t _ => List.rec (motive := fun _ => R) none (fun _ t _ => List.rec (motive := fun _ => R) none (fun _ t _ => List.rec (motive := fun _ => R) none (fun _ t _ => List.rec (motive := fun _ => R) none (fun _ t _ => List.rec (motive := fun _ => R) none (fun _ t _ => List.rec (motive := fun _ => R) none (fun _ t _ => List.rec (motive := fun _ => R) none (fun _ t _ => List.rec (motive := fun _ => R) none (fun _ t _ => List.rec (motive := fun _ => R) none (fun _ t _ => List.rec (motive := fun _ => R) none (fun _ t _ => List.rec (motive := fun _ => R) none (fun s _ _ => k s) t) t) t) t) t) t) t) t) t) t) t) ρ
theorem at11_eq : ∀ (ρ : Rho) (k : Sl → R), at11 k ρ = getS ρ 11 k
  | [], _ => rfl
  | _ :: t, k => at10_eq t k
def set11 (x : Sl) (k : Rho → R) (t : Rho) : R := List.rec (motive := fun _ => R) none (fun s0 t _ => List.rec (motive := fun _ => R) none (fun s1 t _ => List.rec (motive := fun _ => R) none (fun s2 t _ => List.rec (motive := fun _ => R) none (fun s3 t _ => List.rec (motive := fun _ => R) none (fun s4 t _ => List.rec (motive := fun _ => R) none (fun s5 t _ => List.rec (motive := fun _ => R) none (fun s6 t _ => List.rec (motive := fun _ => R) none (fun s7 t _ => List.rec (motive := fun _ => R) none (fun s8 t _ => List.rec (motive := fun _ => R) none (fun s9 t _ => List.rec (motive := fun _ => R) none (fun s10 t _ => List.rec (motive := fun _ => R) none (fun _ t _ => k (s0 :: s1 :: s2 :: s3 :: s4 :: s5 :: s6 :: s7 :: s8 :: s9 :: s10 :: x :: t)) t) t) t) t) t) t) t) t) t) t) t) t
theorem set11_eq : ∀ (ρ : Rho) (x : Sl) (k : Rho → R), set11 x k ρ = setS ρ 11 x k
  | [], _, _ => rfl
  | s :: t, x, k => set10_eq t x fun t' => k (s :: t')
def var11 : FE := fun ρ K => at11 (fun s => mSl s none K (fun xs => K (.list xs)) none) ρ
theorem ok_var11 : OkE (eVar 11) var11 := ⟨fun ρ K r h W => (ok_eVar 11).h ρ K r ((at11_eq ρ _).symm.trans h) W⟩
def val11 : FE := fun ρ K => at11 (fun s => mSl s none K (fun _ => none) none) ρ
theorem ok_val11 : OkE (eVal 11) val11 := ⟨fun ρ K r h W => (ok_eVal 11).h ρ K r ((at11_eq ρ _).symm.trans h) W⟩
def gn11 : FG := fun d ρ K => set11 (.d d) K ρ
theorem ok_gn11 : OkG (gN 11) gn11 := ⟨fun d ρ K r h => (ok_gN 11).h d ρ K r ((set11_eq ρ _ K).symm.trans h)⟩
def zS11 (F : FE) : FS := fun ρ nx _ _ _ => F ρ fun d => set11 (.d d) nx ρ
theorem ok_zS11 (h : OkE f F) : OkS (sSet (gN 11) f) (zS11 F) := ok_sSet ok_gn11 h
theorem ok_zSf11 (h : OkE f F) : OkS (sPut false 11 f) (zS11 F) := ok_zS11 h
def zN11 (F : FE) : FS := fun ρ nx _ _ _ => F ρ fun d => newS d fun s => set11 s nx ρ
theorem newS_some11 {d : PyData} {ρ : Rho} {nx : Rho → R} {r : PyData} (h : newS d (fun s => set11 s nx ρ) = some r) : newS d (fun s => setS ρ 11 s nx) = some r := by
  unfold newS at h ⊢
  simp only [set11_eq] at h
  exact h
theorem ok_zN11 (h : OkE f F) : OkS (sNew 11 f) (zN11 F) := ⟨fun ρ nx bk ct rt r q W => (ok_sNew (i := 11) ⟨fun ρ K r q W => h.h ρ K r q W⟩).h ρ nx bk ct rt r (by
  have e : zN11 F ρ nx bk ct rt = zNew 11 F ρ nx bk ct rt := by
    unfold zN11 zNew newS
    simp only [set11_eq]
  exact e.symm.trans q) W⟩
theorem ok_zNt11 (h : OkE f F) : OkS (sPut true 11 f) (zN11 F) := ok_zN11 h
def at12 (k : Sl → R) (ρ : Rho) : R := List.rec (motive := fun _ => R) none (fun _ t _ => List.rec (motive := fun _ => R) none (fun _ t _ => List.rec (motive := fun _ => R) none (fun _ t _ => List.rec (motive := fun _ => R) none (fun _ t _ => List.rec (motive := fun _ => R) none (fun _ t _ => List.rec (motive := fun _ => R) none (fun _ t _ => List.rec (motive := fun _ => R) none (fun _ t _ => List.rec (motive := fun _ => R) none (fun _ t _ => List.rec (motive := fun _ => R) none (fun _ t _ => List.rec (motive := fun _ => R) none (fun _ t _ => List.rec (motive := fun _ => R) none (fun _ t _ => List.rec (motive := fun _ => R) none (fun _ t _ => List.rec (motive := fun _ => R) none (fun s _ _ => k s) t) t) t) t) t) t) t) t) t) t) t) t) ρ
theorem at12_eq : ∀ (ρ : Rho) (k : Sl → R), at12 k ρ = getS ρ 12 k
  | [], _ => rfl
  | _ :: t, k => at11_eq t k
def set12 (x : Sl) (k : Rho → R) (t : Rho) : R := List.rec (motive := fun _ => R) none (fun s0 t _ => List.rec (motive := fun _ => R) none (fun s1 t _ => List.rec (motive := fun _ => R) none (fun s2 t _ => List.rec (motive := fun _ => R) none (fun s3 t _ => List.rec (motive := fun _ => R) none (fun s4 t _ => List.rec (motive := fun _ => R) none (fun s5 t _ => List.rec (motive := fun _ => R) none (fun s6 t _ => List.rec (motive := fun _ => R) none (fun s7 t _ => List.rec (motive := fun _ => R) none (fun s8 t _ => List.rec (motive := fun _ => R) none (fun s9 t _ => List.rec (motive := fun _ => R) none (fun s10 t _ => List.rec (motive := fun _ => R) none (fun s11 t _ => List.rec (motive := fun _ => R) none (fun _ t _ => k (s0 :: s1 :: s2 :: s3 :: s4 :: s5 :: s6 :: s7 :: s8 :: s9 :: s10 :: s11 :: x :: t)) t) t) t) t) t) t) t) t) t) t) t) t) t
theorem set12_eq : ∀ (ρ : Rho) (x : Sl) (k : Rho → R), set12 x k ρ = setS ρ 12 x k
  | [], _, _ => rfl
  | s :: t, x, k => set11_eq t x fun t' => k (s :: t')
def var12 : FE := fun ρ K => at12 (fun s => mSl s none K (fun xs => K (.list xs)) none) ρ
theorem ok_var12 : OkE (eVar 12) var12 := ⟨fun ρ K r h W => (ok_eVar 12).h ρ K r ((at12_eq ρ _).symm.trans h) W⟩
def val12 : FE := fun ρ K => at12 (fun s => mSl s none K (fun _ => none) none) ρ
theorem ok_val12 : OkE (eVal 12) val12 := ⟨fun ρ K r h W => (ok_eVal 12).h ρ K r ((at12_eq ρ _).symm.trans h) W⟩
def gn12 : FG := fun d ρ K => set12 (.d d) K ρ
theorem ok_gn12 : OkG (gN 12) gn12 := ⟨fun d ρ K r h => (ok_gN 12).h d ρ K r ((set12_eq ρ _ K).symm.trans h)⟩
def zS12 (F : FE) : FS := fun ρ nx _ _ _ => F ρ fun d => set12 (.d d) nx ρ
theorem ok_zS12 (h : OkE f F) : OkS (sSet (gN 12) f) (zS12 F) := ok_sSet ok_gn12 h
theorem ok_zSf12 (h : OkE f F) : OkS (sPut false 12 f) (zS12 F) := ok_zS12 h
def zN12 (F : FE) : FS := fun ρ nx _ _ _ => F ρ fun d => newS d fun s => set12 s nx ρ
theorem newS_some12 {d : PyData} {ρ : Rho} {nx : Rho → R} {r : PyData} (h : newS d (fun s => set12 s nx ρ) = some r) : newS d (fun s => setS ρ 12 s nx) = some r := by
  unfold newS at h ⊢
  simp only [set12_eq] at h
  exact h
theorem ok_zN12 (h : OkE f F) : OkS (sNew 12 f) (zN12 F) := ⟨fun ρ nx bk ct rt r q W => (ok_sNew (i := 12) ⟨fun ρ K r q W => h.h ρ K r q W⟩).h ρ nx bk ct rt r (by
  have e : zN12 F ρ nx bk ct rt = zNew 12 F ρ nx bk ct rt := by
    unfold zN12 zNew newS
    simp only [set12_eq]
  exact e.symm.trans q) W⟩
theorem ok_zNt12 (h : OkE f F) : OkS (sPut true 12 f) (zN12 F) := ok_zN12 h
def at13 (k : Sl → R) (ρ : Rho) : R := List.rec (motive := fun _ => R) none (fun _ t _ => List.rec (motive := fun _ => R) none (fun _ t _ => List.rec (motive := fun _ => R) none (fun _ t _ => List.rec (motive := fun _ => R) none (fun _ t _ => List.rec (motive := fun _ => R) none (fun _ t _ => List.rec (motive := fun _ => R) none (fun _ t _ => List.rec (motive := fun _ => R) none (fun _ t _ => List.rec (motive := fun _ => R) none (fun _ t _ => List.rec (motive := fun _ => R) none (fun _ t _ => List.rec (motive := fun _ => R) none (fun _ t _ => List.rec (motive := fun _ => R) none (fun _ t _ => List.rec (motive := fun _ => R) none (fun _ t _ => List.rec (motive := fun _ => R) none (fun _ t _ => List.rec (motive := fun _ => R) none (fun s _ _ => k s) t) t) t) t) t) t) t) t) t) t) t) t) t) ρ
theorem at13_eq : ∀ (ρ : Rho) (k : Sl → R), at13 k ρ = getS ρ 13 k
  | [], _ => rfl
  | _ :: t, k => at12_eq t k
def set13 (x : Sl) (k : Rho → R) (t : Rho) : R := List.rec (motive := fun _ => R) none (fun s0 t _ => List.rec (motive := fun _ => R) none (fun s1 t _ => List.rec (motive := fun _ => R) none (fun s2 t _ => List.rec (motive := fun _ => R) none (fun s3 t _ => List.rec (motive := fun _ => R) none (fun s4 t _ => List.rec (motive := fun _ => R) none (fun s5 t _ => List.rec (motive := fun _ => R) none (fun s6 t _ => List.rec (motive := fun _ => R) none (fun s7 t _ => List.rec (motive := fun _ => R) none (fun s8 t _ => List.rec (motive := fun _ => R) none (fun s9 t _ => List.rec (motive := fun _ => R) none (fun s10 t _ => List.rec (motive := fun _ => R) none (fun s11 t _ => List.rec (motive := fun _ => R) none (fun s12 t _ => List.rec (motive := fun _ => R) none (fun _ t _ => k (s0 :: s1 :: s2 :: s3 :: s4 :: s5 :: s6 :: s7 :: s8 :: s9 :: s10 :: s11 :: s12 :: x :: t)) t) t) t) t) t) t) t) t) t) t) t) t) t) t
theorem set13_eq : ∀ (ρ : Rho) (x : Sl) (k : Rho → R), set13 x k ρ = setS ρ 13 x k
  | [], _, _ => rfl
  | s :: t, x, k => set12_eq t x fun t' => k (s :: t')
def var13 : FE := fun ρ K => at13 (fun s => mSl s none K (fun xs => K (.list xs)) none) ρ
theorem ok_var13 : OkE (eVar 13) var13 := ⟨fun ρ K r h W => (ok_eVar 13).h ρ K r ((at13_eq ρ _).symm.trans h) W⟩
def val13 : FE := fun ρ K => at13 (fun s => mSl s none K (fun _ => none) none) ρ
theorem ok_val13 : OkE (eVal 13) val13 := ⟨fun ρ K r h W => (ok_eVal 13).h ρ K r ((at13_eq ρ _).symm.trans h) W⟩
def gn13 : FG := fun d ρ K => set13 (.d d) K ρ
theorem ok_gn13 : OkG (gN 13) gn13 := ⟨fun d ρ K r h => (ok_gN 13).h d ρ K r ((set13_eq ρ _ K).symm.trans h)⟩
def zS13 (F : FE) : FS := fun ρ nx _ _ _ => F ρ fun d => set13 (.d d) nx ρ
theorem ok_zS13 (h : OkE f F) : OkS (sSet (gN 13) f) (zS13 F) := ok_sSet ok_gn13 h
theorem ok_zSf13 (h : OkE f F) : OkS (sPut false 13 f) (zS13 F) := ok_zS13 h
def zN13 (F : FE) : FS := fun ρ nx _ _ _ => F ρ fun d => newS d fun s => set13 s nx ρ
theorem newS_some13 {d : PyData} {ρ : Rho} {nx : Rho → R} {r : PyData} (h : newS d (fun s => set13 s nx ρ) = some r) : newS d (fun s => setS ρ 13 s nx) = some r := by
  unfold newS at h ⊢
  simp only [set13_eq] at h
  exact h
theorem ok_zN13 (h : OkE f F) : OkS (sNew 13 f) (zN13 F) := ⟨fun ρ nx bk ct rt r q W => (ok_sNew (i := 13) ⟨fun ρ K r q W => h.h ρ K r q W⟩).h ρ nx bk ct rt r (by
  have e : zN13 F ρ nx bk ct rt = zNew 13 F ρ nx bk ct rt := by
    unfold zN13 zNew newS
    simp only [set13_eq]
  exact e.symm.trans q) W⟩
theorem ok_zNt13 (h : OkE f F) : OkS (sPut true 13 f) (zN13 F) := ok_zN13 h
def at14 (k : Sl → R) (ρ : Rho) : R := List.rec (motive := fun _ => R) none (fun _ t _ => List.rec (motive := fun _ => R) none (fun _ t _ => List.rec (motive := fun _ => R) none (fun _ t _ => List.rec (motive := fun _ => R) none (fun _ t _ => List.rec (motive := fun _ => R) none (fun _ t _ => List.rec (motive := fun _ => R) none (fun _ t _ => List.rec (motive := fun _ => R) none (fun _ t _ => List.rec (motive := fun _ => R) none (fun _ t _ => List.rec (motive := fun _ => R) none (fun _ t _ => List.rec (motive := fun _ => R) none (fun _ t _ => List.rec (motive := fun _ => R) none (fun _ t _ => List.rec (motive := fun _ => R) none (fun _ t _ => List.rec (motive := fun _ => R) none (fun _ t _ => List.rec (motive := fun _ => R) none (fun _ t _ => List.rec (motive := fun _ => R) none (fun s _ _ => k s) t) t) t) t) t) t) t) t) t) t) t) t) t) t) ρ
theorem at14_eq : ∀ (ρ : Rho) (k : Sl → R), at14 k ρ = getS ρ 14 k
  | [], _ => rfl
  | _ :: t, k => at13_eq t k
def set14 (x : Sl) (k : Rho → R) (t : Rho) : R := List.rec (motive := fun _ => R) none (fun s0 t _ => List.rec (motive := fun _ => R) none (fun s1 t _ => List.rec (motive := fun _ => R) none (fun s2 t _ => List.rec (motive := fun _ => R) none (fun s3 t _ => List.rec (motive := fun _ => R) none (fun s4 t _ => List.rec (motive := fun _ => R) none (fun s5 t _ => List.rec (motive := fun _ => R) none (fun s6 t _ => List.rec (motive := fun _ => R) none (fun s7 t _ => List.rec (motive := fun _ => R) none (fun s8 t _ => List.rec (motive := fun _ => R) none (fun s9 t _ => List.rec (motive := fun _ => R) none (fun s10 t _ => List.rec (motive := fun _ => R) none (fun s11 t _ => List.rec (motive := fun _ => R) none (fun s12 t _ => List.rec (motive := fun _ => R) none (fun s13 t _ => List.rec (motive := fun _ => R) none (fun _ t _ => k (s0 :: s1 :: s2 :: s3 :: s4 :: s5 :: s6 :: s7 :: s8 :: s9 :: s10 :: s11 :: s12 :: s13 :: x :: t)) t) t) t) t) t) t) t) t) t) t) t) t) t) t) t
theorem set14_eq : ∀ (ρ : Rho) (x : Sl) (k : Rho → R), set14 x k ρ = setS ρ 14 x k
  | [], _, _ => rfl
  | s :: t, x, k => set13_eq t x fun t' => k (s :: t')
def var14 : FE := fun ρ K => at14 (fun s => mSl s none K (fun xs => K (.list xs)) none) ρ
theorem ok_var14 : OkE (eVar 14) var14 := ⟨fun ρ K r h W => (ok_eVar 14).h ρ K r ((at14_eq ρ _).symm.trans h) W⟩
def val14 : FE := fun ρ K => at14 (fun s => mSl s none K (fun _ => none) none) ρ
theorem ok_val14 : OkE (eVal 14) val14 := ⟨fun ρ K r h W => (ok_eVal 14).h ρ K r ((at14_eq ρ _).symm.trans h) W⟩
def gn14 : FG := fun d ρ K => set14 (.d d) K ρ
theorem ok_gn14 : OkG (gN 14) gn14 := ⟨fun d ρ K r h => (ok_gN 14).h d ρ K r ((set14_eq ρ _ K).symm.trans h)⟩
def zS14 (F : FE) : FS := fun ρ nx _ _ _ => F ρ fun d => set14 (.d d) nx ρ
theorem ok_zS14 (h : OkE f F) : OkS (sSet (gN 14) f) (zS14 F) := ok_sSet ok_gn14 h
theorem ok_zSf14 (h : OkE f F) : OkS (sPut false 14 f) (zS14 F) := ok_zS14 h
def zN14 (F : FE) : FS := fun ρ nx _ _ _ => F ρ fun d => newS d fun s => set14 s nx ρ
theorem newS_some14 {d : PyData} {ρ : Rho} {nx : Rho → R} {r : PyData} (h : newS d (fun s => set14 s nx ρ) = some r) : newS d (fun s => setS ρ 14 s nx) = some r := by
  unfold newS at h ⊢
  simp only [set14_eq] at h
  exact h
theorem ok_zN14 (h : OkE f F) : OkS (sNew 14 f) (zN14 F) := ⟨fun ρ nx bk ct rt r q W => (ok_sNew (i := 14) ⟨fun ρ K r q W => h.h ρ K r q W⟩).h ρ nx bk ct rt r (by
  have e : zN14 F ρ nx bk ct rt = zNew 14 F ρ nx bk ct rt := by
    unfold zN14 zNew newS
    simp only [set14_eq]
  exact e.symm.trans q) W⟩
theorem ok_zNt14 (h : OkE f F) : OkS (sPut true 14 f) (zN14 F) := ok_zN14 h
def at15 (k : Sl → R) (ρ : Rho) : R := List.rec (motive := fun _ => R) none (fun _ t _ => List.rec (motive := fun _ => R) none (fun _ t _ => List.rec (motive := fun _ => R) none (fun _ t _ => List.rec (motive := fun _ => R) none (fun _ t _ => List.rec (motive := fun _ => R) none (fun _ t _ => List.rec (motive := fun _ => R) none (fun _ t _ => List.rec (motive := fun _ => R) none (fun _ t _ => List.rec (motive := fun _ => R) none (fun _ t _ => List.rec (motive := fun _ => R) none (fun _ t _ => List.rec (motive := fun _ => R) none (fun _ t _ => List.rec (motive := fun _ => R) none (fun _ t _ => List.rec (motive := fun _ => R) none (fun _ t _ => List.rec (motive := fun _ => R) none (fun _ t _ => List.rec (motive := fun _ => R) none (fun _ t _ => List.rec (motive := fun _ => R) none (fun _ t _ => List.rec (motive := fun _ => R) none (fun s _ _ => k s) t) t) t) t) t) t) t) t) t) t) t) t) t) t) t) ρ
theorem at15_eq : ∀ (ρ : Rho) (k : Sl → R), at15 k ρ = getS ρ 15 k
  | [], _ => rfl
  | _ :: t, k => at14_eq t k
def set15 (x : Sl) (k : Rho → R) (t : Rho) : R := List.rec (motive := fun _ => R) none (fun s0 t _ => List.rec (motive := fun _ => R) none (fun s1 t _ => List.rec (motive := fun _ => R) none (fun s2 t _ => List.rec (motive := fun _ => R) none (fun s3 t _ => List.rec (motive := fun _ => R) none (fun s4 t _ => List.rec (motive := fun _ => R) none (fun s5 t _ => List.rec (motive := fun _ => R) none (fun s6 t _ => List.rec (motive := fun _ => R) none (fun s7 t _ => List.rec (motive := fun _ => R) none (fun s8 t _ => List.rec (motive := fun _ => R) none (fun s9 t _ => List.rec (motive := fun _ => R) none (fun s10 t _ => List.rec (motive := fun _ => R) none (fun s11 t _ => List.rec (motive := fun _ => R) none (fun s12 t _ => List.rec (motive := fun _ => R) none (fun s13 t _ => List.rec (motive := fun _ => R) none (fun s14 t _ => List.rec (motive := fun _ => R) none (fun _ t _ => k (s0 :: s1 :: s2 :: s3 :: s4 :: s5 :: s6 :: s7 :: s8 :: s9 :: s10 :: s11 :: s12 :: s13 :: s14 :: x :: t)) t) t) t) t) t) t) t) t) t) t) t) t) t) t) t) t
theorem set15_eq : ∀ (ρ : Rho) (x : Sl) (k : Rho → R), set15 x k ρ = setS ρ 15 x k
  | [], _, _ => rfl
  | s :: t, x, k => set14_eq t x fun t' => k (s :: t')
def var15 : FE := fun ρ K => at15 (fun s => mSl s none K (fun xs => K (.list xs)) none) ρ
theorem ok_var15 : OkE (eVar 15) var15 := ⟨fun ρ K r h W => (ok_eVar 15).h ρ K r ((at15_eq ρ _).symm.trans h) W⟩
def val15 : FE := fun ρ K => at15 (fun s => mSl s none K (fun _ => none) none) ρ
theorem ok_val15 : OkE (eVal 15) val15 := ⟨fun ρ K r h W => (ok_eVal 15).h ρ K r ((at15_eq ρ _).symm.trans h) W⟩
def gn15 : FG := fun d ρ K => set15 (.d d) K ρ
theorem ok_gn15 : OkG (gN 15) gn15 := ⟨fun d ρ K r h => (ok_gN 15).h d ρ K r ((set15_eq ρ _ K).symm.trans h)⟩
def zS15 (F : FE) : FS := fun ρ nx _ _ _ => F ρ fun d => set15 (.d d) nx ρ
theorem ok_zS15 (h : OkE f F) : OkS (sSet (gN 15) f) (zS15 F) := ok_sSet ok_gn15 h
theorem ok_zSf15 (h : OkE f F) : OkS (sPut false 15 f) (zS15 F) := ok_zS15 h
def zN15 (F : FE) : FS := fun ρ nx _ _ _ => F ρ fun d => newS d fun s => set15 s nx ρ
theorem newS_some15 {d : PyData} {ρ : Rho} {nx : Rho → R} {r : PyData} (h : newS d (fun s => set15 s nx ρ) = some r) : newS d (fun s => setS ρ 15 s nx) = some r := by
  unfold newS at h ⊢
  simp only [set15_eq] at h
  exact h
theorem ok_zN15 (h : OkE f F) : OkS (sNew 15 f) (zN15 F) := ⟨fun ρ nx bk ct rt r q W => (ok_sNew (i := 15) ⟨fun ρ K r q W => h.h ρ K r q W⟩).h ρ nx bk ct rt r (by
  have e : zN15 F ρ nx bk ct rt = zNew 15 F ρ nx bk ct rt := by
    unfold zN15 zNew newS
    simp only [set15_eq]
  exact e.symm.trans q) W⟩
theorem ok_zNt15 (h : OkE f F) : OkS (sPut true 15 f) (zN15 F) := ok_zN15 h
def at16 (k : Sl → R) (ρ : Rho) : R := List.rec (motive := fun _ => R) none (fun _ t _ => List.rec (motive := fun _ => R) none (fun _ t _ => List.rec (motive := fun _ => R) none (fun _ t _ => List.rec (motive := fun _ => R) none (fun _ t _ => List.rec (motive := fun _ => R) none (fun _ t _ => List.rec (motive := fun _ => R) none (fun _ t _ => List.rec (motive := fun _ => R) none (fun _ t _ => List.rec (motive := fun _ => R) none (fun _ t _ => List.rec (motive := fun _ => R) none (fun _ t _ => List.rec (motive := fun _ => R) none (fun _ t _ => List.rec (motive := fun _ => R) none (fun _ t _ => List.rec (motive := fun _ => R) none (fun _ t _ => List.rec (motive := fun _ => R) none (fun _ t _ => List.rec (motive := fun _ => R) none (fun _ t _ => List.rec (motive := fun _ => R) none (fun _ t _ => List.rec (motive := fun _ => R) none (fun _ t _ => List.rec (motive := fun _ => R) none (fun s _ _ => k s) t) t) t) t) t) t) t) t) t) t) t) t) t) t) t) t) ρ
theorem at16_eq : ∀ (ρ : Rho) (k : Sl → R), at16 k ρ = getS ρ 16 k
  | [], _ => rfl
  | _ :: t, k => at15_eq t k
def set16 (x : Sl) (k : Rho → R) (t : Rho) : R := List.rec (motive := fun _ => R) none (fun s0 t _ => List.rec (motive := fun _ => R) none (fun s1 t _ => List.rec (motive := fun _ => R) none (fun s2 t _ => List.rec (motive := fun _ => R) none (fun s3 t _ => List.rec (motive := fun _ => R) none (fun s4 t _ => List.rec (motive := fun _ => R) none (fun s5 t _ => List.rec (motive := fun _ => R) none (fun s6 t _ => List.rec (motive := fun _ => R) none (fun s7 t _ => List.rec (motive := fun _ => R) none (fun s8 t _ => List.rec (motive := fun _ => R) none (fun s9 t _ => List.rec (motive := fun _ => R) none (fun s10 t _ => List.rec (motive := fun _ => R) none (fun s11 t _ => List.rec (motive := fun _ => R) none (fun s12 t _ => List.rec (motive := fun _ => R) none (fun s13 t _ => List.rec (motive := fun _ => R) none (fun s14 t _ => List.rec (motive := fun _ => R) none (fun s15 t _ => List.rec (motive := fun _ => R) none (fun _ t _ => k (s0 :: s1 :: s2 :: s3 :: s4 :: s5 :: s6 :: s7 :: s8 :: s9 :: s10 :: s11 :: s12 :: s13 :: s14 :: s15 :: x :: t)) t) t) t) t) t) t) t) t) t) t) t) t) t) t) t) t) t
theorem set16_eq : ∀ (ρ : Rho) (x : Sl) (k : Rho → R), set16 x k ρ = setS ρ 16 x k
  | [], _, _ => rfl
  | s :: t, x, k => set15_eq t x fun t' => k (s :: t')
def var16 : FE := fun ρ K => at16 (fun s => mSl s none K (fun xs => K (.list xs)) none) ρ
theorem ok_var16 : OkE (eVar 16) var16 := ⟨fun ρ K r h W => (ok_eVar 16).h ρ K r ((at16_eq ρ _).symm.trans h) W⟩
def val16 : FE := fun ρ K => at16 (fun s => mSl s none K (fun _ => none) none) ρ
theorem ok_val16 : OkE (eVal 16) val16 := ⟨fun ρ K r h W => (ok_eVal 16).h ρ K r ((at16_eq ρ _).symm.trans h) W⟩
def gn16 : FG := fun d ρ K => set16 (.d d) K ρ
theorem ok_gn16 : OkG (gN 16) gn16 := ⟨fun d ρ K r h => (ok_gN 16).h d ρ K r ((set16_eq ρ _ K).symm.trans h)⟩
def zS16 (F : FE) : FS := fun ρ nx _ _ _ => F ρ fun d => set16 (.d d) nx ρ
theorem ok_zS16 (h : OkE f F) : OkS (sSet (gN 16) f) (zS16 F) := ok_sSet ok_gn16 h
theorem ok_zSf16 (h : OkE f F) : OkS (sPut false 16 f) (zS16 F) := ok_zS16 h
def zN16 (F : FE) : FS := fun ρ nx _ _ _ => F ρ fun d => newS d fun s => set16 s nx ρ
theorem newS_some16 {d : PyData} {ρ : Rho} {nx : Rho → R} {r : PyData} (h : newS d (fun s => set16 s nx ρ) = some r) : newS d (fun s => setS ρ 16 s nx) = some r := by
  unfold newS at h ⊢
  simp only [set16_eq] at h
  exact h
theorem ok_zN16 (h : OkE f F) : OkS (sNew 16 f) (zN16 F) := ⟨fun ρ nx bk ct rt r q W => (ok_sNew (i := 16) ⟨fun ρ K r q W => h.h ρ K r q W⟩).h ρ nx bk ct rt r (by
  have e : zN16 F ρ nx bk ct rt = zNew 16 F ρ nx bk ct rt := by
    unfold zN16 zNew newS
    simp only [set16_eq]
  exact e.symm.trans q) W⟩
theorem ok_zNt16 (h : OkE f F) : OkS (sPut true 16 f) (zN16 F) := ok_zN16 h
def at17 (k : Sl → R) (ρ : Rho) : R := List.rec (motive := fun _ => R) none (fun _ t _ => List.rec (motive := fun _ => R) none (fun _ t _ => List.rec (motive := fun _ => R) none (fun _ t _ => List.rec (motive := fun _ => R) none (fun _ t _ => List.rec (motive := fun _ => R) none (fun _ t _ => List.rec (motive := fun _ => R) none (fun _ t _ => List.rec (motive := fun _ => R) none (fun _ t _ => List.rec (motive := fun _ => R) none (fun _ t _ => List.rec (motive := fun _ => R) none (fun _ t _ => List.rec (motive := fun _ => R) none (fun _ t _ => List.rec (motive := fun _ => R) none (fun _ t _ => List.rec (motive := fun _ => R) none (fun _ t _ => List.rec (motive := fun _ => R) none (fun _ t _ => List.rec (motive := fun _ => R) none (fun _ t _ => List.rec (motive := fun _ => R) none (fun _ t _ => List.rec (motive := fun _ => R) none (fun _ t _ => List.rec (motive := fun _ => R) none (fun _ t _ => List.rec (motive := fun _ => R) none (fun s _ _ => k s) t) t) t) t) t) t) t) t) t) t) t) t) t) t) t) t) t) ρ
theorem at17_eq : ∀ (ρ : Rho) (k : Sl → R), at17 k ρ = getS ρ 17 k
  | [], _ => rfl
  | _ :: t, k => at16_eq t k
def set17 (x : Sl) (k : Rho → R) (t : Rho) : R := List.rec (motive := fun _ => R) none (fun s0 t _ => List.rec (motive := fun _ => R) none (fun s1 t _ => List.rec (motive := fun _ => R) none (fun s2 t _ => List.rec (motive := fun _ => R) none (fun s3 t _ => List.rec (motive := fun _ => R) none (fun s4 t _ => List.rec (motive := fun _ => R) none (fun s5 t _ => List.rec (motive := fun _ => R) none (fun s6 t _ => List.rec (motive := fun _ => R) none (fun s7 t _ => List.rec (motive := fun _ => R) none (fun s8 t _ => List.rec (motive := fun _ => R) none (fun s9 t _ => List.rec (motive := fun _ => R) none (fun s10 t _ => List.rec (motive := fun _ => R) none (fun s11 t _ => List.rec (motive := fun _ => R) none (fun s12 t _ => List.rec (motive := fun _ => R) none (fun s13 t _ => List.rec (motive := fun _ => R) none (fun s14 t _ => List.rec (motive := fun _ => R) none (fun s15 t _ => List.rec (motive := fun _ => R) none (fun s16 t _ => List.rec (motive := fun _ => R) none (fun _ t _ => k (s0 :: s1 :: s2 :: s3 :: s4 :: s5 :: s6 :: s7 :: s8 :: s9 :: s10 :: s11 :: s12 :: s13 :: s14 :: s15 :: s16 :: x :: t)) t) t) t) t) t) t) t) t) t) t) t) t) t) t) t) t) t) t
theorem set17_eq : ∀ (ρ : Rho) (x : Sl) (k : Rho → R), set17 x k ρ = setS ρ 17 x k
  | [], _, _ => rfl
  | s :: t, x, k => set16_eq t x fun t' => k (s :: t')
def var17 : FE := fun ρ K => at17 (fun s => mSl s none K (fun xs => K (.list xs)) none) ρ
theorem ok_var17 : OkE (eVar 17) var17 := ⟨fun ρ K r h W => (ok_eVar 17).h ρ K r ((at17_eq ρ _).symm.trans h) W⟩
def val17 : FE := fun ρ K => at17 (fun s => mSl s none K (fun _ => none) none) ρ
theorem ok_val17 : OkE (eVal 17) val17 := ⟨fun ρ K r h W => (ok_eVal 17).h ρ K r ((at17_eq ρ _).symm.trans h) W⟩
def gn17 : FG := fun d ρ K => set17 (.d d) K ρ
theorem ok_gn17 : OkG (gN 17) gn17 := ⟨fun d ρ K r h => (ok_gN 17).h d ρ K r ((set17_eq ρ _ K).symm.trans h)⟩
def zS17 (F : FE) : FS := fun ρ nx _ _ _ => F ρ fun d => set17 (.d d) nx ρ
theorem ok_zS17 (h : OkE f F) : OkS (sSet (gN 17) f) (zS17 F) := ok_sSet ok_gn17 h
theorem ok_zSf17 (h : OkE f F) : OkS (sPut false 17 f) (zS17 F) := ok_zS17 h
def zN17 (F : FE) : FS := fun ρ nx _ _ _ => F ρ fun d => newS d fun s => set17 s nx ρ
theorem newS_some17 {d : PyData} {ρ : Rho} {nx : Rho → R} {r : PyData} (h : newS d (fun s => set17 s nx ρ) = some r) : newS d (fun s => setS ρ 17 s nx) = some r := by
  unfold newS at h ⊢
  simp only [set17_eq] at h
  exact h
theorem ok_zN17 (h : OkE f F) : OkS (sNew 17 f) (zN17 F) := ⟨fun ρ nx bk ct rt r q W => (ok_sNew (i := 17) ⟨fun ρ K r q W => h.h ρ K r q W⟩).h ρ nx bk ct rt r (by
  have e : zN17 F ρ nx bk ct rt = zNew 17 F ρ nx bk ct rt := by
    unfold zN17 zNew newS
    simp only [set17_eq]
  exact e.symm.trans q) W⟩
theorem ok_zNt17 (h : OkE f F) : OkS (sPut true 17 f) (zN17 F) := ok_zN17 h
def at18 (k : Sl → R) (ρ : Rho) : R := List.rec (motive := fun _ => R) none (fun _ t _ => List.rec (motive := fun _ => R) none (fun _ t _ => List.rec (motive := fun _ => R) none (fun _ t _ => List.rec (motive := fun _ => R) none (fun _ t _ => List.rec (motive := fun _ => R) none (fun _ t _ => List.rec (motive := fun _ => R) none (fun _ t _ => List.rec (motive := fun _ => R) none (fun _ t _ => List.rec (motive := fun _ => R) none (fun _ t _ => List.rec (motive := fun _ => R) none (fun _ t _ => List.rec (motive := fun _ => R) none (fun _ t _ => List.rec (motive := fun _ => R) none (fun _ t _ => List.rec (motive := fun _ => R) none (fun _ t _ => List.rec (motive := fun _ => R) none (fun _ t _ => List.rec (motive := fun _ => R) none (fun _ t _ => List.rec (motive := fun _ => R) none (fun _ t _ => List.rec (motive := fun _ => R) none (fun _ t _ => List.rec (motive := fun _ => R) none (fun _ t _ => List.rec (motive := fun _ => R) none (fun _ t _ => List.rec (motive := fun _ => R) none (fun s _ _ => k s) t) t) t) t) t) t) t) t) t) t) t) t) t) t) t) t) t) t) ρ
theorem at18_eq : ∀ (ρ : Rho) (k : Sl → R), at18 k ρ = getS ρ 18 k
  | [], _ => rfl
  | _ :: t, k => at17_eq t k
def set18 (x : Sl) (k : Rho → R) (t : Rho) : R := List.rec (motive := fun _ => R) none (fun s0 t _ => List.rec (motive := fun _ => R) none (fun s1 t _ => List.rec (motive := fun _ => R) none (fun s2 t _ => List.rec (motive := fun _ => R) none (fun s3 t _ => List.rec (motive := fun _ => R) none (fun s4 t _ => List.rec (motive := fun _ => R) none (fun s5 t _ => List.rec (motive := fun _ => R) none (fun s6 t _ => List.rec (motive := fun _ => R) none (fun s7 t _ => List.rec (motive := fun _ => R) none (fun s8 t _ => List.rec (motive := fun _ => R) none (fun s9 t _ => List.rec (motive := fun _ => R) none (fun s10 t _ => List.rec (motive := fun _ => R) none (fun s11 t _ => List.rec (motive := fun _ => R) none (fun s12 t _ => List.rec (motive := fun _ => R) none (fun s13 t _ => List.rec (motive := fun _ => R) none (fun s14 t _ => List.rec (motive := fun _ => R) none (fun s15 t _ => List.rec (motive := fun _ => R) none (fun s16 t _ => List.rec (motive := fun _ => R) none (fun s17 t _ => List.rec (motive := fun _ => R) none (fun _ t _ => k (s0 :: s1 :: s2 :: s3 :: s4 :: s5 :: s6 :: s7 :: s8 :: s9 :: s10 :: s11 :: s12 :: s13 :: s14 :: s15 :: s16 :: s17 :: x :: t)) t) t) t) t) t) t) t) t) t) t) t) t) t) t) t) t) t) t) t
theorem set18_eq : ∀ (ρ : Rho) (x : Sl) (k : Rho → R), set18 x k ρ = setS ρ 18 x k
  | [], _, _ => rfl
  | s :: t, x, k => set17_eq t x fun t' => k (s :: t')
def var18 : FE := fun ρ K => at18 (fun s => mSl s none K (fun xs => K (.list xs)) none) ρ
theorem ok_var18 : OkE (eVar 18) var18 := ⟨fun ρ K r h W => (ok_eVar 18).h ρ K r ((at18_eq ρ _).symm.trans h) W⟩
def val18 : FE := fun ρ K => at18 (fun s => mSl s none K (fun _ => none) none) ρ
theorem ok_val18 : OkE (eVal 18) val18 := ⟨fun ρ K r h W => (ok_eVal 18).h ρ K r ((at18_eq ρ _).symm.trans h) W⟩
def gn18 : FG := fun d ρ K => set18 (.d d) K ρ
theorem ok_gn18 : OkG (gN 18) gn18 := ⟨fun d ρ K r h => (ok_gN 18).h d ρ K r ((set18_eq ρ _ K).symm.trans h)⟩
def zS18 (F : FE) : FS := fun ρ nx _ _ _ => F ρ fun d => set18 (.d d) nx ρ
theorem ok_zS18 (h : OkE f F) : OkS (sSet (gN 18) f) (zS18 F) := ok_sSet ok_gn18 h
theorem ok_zSf18 (h : OkE f F) : OkS (sPut false 18 f) (zS18 F) := ok_zS18 h
def zN18 (F : FE) : FS := fun ρ nx _ _ _ => F ρ fun d => newS d fun s => set18 s nx ρ
theorem newS_some18 {d : PyData} {ρ : Rho} {nx : Rho → R} {r : PyData} (h : newS d (fun s => set18 s nx ρ) = some r) : newS d (fun s => setS ρ 18 s nx) = some r := by
  unfold newS at h ⊢
  simp only [set18_eq] at h
  exact h
theorem ok_zN18 (h : OkE f F) : OkS (sNew 18 f) (zN18 F) := ⟨fun ρ nx bk ct rt r q W => (ok_sNew (i := 18) ⟨fun ρ K r q W => h.h ρ K r q W⟩).h ρ nx bk ct rt r (by
  have e : zN18 F ρ nx bk ct rt = zNew 18 F ρ nx bk ct rt := by
    unfold zN18 zNew newS
    simp only [set18_eq]
  exact e.symm.trans q) W⟩
theorem ok_zNt18 (h : OkE f F) : OkS (sPut true 18 f) (zN18 F) := ok_zN18 h
def at19 (k : Sl → R) (ρ : Rho) : R := List.rec (motive := fun _ => R) none (fun _ t _ => List.rec (motive := fun _ => R) none (fun _ t _ => List.rec (motive := fun _ => R) none (fun _ t _ => List.rec (motive := fun _ => R) none (fun _ t _ => List.rec (motive := fun _ => R) none (fun _ t _ => List.rec (motive := fun _ => R) none (fun _ t _ => List.rec (motive := fun _ => R) none (fun _ t _ => List.rec (motive := fun _ => R) none (fun _ t _ => List.rec (motive := fun _ => R) none (fun _ t _ => List.rec (motive := fun _ => R) none (fun _ t _ => List.rec (motive := fun _ => R) none (fun _ t _ => List.rec (motive := fun _ => R) none (fun _ t _ => List.rec (motive := fun _ => R) none (fun _ t _ => List.rec (motive := fun _ => R) none (fun _ t _ => List.rec (motive := fun _ => R) none (fun _ t _ => List.rec (motive := fun _ => R) none (fun _ t _ => List.rec (motive := fun _ => R) none (fun _ t _ => List.rec (motive := fun _ => R) none (fun _ t _ => List.rec (motive := fun _ => R) none (fun _ t _ => List.rec (motive := fun _ => R) none (fun s _ _ => k s) t) t) t) t) t) t) t) t) t) t) t) t) t) t) t) t) t) t) t) ρ
theorem at19_eq : ∀ (ρ : Rho) (k : Sl → R), at19 k ρ = getS ρ 19 k
  | [], _ => rfl
  | _ :: t, k => at18_eq t k
def set19 (x : Sl) (k : Rho → R) (t : Rho) : R := List.rec (motive := fun _ => R) none (fun s0 t _ => List.rec (motive := fun _ => R) none (fun s1 t _ => List.rec (motive := fun _ => R) none (fun s2 t _ => List.rec (motive := fun _ => R) none (fun s3 t _ => List.rec (motive := fun _ => R) none (fun s4 t _ => List.rec (motive := fun _ => R) none (fun s5 t _ => List.rec (motive := fun _ => R) none (fun s6 t _ => List.rec (motive := fun _ => R) none (fun s7 t _ => List.rec (motive := fun _ => R) none (fun s8 t _ => List.rec (motive := fun _ => R) none (fun s9 t _ => List.rec (motive := fun _ => R) none (fun s10 t _ => List.rec (motive := fun _ => R) none (fun s11 t _ => List.rec (motive := fun _ => R) none (fun s12 t _ => List.rec (motive := fun _ => R) none (fun s13 t _ => List.rec (motive := fun _ => R) none (fun s14 t _ => List.rec (motive := fun _ => R) none (fun s15 t _ => List.rec (motive := fun _ => R) none (fun s16 t _ => List.rec (motive := fun _ => R) none (fun s17 t _ => List.rec (motive := fun _ => R) none (fun s18 t _ => List.rec (motive := fun _ => R) none (fun _ t _ => k (s0 :: s1 :: s2 :: s3 :: s4 :: s5 :: s6 :: s7 :: s8 :: s9 :: s10 :: s11 :: s12 :: s13 :: s14 :: s15 :: s16 :: s17 :: s18 :: x :: t)) t) t) t) t) t) t) t) t) t) t) t) t) t) t) t) t) t) t) t) t
theorem set19_eq : ∀ (ρ : Rho) (x : Sl) (k : Rho → R), set19 x k ρ = setS ρ 19 x k
  | [], _, _ => rfl
  | s :: t, x, k => set18_eq t x fun t' => k (s :: t')
def var19 : FE := fun ρ K => at19 (fun s => mSl s none K (fun xs => K (.list xs)) none) ρ
theorem ok_var19 : OkE (eVar 19) var19 := ⟨fun ρ K r h W => (ok_eVar 19).h ρ K r ((at19_eq ρ _).symm.trans h) W⟩
def val19 : FE := fun ρ K => at19 (fun s => mSl s none K (fun _ => none) none) ρ
theorem ok_val19 : OkE (eVal 19) val19 := ⟨fun ρ K r h W => (ok_eVal 19).h ρ K r ((at19_eq ρ _).symm.trans h) W⟩
def gn19 : FG := fun d ρ K => set19 (.d d) K ρ
theorem ok_gn19 : OkG (gN 19) gn19 := ⟨fun d ρ K r h => (ok_gN 19).h d ρ K r ((set19_eq ρ _ K).symm.trans h)⟩
def zS19 (F : FE) : FS := fun ρ nx _ _ _ => F ρ fun d => set19 (.d d) nx ρ
theorem ok_zS19 (h : OkE f F) : OkS (sSet (gN 19) f) (zS19 F) := ok_sSet ok_gn19 h
theorem ok_zSf19 (h : OkE f F) : OkS (sPut false 19 f) (zS19 F) := ok_zS19 h
def zN19 (F : FE) : FS := fun ρ nx _ _ _ => F ρ fun d => newS d fun s => set19 s nx ρ
theorem newS_some19 {d : PyData} {ρ : Rho} {nx : Rho → R} {r : PyData} (h : newS d (fun s => set19 s nx ρ) = some r) : newS d (fun s => setS ρ 19 s nx) = some r := by
  unfold newS at h ⊢
  simp only [set19_eq] at h
  exact h
theorem ok_zN19 (h : OkE f F) : OkS (sNew 19 f) (zN19 F) := ⟨fun ρ nx bk ct rt r q W => (ok_sNew (i := 19) ⟨fun ρ K r q W => h.h ρ K r q W⟩).h ρ nx bk ct rt r (by
  have e : zN19 F ρ nx bk ct rt = zNew 19 F ρ nx bk ct rt := by
    unfold zN19 zNew newS
    simp only [set19_eq]
  exact e.symm.trans q) W⟩
theorem ok_zNt19 (h : OkE f F) : OkS (sPut true 19 f) (zN19 F) := ok_zN19 h
def at20 (k : Sl → R) (ρ : Rho) : R := List.rec (motive := fun _ => R) none (fun _ t _ => List.rec (motive := fun _ => R) none (fun _ t _ => List.rec (motive := fun _ => R) none (fun _ t _ => List.rec (motive := fun _ => R) none (fun _ t _ => List.rec (motive := fun _ => R) none (fun _ t _ => List.rec (motive := fun _ => R) none (fun _ t _ => List.rec (motive := fun _ => R) none (fun _ t _ => List.rec (motive := fun _ => R) none (fun _ t _ => List.rec (motive := fun _ => R) none (fun _ t _ => List.rec (motive := fun _ => R) none (fun _ t _ => List.rec (motive := fun _ => R) none (fun _ t _ => List.rec (motive := fun _ => R) none (fun _ t _ => List.rec (motive := fun _ => R) none (fun _ t _ => List.rec (motive := fun _ => R) none (fun _ t _ => List.rec (motive := fun _ => R) none (fun _ t _ => List.rec (motive := fun _ => R) none (fun _ t _ => List.rec (motive := fun _ => R) none (fun _ t _ => List.rec (motive := fun _ => R) none (fun _ t _ => List.rec (motive := fun _ => R) none (fun _ t _ => List.rec (motive := fun _ => R) none (fun _ t _ => List.rec (motive := fun _ => R) none (fun s _ _ => k s) t) t) t) t) t) t) t) t) t) t) t) t) t) t) t) t) t) t) t) t) ρ
theorem at20_eq : ∀ (ρ : Rho) (k : Sl → R), at20 k ρ = getS ρ 20 k
  | [], _ => rfl
  | _ :: t, k => at19_eq t k
def set20 (x : Sl) (k : Rho → R) (t : Rho) : R := List.rec (motive := fun _ => R) none (fun s0 t _ => List.rec (motive := fun _ => R) none (fun s1 t _ => List.rec (motive := fun _ => R) none (fun s2 t _ => List.rec (motive := fun _ => R) none (fun s3 t _ => List.rec (motive := fun _ => R) none (fun s4 t _ => List.rec (motive := fun _ => R) none (fun s5 t _ => List.rec (motive := fun _ => R) none (fun s6 t _ => List.rec (motive := fun _ => R) none (fun s7 t _ => List.rec (motive := fun _ => R) none (fun s8 t _ => List.rec (motive := fun _ => R) none (fun s9 t _ => List.rec (motive := fun _ => R) none (fun s10 t _ => List.rec (motive := fun _ => R) none (fun s11 t _ => List.rec (motive := fun _ => R) none (fun s12 t _ => List.rec (motive := fun _ => R) none (fun s13 t _ => List.rec (motive := fun _ => R) none (fun s14 t _ => List.rec (motive := fun _ => R) none (fun s15 t _ => List.rec (motive := fun _ => R) none (fun s16 t _ => List.rec (motive := fun _ => R) none (fun s17 t _ => List.rec (motive := fun _ => R) none (fun s18 t _ => List.rec (motive := fun _ => R) none (fun s19 t _ => List.rec (motive := fun _ => R) none (fun _ t _ => k (s0 :: s1 :: s2 :: s3 :: s4 :: s5 :: s6 :: s7 :: s8 :: s9 :: s10 :: s11 :: s12 :: s13 :: s14 :: s15 :: s16 :: s17 :: s18 :: s19 :: x :: t)) t) t) t) t) t) t) t) t) t) t) t) t) t) t) t) t) t) t) t) t) t
theorem set20_eq : ∀ (ρ : Rho) (x : Sl) (k : Rho → R), set20 x k ρ = setS ρ 20 x k
  | [], _, _ => rfl
  | s :: t, x, k => set19_eq t x fun t' => k (s :: t')
def var20 : FE := fun ρ K => at20 (fun s => mSl s none K (fun xs => K (.list xs)) none) ρ
theorem ok_var20 : OkE (eVar 20) var20 := ⟨fun ρ K r h W => (ok_eVar 20).h ρ K r ((at20_eq ρ _).symm.trans h) W⟩
def val20 : FE := fun ρ K => at20 (fun s => mSl s none K (fun _ => none) none) ρ
theorem ok_val20 : OkE (eVal 20) val20 := ⟨fun ρ K r h W => (ok_eVal 20).h ρ K r ((at20_eq ρ _).symm.trans h) W⟩
def gn20 : FG := fun d ρ K => set20 (.d d) K ρ
theorem ok_gn20 : OkG (gN 20) gn20 := ⟨fun d ρ K r h => (ok_gN 20).h d ρ K r ((set20_eq ρ _ K).symm.trans h)⟩
def zS20 (F : FE) : FS := fun ρ nx _ _ _ => F ρ fun d => set20 (.d d) nx ρ
theorem ok_zS20 (h : OkE f F) : OkS (sSet (gN 20) f) (zS20 F) := ok_sSet ok_gn20 h
theorem ok_zSf20 (h : OkE f F) : OkS (sPut false 20 f) (zS20 F) := ok_zS20 h
def zN20 (F : FE) : FS := fun ρ nx _ _ _ => F ρ fun d => newS d fun s => set20 s nx ρ
theorem newS_some20 {d : PyData} {ρ : Rho} {nx : Rho → R} {r : PyData} (h : newS d (fun s => set20 s nx ρ) = some r) : newS d (fun s => setS ρ 20 s nx) = some r := by
  unfold newS at h ⊢
  simp only [set20_eq] at h
  exact h
theorem ok_zN20 (h : OkE f F) : OkS (sNew 20 f) (zN20 F) := ⟨fun ρ nx bk ct rt r q W => (ok_sNew (i := 20) ⟨fun ρ K r q W => h.h ρ K r q W⟩).h ρ nx bk ct rt r (by
  have e : zN20 F ρ nx bk ct rt = zNew 20 F ρ nx bk ct rt := by
    unfold zN20 zNew newS
    simp only [set20_eq]
  exact e.symm.trans q) W⟩
theorem ok_zNt20 (h : OkE f F) : OkS (sPut true 20 f) (zN20 F) := ok_zN20 h
def at21 (k : Sl → R) (ρ : Rho) : R := List.rec (motive := fun _ => R) none (fun _ t _ => List.rec (motive := fun _ => R) none (fun _ t _ => List.rec (motive := fun _ => R) none (fun _ t _ => List.rec (motive := fun _ => R) none (fun _ t _ => List.rec (motive := fun _ => R) none (fun _ t _ => List.rec (motive := fun _ => R) none (fun _ t _ => List.rec (motive := fun _ => R) none (fun _ t _ => List.rec (motive := fun _ => R) none (fun _ t _ => List.rec (motive := fun _ => R) none (fun _ t _ => List.rec (motive := fun _ => R) none (fun _ t _ => List.rec (motive := fun _ => R) none (fun _ t _ => List.rec (motive := fun _ => R) none (fun _ t _ => List.rec (motive := fun _ => R) none (fun _ t _ => List.rec (motive := fun _ => R) none (fun _ t _ => List.rec (motive := fun _ => R) none (fun _ t _ => List.rec (motive := fun _ => R) none (fun _ t _ => List.rec (motive := fun _ => R) none (fun _ t _ => List.rec (motive := fun _ => R) none (fun _ t _ => List.rec (motive := fun _ => R) none (fun _ t _ => List.rec (motive := fun _ => R) none (fun _ t _ => List.rec (motive := fun _ => R) none (fun _ t _ => List.rec (motive := fun _ => R) none (fun s _ _ => k s) t) t) t) t) t) t) t) t) t) t) t) t) t) t) t) t) t) t) t) t) t) ρ
theorem at21_eq : ∀ (ρ : Rho) (k : Sl → R), at21 k ρ = getS ρ 21 k
  | [], _ => rfl
  | _ :: t, k => at20_eq t k
def set21 (x : Sl) (k : Rho → R) (t : Rho) : R := List.rec (motive := fun _ => R) none (fun s0 t _ => List.rec (motive := fun _ => R) none (fun s1 t _ => List.rec (motive := fun _ => R) none (fun s2 t _ => List.rec (motive := fun _ => R) none (fun s3 t _ => List.rec (motive := fun _ => R) none (fun s4 t _ => List.rec (motive := fun _ => R) none (fun s5 t _ => List.rec (motive := fun _ => R) none (fun s6 t _ => List.rec (motive := fun _ => R) none (fun s7 t _ => List.rec (motive := fun _ => R) none (fun s8 t _ => List.rec (motive := fun _ => R) none (fun s9 t _ => List.rec (motive := fun _ => R) none (fun s10 t _ => List.rec (motive := fun _ => R) none (fun s11 t _ => List.rec (motive := fun _ => R) none (fun s12 t _ => List.rec (motive := fun _ => R) none (fun s13 t _ => List.rec (motive := fun _ => R) none (fun s14 t _ => List.rec (motive := fun _ => R) none (fun s15 t _ => List.rec (motive := fun _ => R) none (fun s16 t _ => List.rec (motive := fun _ => R) none (fun s17 t _ => List.rec (motive := fun _ => R) none (fun s18 t _ => List.rec (motive := fun _ => R) none (fun s19 t _ => List.rec (motive := fun _ => R) none (fun s20 t _ => List.rec (motive := fun _ => R) none (fun _ t _ => k (s0 :: s1 :: s2 :: s3 :: s4 :: s5 :: s6 :: s7 :: s8 :: s9 :: s10 :: s11 :: s12 :: s13 :: s14 :: s15 :: s16 :: s17 :: s18 :: s19 :: s20 :: x :: t)) t) t) t) t) t) t) t) t) t) t) t) t) t) t) t) t) t) t) t) t) t) t
theorem set21_eq : ∀ (ρ : Rho) (x : Sl) (k : Rho → R), set21 x k ρ = setS ρ 21 x k
  | [], _, _ => rfl
  | s :: t, x, k => set20_eq t x fun t' => k (s :: t')
def var21 : FE := fun ρ K => at21 (fun s => mSl s none K (fun xs => K (.list xs)) none) ρ
theorem ok_var21 : OkE (eVar 21) var21 := ⟨fun ρ K r h W => (ok_eVar 21).h ρ K r ((at21_eq ρ _).symm.trans h) W⟩
def val21 : FE := fun ρ K => at21 (fun s => mSl s none K (fun _ => none) none) ρ
theorem ok_val21 : OkE (eVal 21) val21 := ⟨fun ρ K r h W => (ok_eVal 21).h ρ K r ((at21_eq ρ _).symm.trans h) W⟩
def gn21 : FG := fun d ρ K => set21 (.d d) K ρ
theorem ok_gn21 : OkG (gN 21) gn21 := ⟨fun d ρ K r h => (ok_gN 21).h d ρ K r ((set21_eq ρ _ K).symm.trans h)⟩
def zS21 (F : FE) : FS := fun ρ nx _ _ _ => F ρ fun d => set21 (.d d) nx ρ
theorem ok_zS21 (h : OkE f F) : OkS (sSet (gN 21) f) (zS21 F) := ok_sSet ok_gn21 h
theorem ok_zSf21 (h : OkE f F) : OkS (sPut false 21 f) (zS21 F) := ok_zS21 h
def zN21 (F : FE) : FS := fun ρ nx _ _ _ => F ρ fun d => newS d fun s => set21 s nx ρ
theorem newS_some21 {d : PyData} {ρ : Rho} {nx : Rho → R} {r : PyData} (h : newS d (fun s => set21 s nx ρ) = some r) : newS d (fun s => setS ρ 21 s nx) = some r := by
  unfold newS at h ⊢
  simp only [set21_eq] at h
  exact h
theorem ok_zN21 (h : OkE f F) : OkS (sNew 21 f) (zN21 F) := ⟨fun ρ nx bk ct rt r q W => (ok_sNew (i := 21) ⟨fun ρ K r q W => h.h ρ K r q W⟩).h ρ nx bk ct rt r (by
  have e : zN21 F ρ nx bk ct rt = zNew 21 F ρ nx bk ct rt := by
    unfold zN21 zNew newS
    simp only [set21_eq]
  exact e.symm.trans q) W⟩
theorem ok_zNt21 (h : OkE f F) : OkS (sPut true 21 f) (zN21 F) := ok_zN21 h
def at22 (k : Sl → R) (ρ : Rho) : R := List.rec (motive := fun _ => R) none (fun _ t _ => List.rec (motive := fun _ => R) none (fun _ t _ => List.rec (motive := fun _ => R) none (fun _ t _ => List.rec (motive := fun _ => R) none (fun _ t _ => List.rec (motive := fun _ => R) none (fun _ t _ => List.rec (motive := fun _ => R) none (fun _ t _ => List.rec (motive := fun _ => R) none (fun _ t _ => List.rec (motive := fun _ => R) none (fun _ t _ => List.rec (motive := fun _ => R) none (fun _ t _ => List.rec (motive := fun _ => R) none (fun _ t _ => List.rec (motive := fun _ => R) none (fun _ t _ => List.rec (motive := fun _ => R) none (fun _ t _ => List.rec (motive := fun _ => R) none (fun _ t _ => List.rec (motive := fun _ => R) none (fun _ t _ => List.rec (motive := fun _ => R) none (fun _ t _ => List.rec (motive := fun _ => R) none (fun _ t _ => List.rec (motive := fun _ => R) none (fun _ t _ => List.rec (motive := fun _ => R) none (fun _ t _ => List.rec (motive := fun _ => R) none (fun _ t _ => List.rec (motive := fun _ => R) none (fun _ t _ => List.rec (motive := fun _ => R) none (fun _ t _ => List.rec (motive := fun _ => R) none (fun _ t _ => List.rec (motive := fun _ => R) none (fun s _ _ => k s) t) t) t) t) t) t) t) t) t) t) t) t) t) t) t) t) t) t) t) t) t) t) ρ
theorem at22_eq : ∀ (ρ : Rho) (k : Sl → R), at22 k ρ = getS ρ 22 k
  | [], _ => rfl
  | _ :: t, k => at21_eq t k
def set22 (x : Sl) (k : Rho → R) (t : Rho) : R := List.rec (motive := fun _ => R) none (fun s0 t _ => List.rec (motive := fun _ => R) none (fun s1 t _ => List.rec (motive := fun _ => R) none (fun s2 t _ => List.rec (motive := fun _ => R) none (fun s3 t _ => List.rec (motive := fun _ => R) none (fun s4 t _ => List.rec (motive := fun _ => R) none (fun s5 t _ => List.rec (motive := fun _ => R) none (fun s6 t _ => List.rec (motive := fun _ => R) none (fun s7 t _ => List.rec (motive := fun _ => R) none (fun s8 t _ => List.rec (motive := fun _ => R) none (fun s9 t _ => List.rec (motive := fun _ => R) none (fun s10 t _ => List.rec (motive := fun _ => R) none (fun s11 t _ => List.rec (motive := fun _ => R) none (fun s12 t _ => List.rec (motive := fun _ => R) none (fun s13 t _ => List.rec (motive := fun _ => R) none (fun s14 t _ => List.rec (motive := fun _ => R) none (fun s15 t _ => List.rec (motive := fun _ => R) none (fun s16 t _ => List.rec (motive := fun _ => R) none (fun s17 t _ => List.rec (motive := fun _ => R) none (fun s18 t _ => List.rec (motive := fun _ => R) none (fun s19 t _ => List.rec (motive := fun _ => R) none (fun s20 t _ => List.rec (motive := fun _ => R) none (fun s21 t _ => List.rec (motive := fun _ => R) none (fun _ t _ => k (s0 :: s1 :: s2 :: s3 :: s4 :: s5 :: s6 :: s7 :: s8 :: s9 :: s10 :: s11 :: s12 :: s13 :: s14 :: s15 :: s16 :: s17 :: s18 :: s19 :: s20 :: s21 :: x :: t)) t) t) t) t) t) t) t) t) t) t) t) t) t) t) t) t) t) t) t) t) t) t) t
theorem set22_eq : ∀ (ρ : Rho) (x : Sl) (k : Rho → R), set22 x k ρ = setS ρ 22 x k
  | [], _, _ => rfl
  | s :: t, x, k => set21_eq t x fun t' => k (s :: t')
def var22 : FE := fun ρ K => at22 (fun s => mSl s none K (fun xs => K (.list xs)) none) ρ
theorem ok_var22 : OkE (eVar 22) var22 := ⟨fun ρ K r h W => (ok_eVar 22).h ρ K r ((at22_eq ρ _).symm.trans h) W⟩
def val22 : FE := fun ρ K => at22 (fun s => mSl s none K (fun _ => none) none) ρ
theorem ok_val22 : OkE (eVal 22) val22 := ⟨fun ρ K r h W => (ok_eVal 22).h ρ K r ((at22_eq ρ _).symm.trans h) W⟩
def gn22 : FG := fun d ρ K => set22 (.d d) K ρ
theorem ok_gn22 : OkG (gN 22) gn22 := ⟨fun d ρ K r h => (ok_gN 22).h d ρ K r ((set22_eq ρ _ K).symm.trans h)⟩
def zS22 (F : FE) : FS := fun ρ nx _ _ _ => F ρ fun d => set22 (.d d) nx ρ
theorem ok_zS22 (h : OkE f F) : OkS (sSet (gN 22) f) (zS22 F) := ok_sSet ok_gn22 h
theorem ok_zSf22 (h : OkE f F) : OkS (sPut false 22 f) (zS22 F) := ok_zS22 h
def zN22 (F : FE) : FS := fun ρ nx _ _ _ => F ρ fun d => newS d fun s => set22 s nx ρ
theorem newS_some22 {d : PyData} {ρ : Rho} {nx : Rho → R} {r : PyData} (h : newS d (fun s => set22 s nx ρ) = some r) : newS d (fun s => setS ρ 22 s nx) = some r := by
  unfold newS at h ⊢
  simp only [set22_eq] at h
  exact h
theorem ok_zN22 (h : OkE f F) : OkS (sNew 22 f) (zN22 F) := ⟨fun ρ nx bk ct rt r q W => (ok_sNew (i := 22) ⟨fun ρ K r q W => h.h ρ K r q W⟩).h ρ nx bk ct rt r (by
  have e : zN22 F ρ nx bk ct rt = zNew 22 F ρ nx bk ct rt := by
    unfold zN22 zNew newS
    simp only [set22_eq]
  exact e.symm.trans q) W⟩
theorem ok_zNt22 (h : OkE f F) : OkS (sPut true 22 f) (zN22 F) := ok_zN22 h
def at23 (k : Sl → R) (ρ : Rho) : R := List.rec (motive := fun _ => R) none (fun _ t _ => List.rec (motive := fun _ => R) none (fun _ t _ => List.rec (motive := fun _ => R) none (fun _ t _ => List.rec (motive := fun _ => R) none (fun _ t _ => List.rec (motive := fun _ => R) none (fun _ t _ => List.rec (motive := fun _ => R) none (fun _ t _ => List.rec (motive := fun _ => R) none (fun _ t _ => List.rec (motive := fun _ => R) none (fun _ t _ => List.rec (motive := fun _ => R) none (fun _ t _ => List.rec (motive := fun _ => R) none (fun _ t _ => List.rec (motive := fun _ => R) none (fun _ t _ => List.rec (motive := fun _ => R) none (fun _ t _ => List.rec (motive := fun _ => R) none (fun _ t _ => List.rec (motive := fun _ => R) none (fun _ t _ => List.rec (motive := fun _ => R) none (fun _ t _ => List.rec (motive := fun _ => R) none (fun _ t _ => List.rec (motive := fun _ => R) none (fun _ t _ => List.rec (motive := fun _ => R) none (fun _ t _ => List.rec (motive := fun _ => R) none (fun _ t _ => List.rec (motive := fun _ => R) none (fun _ t _ => List.rec (motive := fun _ => R) none (fun _ t _ => List.rec (motive := fun _ => R) none (fun _ t _ => List.rec (motive := fun _ => R) none (fun _ t _ => List.rec (motive := fun _ => R) none (fun s _ _ => k s) t) t) t) t) t) t) t) t) t) t) t) t) t) t) t) t) t) t) t) t) t) t) t) ρ
theorem at23_eq : ∀ (ρ : Rho) (k : Sl → R), at23 k ρ = getS ρ 23 k
  | [], _ => rfl
  | _ :: t, k => at22_eq t k
def set23 (x : Sl) (k : Rho → R) (t : Rho) : R := List.rec (motive := fun _ => R) none (fun s0 t _ => List.rec (motive := fun _ => R) none (fun s1 t _ => List.rec (motive := fun _ => R) none (fun s2 t _ => List.rec (motive := fun _ => R) none (fun s3 t _ => List.rec (motive := fun _ => R) none (fun s4 t _ => List.rec (motive := fun _ => R) none (fun s5 t _ => List.rec (motive := fun _ => R) none (fun s6 t _ => List.rec (motive := fun _ => R) none (fun s7 t _ => List.rec (motive := fun _ => R) none (fun s8 t _ => List.rec (motive := fun _ => R) none (fun s9 t _ => List.rec (motive := fun _ => R) none (fun s10 t _ => List.rec (motive := fun _ => R) none (fun s11 t _ => List.rec (motive := fun _ => R) none (fun s12 t _ => List.rec (motive := fun _ => R) none (fun s13 t _ => List.rec (motive := fun _ => R) none (fun s14 t _ => List.rec (motive := fun _ => R) none (fun s15 t _ => List.rec (motive := fun _ => R) none (fun s16 t _ => List.rec (motive := fun _ => R) none (fun s17 t _ => List.rec (motive := fun _ => R) none (fun s18 t _ => List.rec (motive := fun _ => R) none (fun s19 t _ => List.rec (motive := fun _ => R) none (fun s20 t _ => List.rec (motive := fun _ => R) none (fun s21 t _ => List.rec (motive := fun _ => R) none (fun s22 t _ => List.rec (motive := fun _ => R) none (fun _ t _ => k (s0 :: s1 :: s2 :: s3 :: s4 :: s5 :: s6 :: s7 :: s8 :: s9 :: s10 :: s11 :: s12 :: s13 :: s14 :: s15 :: s16 :: s17 :: s18 :: s19 :: s20 :: s21 :: s22 :: x :: t)) t) t) t) t) t) t) t) t) t) t) t) t) t) t) t) t) t) t) t) t) t) t) t) t
theorem set23_eq : ∀ (ρ : Rho) (x : Sl) (k : Rho → R), set23 x k ρ = setS ρ 23 x k
  | [], _, _ => rfl
  | s :: t, x, k => set22_eq t x fun t' => k (s :: t')
def var23 : FE := fun ρ K => at23 (fun s => mSl s none K (fun xs => K (.list xs)) none) ρ
theorem ok_var23 : OkE (eVar 23) var23 := ⟨fun ρ K r h W => (ok_eVar 23).h ρ K r ((at23_eq ρ _).symm.trans h) W⟩
def val23 : FE := fun ρ K => at23 (fun s => mSl s none K (fun _ => none) none) ρ
theorem ok_val23 : OkE (eVal 23) val23 := ⟨fun ρ K r h W => (ok_eVal 23).h ρ K r ((at23_eq ρ _).symm.trans h) W⟩
def gn23 : FG := fun d ρ K => set23 (.d d) K ρ
theorem ok_gn23 : OkG (gN 23) gn23 := ⟨fun d ρ K r h => (ok_gN 23).h d ρ K r ((set23_eq ρ _ K).symm.trans h)⟩
def zS23 (F : FE) : FS := fun ρ nx _ _ _ => F ρ fun d => set23 (.d d) nx ρ
theorem ok_zS23 (h : OkE f F) : OkS (sSet (gN 23) f) (zS23 F) := ok_sSet ok_gn23 h
theorem ok_zSf23 (h : OkE f F) : OkS (sPut false 23 f) (zS23 F) := ok_zS23 h
def zN23 (F : FE) : FS := fun ρ nx _ _ _ => F ρ fun d => newS d fun s => set23 s nx ρ
theorem newS_some23 {d : PyData} {ρ : Rho} {nx : Rho → R} {r : PyData} (h : newS d (fun s => set23 s nx ρ) = some r) : newS d (fun s => setS ρ 23 s nx) = some r := by
  unfold newS at h ⊢
  simp only [set23_eq] at h
  exact h
theorem ok_zN23 (h : OkE f F) : OkS (sNew 23 f) (zN23 F) := ⟨fun ρ nx bk ct rt r q W => (ok_sNew (i := 23) ⟨fun ρ K r q W => h.h ρ K r q W⟩).h ρ nx bk ct rt r (by
  have e : zN23 F ρ nx bk ct rt = zNew 23 F ρ nx bk ct rt := by
    unfold zN23 zNew newS
    simp only [set23_eq]
  exact e.symm.trans q) W⟩
theorem ok_zNt23 (h : OkE f F) : OkS (sPut true 23 f) (zN23 F) := ok_zN23 h
def at24 (k : Sl → R) (ρ : Rho) : R := List.rec (motive := fun _ => R) none (fun _ t _ => List.rec (motive := fun _ => R) none (fun _ t _ => List.rec (motive := fun _ => R) none (fun _ t _ => List.rec (motive := fun _ => R) none (fun _ t _ => List.rec (motive := fun _ => R) none (fun _ t _ => List.rec (motive := fun _ => R) none (fun _ t _ => List.rec (motive := fun _ => R) none (fun _ t _ => List.rec (motive := fun _ => R) none (fun _ t _ => List.rec (motive := fun _ => R) none (fun _ t _ => List.rec (motive := fun _ => R) none (fun _ t _ => List.rec (motive := fun _ => R) none (fun _ t _ => List.rec (motive := fun _ => R) none (fun _ t _ => List.rec (motive := fun _ => R) none (fun _ t _ => List.rec (motive := fun _ => R) none (fun _ t _ => List.rec (motive := fun _ => R) none (fun _ t _ => List.rec (motive := fun _ => R) none (fun _ t _ => List.rec (motive := fun _ => R) none (fun _ t _ => List.rec (motive := fun _ => R) none (fun _ t _ => List.rec (motive := fun _ => R) none (fun _ t _ => List.rec (motive := fun _ => R) none (fun _ t _ => List.rec (motive := fun _ => R) none (fun _ t _ => List.rec (motive := fun _ => R) none (fun _ t _ => List.rec (motive := fun _ => R) none (fun _ t _ => List.rec (motive := fun _ => R) none (fun _ t _ => List.rec (motive := fun _ => R) none (fun s _ _ => k s) t) t) t) t) t) t) t) t) t) t) t) t) t) t) t) t) t) t) t) t) t) t) t) t) ρ
theorem at24_eq : ∀ (ρ : Rho) (k : Sl → R), at24 k ρ = getS ρ 24 k
  | [], _ => rfl
  | _ :: t, k => at23_eq t k
def set24 (x : Sl) (k : Rho → R) (t : Rho) : R := List.rec (motive := fun _ => R) none (fun s0 t _ => List.rec (motive := fun _ => R) none (fun s1 t _ => List.rec (motive := fun _ => R) none (fun s2 t _ => List.rec (motive := fun _ => R) none (fun s3 t _ => List.rec (motive := fun _ => R) none (fun s4 t _ => List.rec (motive := fun _ => R) none (fun s5 t _ => List.rec (motive := fun _ => R) none (fun s6 t _ => List.rec (motive := fun _ => R) none (fun s7 t _ => List.rec (motive := fun _ => R) none (fun s8 t _ => List.rec (motive := fun _ => R) none (fun s9 t _ => List.rec (motive := fun _ => R) none (fun s10 t _ => List.rec (motive := fun _ => R) none (fun s11 t _ => List.rec (motive := fun _ => R) none (fun s12 t _ => List.rec (motive := fun _ => R) none (fun s13 t _ => List.rec (motive := fun _ => R) none (fun s14 t _ => List.rec (motive := fun _ => R) none (fun s15 t _ => List.rec (motive := fun _ => R) none (fun s16 t _ => List.rec (motive := fun _ => R) none (fun s17 t _ => List.rec (motive := fun _ => R) none (fun s18 t _ => List.rec (motive := fun _ => R) none (fun s19 t _ => List.rec (motive := fun _ => R) none (fun s20 t _ => List.rec (motive := fun _ => R) none (fun s21 t _ => List.rec (motive := fun _ => R) none (fun s22 t _ => List.rec (motive := fun _ => R) none (fun s23 t _ => List.rec (motive := fun _ => R) none (fun _ t _ => k (s0 :: s1 :: s2 :: s3 :: s4 :: s5 :: s6 :: s7 :: s8 :: s9 :: s10 :: s11 :: s12 :: s13 :: s14 :: s15 :: s16 :: s17 :: s18 :: s19 :: s20 :: s21 :: s22 :: s23 :: x :: t)) t) t) t) t) t) t) t) t) t) t) t) t) t) t) t) t) t) t) t) t) t) t) t) t) t
theorem set24_eq : ∀ (ρ : Rho) (x : Sl) (k : Rho → R), set24 x k ρ = setS ρ 24 x k
  | [], _, _ => rfl
  | s :: t, x, k => set23_eq t x fun t' => k (s :: t')
def var24 : FE := fun ρ K => at24 (fun s => mSl s none K (fun xs => K (.list xs)) none) ρ
theorem ok_var24 : OkE (eVar 24) var24 := ⟨fun ρ K r h W => (ok_eVar 24).h ρ K r ((at24_eq ρ _).symm.trans h) W⟩
def val24 : FE := fun ρ K => at24 (fun s => mSl s none K (fun _ => none) none) ρ
theorem ok_val24 : OkE (eVal 24) val24 := ⟨fun ρ K r h W => (ok_eVal 24).h ρ K r ((at24_eq ρ _).symm.trans h) W⟩
def gn24 : FG := fun d ρ K => set24 (.d d) K ρ
theorem ok_gn24 : OkG (gN 24) gn24 := ⟨fun d ρ K r h => (ok_gN 24).h d ρ K r ((set24_eq ρ _ K).symm.trans h)⟩
def zS24 (F : FE) : FS := fun ρ nx _ _ _ => F ρ fun d => set24 (.d d) nx ρ
theorem ok_zS24 (h : OkE f F) : OkS (sSet (gN 24) f) (zS24 F) := ok_sSet ok_gn24 h
theorem ok_zSf24 (h : OkE f F) : OkS (sPut false 24 f) (zS24 F) := ok_zS24 h
def zN24 (F : FE) : FS := fun ρ nx _ _ _ => F ρ fun d => newS d fun s => set24 s nx ρ
theorem newS_some24 {d : PyData} {ρ : Rho} {nx : Rho → R} {r : PyData} (h : newS d (fun s => set24 s nx ρ) = some r) : newS d (fun s => setS ρ 24 s nx) = some r := by
  unfold newS at h ⊢
  simp only [set24_eq] at h
  exact h
theorem ok_zN24 (h : OkE f F) : OkS (sNew 24 f) (zN24 F) := ⟨fun ρ nx bk ct rt r q W => (ok_sNew (i := 24) ⟨fun ρ K r q W => h.h ρ K r q W⟩).h ρ nx bk ct rt r (by
  have e : zN24 F ρ nx bk ct rt = zNew 24 F ρ nx bk ct rt := by
    unfold zN24 zNew newS
    simp only [set24_eq]
  exact e.symm.trans q) W⟩
theorem ok_zNt24 (h : OkE f F) : OkS (sPut true 24 f) (zN24 F) := ok_zN24 h
def at25 (k : Sl → R) (ρ : Rho) : R := List.rec (motive := fun _ => R) none (fun _ t _ => List.rec (motive := fun _ => R) none (fun _ t _ => List.rec (motive := fun _ => R) none (fun _ t _ => List.rec (motive := fun _ => R) none (fun _ t _ => List.rec (motive := fun _ => R) none (fun _ t _ => List.rec (motive := fun _ => R) none (fun _ t _ => List.rec (motive := fun _ => R) none (fun _ t _ => List.rec (motive := fun _ => R) none (fun _ t _ => List.rec (motive := fun _ => R) none (fun _ t _ => List.rec (motive := fun _ => R) none (fun _ t _ => List.rec (motive := fun _ => R) none (fun _ t _ => List.rec (motive := fun _ => R) none (fun _ t _ => List.rec (motive := fun _ => R) none (fun _ t _ => List.rec (motive := fun _ => R) none (fun _ t _ => List.rec (motive := fun _ => R) none (fun _ t _ => List.rec (motive := fun _ => R) none (fun _ t _ => List.rec (motive := fun _ => R) none (fun _ t _ => List.rec (motive := fun _ => R) none (fun _ t _ => List.rec (motive := fun _ => R) none (fun _ t _ => List.rec (motive := fun _ => R) none (fun _ t _ => List.rec (motive := fun _ => R) none (fun _ t _ => List.rec (motive := fun _ => R) none (fun _ t _ => List.rec (motive := fun _ => R) none (fun _ t _ => List.rec (motive := fun _ => R) none (fun _ t _ => List.rec (motive := fun _ => R) none (fun _ t _ => List.rec (motive := fun _ => R) none (fun s _ _ => k s) t) t) t) t) t) t) t) t) t) t) t) t) t) t) t) t) t) t) t) t) t) t) t) t) t) ρ
theorem at25_eq : ∀ (ρ : Rho) (k : Sl → R), at25 k ρ = getS ρ 25 k
  | [], _ => rfl
  | _ :: t, k => at24_eq t k
def set25 (x : Sl) (k : Rho → R) (t : Rho) : R := List.rec (motive := fun _ => R) none (fun s0 t _ => List.rec (motive := fun _ => R) none (fun s1 t _ => List.rec (motive := fun _ => R) none (fun s2 t _ => List.rec (motive := fun _ => R) none (fun s3 t _ => List.rec (motive := fun _ => R) none (fun s4 t _ => List.rec (motive := fun _ => R) none (fun s5 t _ => List.rec (motive := fun _ => R) none (fun s6 t _ => List.rec (motive := fun _ => R) none (fun s7 t _ => List.rec (motive := fun _ => R) none (fun s8 t _ => List.rec (motive := fun _ => R) none (fun s9 t _ => List.rec (motive := fun _ => R) none (fun s10 t _ => List.rec (motive := fun _ => R) none (fun s11 t _ => List.rec (motive := fun _ => R) none (fun s12 t _ => List.rec (motive := fun _ => R) none (fun s13 t _ => List.rec (motive := fun _ => R) none (fun s14 t _ => List.rec (motive := fun _ => R) none (fun s15 t _ => List.rec (motive := fun _ => R) none (fun s16 t _ => List.rec (motive := fun _ => R) none (fun s17 t _ => List.rec (motive := fun _ => R) none (fun s18 t _ => List.rec (motive := fun _ => R) none (fun s19 t _ => List.rec (motive := fun _ => R) none (fun s20 t _ => List.rec (motive := fun _ => R) none (fun s21 t _ => List.rec (motive := fun _ => R) none (fun s22 t _ => List.rec (motive := fun _ => R) none (fun s23 t _ => List.rec (motive := fun _ => R) none (fun s24 t _ => List.rec (motive := fun _ => R) none (fun _ t _ => k (s0 :: s1 :: s2 :: s3 :: s4 :: s5 :: s6 :: s7 :: s8 :: s9 :: s10 :: s11 :: s12 :: s13 :: s14 :: s15 :: s16 :: s17 :: s18 :: s19 :: s20 :: s21 :: s22 :: s23 :: s24 :: x :: t)) t) t) t) t) t) t) t) t) t) t) t) t) t) t) t) t) t) t) t) t) t) t) t) t) t) t
theorem set25_eq : ∀ (ρ : Rho) (x : Sl) (k : Rho → R), set25 x k ρ = setS ρ 25 x k
  | [], _, _ => rfl
  | s :: t, x, k => set24_eq t x fun t' => k (s :: t')
def var25 : FE := fun ρ K => at25 (fun s => mSl s none K (fun xs => K (.list xs)) none) ρ
theorem ok_var25 : OkE (eVar 25) var25 := ⟨fun ρ K r h W => (ok_eVar 25).h ρ K r ((at25_eq ρ _).symm.trans h) W⟩
def val25 : FE := fun ρ K => at25 (fun s => mSl s none K (fun _ => none) none) ρ
theorem ok_val25 : OkE (eVal 25) val25 := ⟨fun ρ K r h W => (ok_eVal 25).h ρ K r ((at25_eq ρ _).symm.trans h) W⟩
def gn25 : FG := fun d ρ K => set25 (.d d) K ρ
theorem ok_gn25 : OkG (gN 25) gn25 := ⟨fun d ρ K r h => (ok_gN 25).h d ρ K r ((set25_eq ρ _ K).symm.trans h)⟩
def zS25 (F : FE) : FS := fun ρ nx _ _ _ => F ρ fun d => set25 (.d d) nx ρ
theorem ok_zS25 (h : OkE f F) : OkS (sSet (gN 25) f) (zS25 F) := ok_sSet ok_gn25 h
theorem ok_zSf25 (h : OkE f F) : OkS (sPut false 25 f) (zS25 F) := ok_zS25 h
def zN25 (F : FE) : FS := fun ρ nx _ _ _ => F ρ fun d => newS d fun s => set25 s nx ρ
theorem newS_some25 {d : PyData} {ρ : Rho} {nx : Rho → R} {r : PyData} (h : newS d (fun s => set25 s nx ρ) = some r) : newS d (fun s => setS ρ 25 s nx) = some r := by
  unfold newS at h ⊢
  simp only [set25_eq] at h
  exact h
theorem ok_zN25 (h : OkE f F) : OkS (sNew 25 f) (zN25 F) := ⟨fun ρ nx bk ct rt r q W => (ok_sNew (i := 25) ⟨fun ρ K r q W => h.h ρ K r q W⟩).h ρ nx bk ct rt r (by
  have e : zN25 F ρ nx bk ct rt = zNew 25 F ρ nx bk ct rt := by
    unfold zN25 zNew newS
    simp only [set25_eq]
  exact e.symm.trans q) W⟩
theorem ok_zNt25 (h : OkE f F) : OkS (sPut true 25 f) (zN25 F) := ok_zN25 h
def zF0 (A : FS) : FS := fun ρ nx bk ct rt => at0 (fun s => mSl s (A ρ nx bk ct rt) (fun _ => A ρ nx bk ct rt) (fun xs => set0 (.d (.list xs)) (fun ρ1 => A ρ1 nx bk ct rt) ρ) (A ρ nx bk ct rt)) ρ
theorem ok_zF0 {is : List Nat} (h : OkS (sFrz is a) A) : OkS (sFrz (0 :: is) a) (zF0 A) := ⟨fun ρ nx bk ct rt r q W => by
  have e : frzC 0 ρ (fun ρ1 => A ρ1 nx bk ct rt) = some r := by
    unfold zF0 at q
    unfold frzC
    simp only [set0_eq, at0_eq] at q
    exact q
  exact h.h _ _ _ _ _ _ (frzC_some e) W⟩
def zF1 (A : FS) : FS := fun ρ nx bk ct rt => at1 (fun s => mSl s (A ρ nx bk ct rt) (fun _ => A ρ nx bk ct rt) (fun xs => set1 (.d (.list xs)) (fun ρ1 => A ρ1 nx bk ct rt) ρ) (A ρ nx bk ct rt)) ρ
theorem ok_zF1 {is : List Nat} (h : OkS (sFrz is a) A) : OkS (sFrz (1 :: is) a) (zF1 A) := ⟨fun ρ nx bk ct rt r q W => by
  have e : frzC 1 ρ (fun ρ1 => A ρ1 nx bk ct rt) = some r := by
    unfold zF1 at q
    unfold frzC
    simp only [set1_eq, at1_eq] at q
    exact q
  exact h.h _ _ _ _ _ _ (frzC_some e) W⟩
def zF2 (A : FS) : FS := fun ρ nx bk ct rt => at2 (fun s => mSl s (A ρ nx bk ct rt) (fun _ => A ρ nx bk ct rt) (fun xs => set2 (.d (.list xs)) (fun ρ1 => A ρ1 nx bk ct rt) ρ) (A ρ nx bk ct rt)) ρ
theorem ok_zF2 {is : List Nat} (h : OkS (sFrz is a) A) : OkS (sFrz (2 :: is) a) (zF2 A) := ⟨fun ρ nx bk ct rt r q W => by
  have e : frzC 2 ρ (fun ρ1 => A ρ1 nx bk ct rt) = some r := by
    unfold zF2 at q
    unfold frzC
    simp only [set2_eq, at2_eq] at q
    exact q
  exact h.h _ _ _ _ _ _ (frzC_some e) W⟩
def zF3 (A : FS) : FS := fun ρ nx bk ct rt => at3 (fun s => mSl s (A ρ nx bk ct rt) (fun _ => A ρ nx bk ct rt) (fun xs => set3 (.d (.list xs)) (fun ρ1 => A ρ1 nx bk ct rt) ρ) (A ρ nx bk ct rt)) ρ
theorem ok_zF3 {is : List Nat} (h : OkS (sFrz is a) A) : OkS (sFrz (3 :: is) a) (zF3 A) := ⟨fun ρ nx bk ct rt r q W => by
  have e : frzC 3 ρ (fun ρ1 => A ρ1 nx bk ct rt) = some r := by
    unfold zF3 at q
    unfold frzC
    simp only [set3_eq, at3_eq] at q
    exact q
  exact h.h _ _ _ _ _ _ (frzC_some e) W⟩
def zF4 (A : FS) : FS := fun ρ nx bk ct rt => at4 (fun s => mSl s (A ρ nx bk ct rt) (fun _ => A ρ nx bk ct rt) (fun xs => set4 (.d (.list xs)) (fun ρ1 => A ρ1 nx bk ct rt) ρ) (A ρ nx bk ct rt)) ρ
theorem ok_zF4 {is : List Nat} (h : OkS (sFrz is a) A) : OkS (sFrz (4 :: is) a) (zF4 A) := ⟨fun ρ nx bk ct rt r q W => by
  have e : frzC 4 ρ (fun ρ1 => A ρ1 nx bk ct rt) = some r := by
    unfold zF4 at q
    unfold frzC
    simp only [set4_eq, at4_eq] at q
    exact q
  exact h.h _ _ _ _ _ _ (frzC_some e) W⟩
def zF5 (A : FS) : FS := fun ρ nx bk ct rt => at5 (fun s => mSl s (A ρ nx bk ct rt) (fun _ => A ρ nx bk ct rt) (fun xs => set5 (.d (.list xs)) (fun ρ1 => A ρ1 nx bk ct rt) ρ) (A ρ nx bk ct rt)) ρ
theorem ok_zF5 {is : List Nat} (h : OkS (sFrz is a) A) : OkS (sFrz (5 :: is) a) (zF5 A) := ⟨fun ρ nx bk ct rt r q W => by
  have e : frzC 5 ρ (fun ρ1 => A ρ1 nx bk ct rt) = some r := by
    unfold zF5 at q
    unfold frzC
    simp only [set5_eq, at5_eq] at q
    exact q
  exact h.h _ _ _ _ _ _ (frzC_some e) W⟩
def zF6 (A : FS) : FS := fun ρ nx bk ct rt => at6 (fun s => mSl s (A ρ nx bk ct rt) (fun _ => A ρ nx bk ct rt) (fun xs => set6 (.d (.list xs)) (fun ρ1 => A ρ1 nx bk ct rt) ρ) (A ρ nx bk ct rt)) ρ
theorem ok_zF6 {is : List Nat} (h : OkS (sFrz is a) A) : OkS (sFrz (6 :: is) a) (zF6 A) := ⟨fun ρ nx bk ct rt r q W => by
  have e : frzC 6 ρ (fun ρ1 => A ρ1 nx bk ct rt) = some r := by
    unfold zF6 at q
    unfold frzC
    simp only [set6_eq, at6_eq] at q
    exact q
  exact h.h _ _ _ _ _ _ (frzC_some e) W⟩
def zF7 (A : FS) : FS := fun ρ nx bk ct rt => at7 (fun s => mSl s (A ρ nx bk ct rt) (fun _ => A ρ nx bk ct rt) (fun xs => set7 (.d (.list xs)) (fun ρ1 => A ρ1 nx bk ct rt) ρ) (A ρ nx bk ct rt)) ρ
theorem ok_zF7 {is : List Nat} (h : OkS (sFrz is a) A) : OkS (sFrz (7 :: is) a) (zF7 A) := ⟨fun ρ nx bk ct rt r q W => by
  have e : frzC 7 ρ (fun ρ1 => A ρ1 nx bk ct rt) = some r := by
    unfold zF7 at q
    unfold frzC
    simp only [set7_eq, at7_eq] at q
    exact q
  exact h.h _ _ _ _ _ _ (frzC_some e) W⟩
def zF8 (A : FS) : FS := fun ρ nx bk ct rt => at8 (fun s => mSl s (A ρ nx bk ct rt) (fun _ => A ρ nx bk ct rt) (fun xs => set8 (.d (.list xs)) (fun ρ1 => A ρ1 nx bk ct rt) ρ) (A ρ nx bk ct rt)) ρ
theorem ok_zF8 {is : List Nat} (h : OkS (sFrz is a) A) : OkS (sFrz (8 :: is) a) (zF8 A) := ⟨fun ρ nx bk ct rt r q W => by
  have e : frzC 8 ρ (fun ρ1 => A ρ1 nx bk ct rt) = some r := by
    unfold zF8 at q
    unfold frzC
    simp only [set8_eq, at8_eq] at q
    exact q
  exact h.h _ _ _ _ _ _ (frzC_some e) W⟩
def zF9 (A : FS) : FS := fun ρ nx bk ct rt => at9 (fun s => mSl s (A ρ nx bk ct rt) (fun _ => A ρ nx bk ct rt) (fun xs => set9 (.d (.list xs)) (fun ρ1 => A ρ1 nx bk ct rt) ρ) (A ρ nx bk ct rt)) ρ
theorem ok_zF9 {is : List Nat} (h : OkS (sFrz is a) A) : OkS (sFrz (9 :: is) a) (zF9 A) := ⟨fun ρ nx bk ct rt r q W => by
  have e : frzC 9 ρ (fun ρ1 => A ρ1 nx bk ct rt) = some r := by
    unfold zF9 at q
    unfold frzC
    simp only [set9_eq, at9_eq] at q
    exact q
  exact h.h _ _ _ _ _ _ (frzC_some e) W⟩
def zF10 (A : FS) : FS := fun ρ nx bk ct rt => at10 (fun s => mSl s (A ρ nx bk ct rt) (fun _ => A ρ nx bk ct rt) (fun xs => set10 (.d (.list xs)) (fun ρ1 => A ρ1 nx bk ct rt) ρ) (A ρ nx bk ct rt)) ρ
theorem ok_zF10 {is : List Nat} (h : OkS (sFrz is a) A) : OkS (sFrz (10 :: is) a) (zF10 A) := ⟨fun ρ nx bk ct rt r q W => by
  have e : frzC 10 ρ (fun ρ1 => A ρ1 nx bk ct rt) = some r := by
    unfold zF10 at q
    unfold frzC
    simp only [set10_eq, at10_eq] at q
    exact q
  exact h.h _ _ _ _ _ _ (frzC_some e) W⟩
def zF11 (A : FS) : FS := fun ρ nx bk ct rt => at11 (fun s => mSl s (A ρ nx bk ct rt) (fun _ => A ρ nx bk ct rt) (fun xs => set11 (.d (.list xs)) (fun ρ1 => A ρ1 nx bk ct rt) ρ) (A ρ nx bk ct rt)) ρ
theorem ok_zF11 {is : List Nat} (h : OkS (sFrz is a) A) : OkS (sFrz (11 :: is) a) (zF11 A) := ⟨fun ρ nx bk ct rt r q W => by
  have e : frzC 11 ρ (fun ρ1 => A ρ1 nx bk ct rt) = some r := by
    unfold zF11 at q
    unfold frzC
    simp only [set11_eq, at11_eq] at q
    exact q
  exact h.h _ _ _ _ _ _ (frzC_some e) W⟩
def zF12 (A : FS) : FS := fun ρ nx bk ct rt => at12 (fun s => mSl s (A ρ nx bk ct rt) (fun _ => A ρ nx bk ct rt) (fun xs => set12 (.d (.list xs)) (fun ρ1 => A ρ1 nx bk ct rt) ρ) (A ρ nx bk ct rt)) ρ
theorem ok_zF12 {is : List Nat} (h : OkS (sFrz is a) A) : OkS (sFrz (12 :: is) a) (zF12 A) := ⟨fun ρ nx bk ct rt r q W => by
  have e : frzC 12 ρ (fun ρ1 => A ρ1 nx bk ct rt) = some r := by
    unfold zF12 at q
    unfold frzC
    simp only [set12_eq, at12_eq] at q
    exact q
  exact h.h _ _ _ _ _ _ (frzC_some e) W⟩
def zF13 (A : FS) : FS := fun ρ nx bk ct rt => at13 (fun s => mSl s (A ρ nx bk ct rt) (fun _ => A ρ nx bk ct rt) (fun xs => set13 (.d (.list xs)) (fun ρ1 => A ρ1 nx bk ct rt) ρ) (A ρ nx bk ct rt)) ρ
theorem ok_zF13 {is : List Nat} (h : OkS (sFrz is a) A) : OkS (sFrz (13 :: is) a) (zF13 A) := ⟨fun ρ nx bk ct rt r q W => by
  have e : frzC 13 ρ (fun ρ1 => A ρ1 nx bk ct rt) = some r := by
    unfold zF13 at q
    unfold frzC
    simp only [set13_eq, at13_eq] at q
    exact q
  exact h.h _ _ _ _ _ _ (frzC_some e) W⟩
def zF14 (A : FS) : FS := fun ρ nx bk ct rt => at14 (fun s => mSl s (A ρ nx bk ct rt) (fun _ => A ρ nx bk ct rt) (fun xs => set14 (.d (.list xs)) (fun ρ1 => A ρ1 nx bk ct rt) ρ) (A ρ nx bk ct rt)) ρ
theorem ok_zF14 {is : List Nat} (h : OkS (sFrz is a) A) : OkS (sFrz (14 :: is) a) (zF14 A) := ⟨fun ρ nx bk ct rt r q W => by
  have e : frzC 14 ρ (fun ρ1 => A ρ1 nx bk ct rt) = some r := by
    unfold zF14 at q
    unfold frzC
    simp only [set14_eq, at14_eq] at q
    exact q
  exact h.h _ _ _ _ _ _ (frzC_some e) W⟩
def zF15 (A : FS) : FS := fun ρ nx bk ct rt => at15 (fun s => mSl s (A ρ nx bk ct rt) (fun _ => A ρ nx bk ct rt) (fun xs => set15 (.d (.list xs)) (fun ρ1 => A ρ1 nx bk ct rt) ρ) (A ρ nx bk ct rt)) ρ
theorem ok_zF15 {is : List Nat} (h : OkS (sFrz is a) A) : OkS (sFrz (15 :: is) a) (zF15 A) := ⟨fun ρ nx bk ct rt r q W => by
  have e : frzC 15 ρ (fun ρ1 => A ρ1 nx bk ct rt) = some r := by
    unfold zF15 at q
    unfold frzC
    simp only [set15_eq, at15_eq] at q
    exact q
  exact h.h _ _ _ _ _ _ (frzC_some e) W⟩
def zF16 (A : FS) : FS := fun ρ nx bk ct rt => at16 (fun s => mSl s (A ρ nx bk ct rt) (fun _ => A ρ nx bk ct rt) (fun xs => set16 (.d (.list xs)) (fun ρ1 => A ρ1 nx bk ct rt) ρ) (A ρ nx bk ct rt)) ρ
theorem ok_zF16 {is : List Nat} (h : OkS (sFrz is a) A) : OkS (sFrz (16 :: is) a) (zF16 A) := ⟨fun ρ nx bk ct rt r q W => by
  have e : frzC 16 ρ (fun ρ1 => A ρ1 nx bk ct rt) = some r := by
    unfold zF16 at q
    unfold frzC
    simp only [set16_eq, at16_eq] at q
    exact q
  exact h.h _ _ _ _ _ _ (frzC_some e) W⟩
def zF17 (A : FS) : FS := fun ρ nx bk ct rt => at17 (fun s => mSl s (A ρ nx bk ct rt) (fun _ => A ρ nx bk ct rt) (fun xs => set17 (.d (.list xs)) (fun ρ1 => A ρ1 nx bk ct rt) ρ) (A ρ nx bk ct rt)) ρ
theorem ok_zF17 {is : List Nat} (h : OkS (sFrz is a) A) : OkS (sFrz (17 :: is) a) (zF17 A) := ⟨fun ρ nx bk ct rt r q W => by
  have e : frzC 17 ρ (fun ρ1 => A ρ1 nx bk ct rt) = some r := by
    unfold zF17 at q
    unfold frzC
    simp only [set17_eq, at17_eq] at q
    exact q
  exact h.h _ _ _ _ _ _ (frzC_some e) W⟩
def zF18 (A : FS) : FS := fun ρ nx bk ct rt => at18 (fun s => mSl s (A ρ nx bk ct rt) (fun _ => A ρ nx bk ct rt) (fun xs => set18 (.d (.list xs)) (fun ρ1 => A ρ1 nx bk ct rt) ρ) (A ρ nx bk ct rt)) ρ
theorem ok_zF18 {is : List Nat} (h : OkS (sFrz is a) A) : OkS (sFrz (18 :: is) a) (zF18 A) := ⟨fun ρ nx bk ct rt r q W => by
  have e : frzC 18 ρ (fun ρ1 => A ρ1 nx bk ct rt) = some r := by
    unfold zF18 at q
    unfold frzC
    simp only [set18_eq, at18_eq] at q
    exact q
  exact h.h _ _ _ _ _ _ (frzC_some e) W⟩
def zF19 (A : FS) : FS := fun ρ nx bk ct rt => at19 (fun s => mSl s (A ρ nx bk ct rt) (fun _ => A ρ nx bk ct rt) (fun xs => set19 (.d (.list xs)) (fun ρ1 => A ρ1 nx bk ct rt) ρ) (A ρ nx bk ct rt)) ρ
theorem ok_zF19 {is : List Nat} (h : OkS (sFrz is a) A) : OkS (sFrz (19 :: is) a) (zF19 A) := ⟨fun ρ nx bk ct rt r q W => by
  have e : frzC 19 ρ (fun ρ1 => A ρ1 nx bk ct rt) = some r := by
    unfold zF19 at q
    unfold frzC
    simp only [set19_eq, at19_eq] at q
    exact q
  exact h.h _ _ _ _ _ _ (frzC_some e) W⟩
def zF20 (A : FS) : FS := fun ρ nx bk ct rt => at20 (fun s => mSl s (A ρ nx bk ct rt) (fun _ => A ρ nx bk ct rt) (fun xs => set20 (.d (.list xs)) (fun ρ1 => A ρ1 nx bk ct rt) ρ) (A ρ nx bk ct rt)) ρ
theorem ok_zF20 {is : List Nat} (h : OkS (sFrz is a) A) : OkS (sFrz (20 :: is) a) (zF20 A) := ⟨fun ρ nx bk ct rt r q W => by
  have e : frzC 20 ρ (fun ρ1 => A ρ1 nx bk ct rt) = some r := by
    unfold zF20 at q
    unfold frzC
    simp only [set20_eq, at20_eq] at q
    exact q
  exact h.h _ _ _ _ _ _ (frzC_some e) W⟩
def zF21 (A : FS) : FS := fun ρ nx bk ct rt => at21 (fun s => mSl s (A ρ nx bk ct rt) (fun _ => A ρ nx bk ct rt) (fun xs => set21 (.d (.list xs)) (fun ρ1 => A ρ1 nx bk ct rt) ρ) (A ρ nx bk ct rt)) ρ
theorem ok_zF21 {is : List Nat} (h : OkS (sFrz is a) A) : OkS (sFrz (21 :: is) a) (zF21 A) := ⟨fun ρ nx bk ct rt r q W => by
  have e : frzC 21 ρ (fun ρ1 => A ρ1 nx bk ct rt) = some r := by
    unfold zF21 at q
    unfold frzC
    simp only [set21_eq, at21_eq] at q
    exact q
  exact h.h _ _ _ _ _ _ (frzC_some e) W⟩
def zF22 (A : FS) : FS := fun ρ nx bk ct rt => at22 (fun s => mSl s (A ρ nx bk ct rt) (fun _ => A ρ nx bk ct rt) (fun xs => set22 (.d (.list xs)) (fun ρ1 => A ρ1 nx bk ct rt) ρ) (A ρ nx bk ct rt)) ρ
theorem ok_zF22 {is : List Nat} (h : OkS (sFrz is a) A) : OkS (sFrz (22 :: is) a) (zF22 A) := ⟨fun ρ nx bk ct rt r q W => by
  have e : frzC 22 ρ (fun ρ1 => A ρ1 nx bk ct rt) = some r := by
    unfold zF22 at q
    unfold frzC
    simp only [set22_eq, at22_eq] at q
    exact q
  exact h.h _ _ _ _ _ _ (frzC_some e) W⟩
def zF23 (A : FS) : FS := fun ρ nx bk ct rt => at23 (fun s => mSl s (A ρ nx bk ct rt) (fun _ => A ρ nx bk ct rt) (fun xs => set23 (.d (.list xs)) (fun ρ1 => A ρ1 nx bk ct rt) ρ) (A ρ nx bk ct rt)) ρ
theorem ok_zF23 {is : List Nat} (h : OkS (sFrz is a) A) : OkS (sFrz (23 :: is) a) (zF23 A) := ⟨fun ρ nx bk ct rt r q W => by
  have e : frzC 23 ρ (fun ρ1 => A ρ1 nx bk ct rt) = some r := by
    unfold zF23 at q
    unfold frzC
    simp only [set23_eq, at23_eq] at q
    exact q
  exact h.h _ _ _ _ _ _ (frzC_some e) W⟩
def zF24 (A : FS) : FS := fun ρ nx bk ct rt => at24 (fun s => mSl s (A ρ nx bk ct rt) (fun _ => A ρ nx bk ct rt) (fun xs => set24 (.d (.list xs)) (fun ρ1 => A ρ1 nx bk ct rt) ρ) (A ρ nx bk ct rt)) ρ
theorem ok_zF24 {is : List Nat} (h : OkS (sFrz is a) A) : OkS (sFrz (24 :: is) a) (zF24 A) := ⟨fun ρ nx bk ct rt r q W => by
  have e : frzC 24 ρ (fun ρ1 => A ρ1 nx bk ct rt) = some r := by
    unfold zF24 at q
    unfold frzC
    simp only [set24_eq, at24_eq] at q
    exact q
  exact h.h _ _ _ _ _ _ (frzC_some e) W⟩
def zF25 (A : FS) : FS := fun ρ nx bk ct rt => at25 (fun s => mSl s (A ρ nx bk ct rt) (fun _ => A ρ nx bk ct rt) (fun xs => set25 (.d (.list xs)) (fun ρ1 => A ρ1 nx bk ct rt) ρ) (A ρ nx bk ct rt)) ρ
theorem ok_zF25 {is : List Nat} (h : OkS (sFrz is a) A) : OkS (sFrz (25 :: is) a) (zF25 A) := ⟨fun ρ nx bk ct rt r q W => by
  have e : frzC 25 ρ (fun ρ1 => A ρ1 nx bk ct rt) = some r := by
    unfold zF25 at q
    unfold frzC
    simp only [set25_eq, at25_eq] at q
    exact q
  exact h.h _ _ _ _ _ _ (frzC_some e) W⟩

theorem ok_frz0 (h : OkS a A) : OkS (sFrz [] a) A := ⟨fun ρ nx bk ct rt r q W => h.h ρ nx bk ct rt r q W⟩
theorem ok_end (h : OkS a A) : OkS (sC a s0) A := ⟨fun ρ nx bk ct rt r q W => by
  obtain ⟨o, e, q1⟩ := h.h ρ _ _ _ _ r q W
  refine ⟨o, ?_, q1⟩
  unfold sC
  rw [e]
  cases o <;> rfl⟩

theorem wfn_of {n m : Nat} {as : List Ar} {W : Src} {o : Out} {d : PyData} {rest : Rho} (hm : List.replicate (m - n) .no = rest) (hl : as.length = n)
    (e : a (as.map slOf ++ rest) W = some o) (q : EndOk (fun _ => some .none) (fun _ => none) (fun _ => none) some d o) : ∃ W', wfn n m a as W = some (d, W') := by
  subst hl
  subst hm
  unfold wfn
  rw [if_pos rfl, e]
  cases o with
  | nx ρ W1 => cases q; exact ⟨W1, rfl⟩
  | rt d W1 => cases q; exact ⟨W1, rfl⟩
  | bk ρ W1 => cases q
  | ct ρ W1 => cases q
def Pu0 (φ : Ctr) (r : R) : Prop := ∀ d, r = some d → ∀ W, ∃ W', φ [] W = some (d, W')
def call0 (r : R) : FE := fun ρ K => Option.rec none K r
theorem ok_call0 {φ : Ctr} {r : R} (p : Pu0 φ r)  : OkE (eCall φ aNil) (call0 r ) := ⟨fun ρ K z q W => by
  cases er : r with
  | none => subst er; cases q
  | some d =>
    subst er
    obtain ⟨W9, e9⟩ := p  d rfl W
    refine ⟨d, W9, ?_, q⟩
    unfold eCall
    have e : aNil ρ W = some ([], W) := by
      simp only [aCons, aNil]
    rw [e]
    exact e9⟩
def run0 (A : FS) (rest : Rho) : R := A (rest) (fun _ => some .none) (fun _ => none) (fun _ => none) some
theorem pu_run0 {m : Nat} {rest : Rho} (hm : List.replicate (m - 0) .no = rest) (h : OkS a A) : Pu0 (wfn 0 m a) (run0 A rest) := fun  d q W => by
  obtain ⟨o, e, q1⟩ := h.h _ _ _ _ _ _ q W
  exact wfn_of (as := []) hm rfl e q1
def Pu1 (φ : Ctr) (r : PyData → R) : Prop := ∀ x0 d, r x0 = some d → ∀ W, ∃ W', φ [.d x0] W = some (d, W')
def call1 (r : PyData → R) (F0 : FE) : FE := fun ρ K => F0 ρ fun x0 => Option.rec none K (r x0)
theorem ok_call1 {φ : Ctr} {r : PyData → R} {f0 : Ex} {F0 : FE} (p : Pu1 φ r) (h0 : OkE f0 F0) : OkE (eCall φ (aCons f0 aNil)) (call1 r F0) := ⟨fun ρ K z q W => by
  obtain ⟨x0, W0, e0, q0⟩ := h0.h ρ _ z q W
  cases er : r x0 with
  | none => rw [er] at q0; cases q0
  | some d =>
    rw [er] at q0
    obtain ⟨W9, e9⟩ := p x0 d er W0
    refine ⟨d, W9, ?_, q0⟩
    unfold eCall
    have e : (aCons f0 aNil) ρ W = some ([.d x0], W0) := by
      simp only [aCons, aNil, e0]
    rw [e]
    exact e9⟩
def run1 (A : FS) (rest : Rho) (x0 : PyData) : R := A (.d x0 :: rest) (fun _ => some .none) (fun _ => none) (fun _ => none) some
theorem pu_run1 {m : Nat} {rest : Rho} (hm : List.replicate (m - 1) .no = rest) (h : OkS a A) : Pu1 (wfn 1 m a) (run1 A rest) := fun x0 d q W => by
  obtain ⟨o, e, q1⟩ := h.h _ _ _ _ _ _ q W
  exact wfn_of (as := [.d x0]) hm rfl e q1
def Pu2 (φ : Ctr) (r : PyData → PyData → R) : Prop := ∀ x0 x1 d, r x0 x1 = some d → ∀ W, ∃ W', φ [.d x0, .d x1] W = some (d, W')
def call2 (r : PyData → PyData → R) (F0 F1 : FE) : FE := fun ρ K => F0 ρ fun x0 => F1 ρ fun x1 => Option.rec none K (r x0 x1)
theorem ok_call2 {φ : Ctr} {r : PyData → PyData → R} {f0 f1 : Ex} {F0 F1 : FE} (p : Pu2 φ r) (h0 : OkE f0 F0) (h1 : OkE f1 F1) : OkE (eCall φ (aCons f0 (aCons f1 aNil))) (call2 r F0 F1) := ⟨fun ρ K z q W => by
  obtain ⟨x0, W0, e0, q0⟩ := h0.h ρ _ z q W
  obtain ⟨x1, W1, e1, q1⟩ := h1.h ρ _ z q0 W0
  cases er : r x0 x1 with
  | none => rw [er] at q1; cases q1
  | some d =>
    rw [er] at q1
    obtain ⟨W9, e9⟩ := p x0 x1 d er W1
    refine ⟨d, W9, ?_, q1⟩
    unfold eCall
    have e : (aCons f0 (aCons f1 aNil)) ρ W = some ([.d x0, .d x1], W1) := by
      simp only [aCons, aNil, e0, e1]
    rw [e]
    exact e9⟩
def run2 (A : FS) (rest : Rho) (x0 x1 : PyData) : R := A (.d x0 :: .d x1 :: rest) (fun _ => some .none) (fun _ => none) (fun _ => none) some
theorem pu_run2 {m : Nat} {rest : Rho} (hm : List.replicate (m - 2) .no = rest) (h : OkS a A) : Pu2 (wfn 2 m a) (run2 A rest) := fun x0 x1 d q W => by
  obtain ⟨o, e, q1⟩ := h.h _ _ _ _ _ _ q W
  exact wfn_of (as := [.d x0, .d x1]) hm rfl e q1
def Pu3 (φ : Ctr) (r : PyData → PyData → PyData → R) : Prop := ∀ x0 x1 x2 d, r x0 x1 x2 = some d → ∀ W, ∃ W', φ [.d x0, .d x1, .d x2] W = some (d, W')
def call3 (r : PyData → PyData → PyData → R) (F0 F1 F2 : FE) : FE := fun ρ K => F0 ρ fun x0 => F1 ρ fun x1 => F2 ρ fun x2 => Option.rec none K (r x0 x1 x2)
theorem ok_call3 {φ : Ctr} {r : PyData → PyData → PyData → R} {f0 f1 f2 : Ex} {F0 F1 F2 : FE} (p : Pu3 φ r) (h0 : OkE f0 F0) (h1 : OkE f1 F1) (h2 : OkE f2 F2) : OkE (eCall φ (aCons f0 (aCons f1 (aCons f2 aNil)))) (call3 r F0 F1 F2) := ⟨fun ρ K z q W => by
  obtain ⟨x0, W0, e0, q0⟩ := h0.h ρ _ z q W
  obtain ⟨x1, W1, e1, q1⟩ := h1.h ρ _ z q0 W0
  obtain ⟨x2, W2, e2, q2⟩ := h2.h ρ _ z q1 W1
  cases er : r x0 x1 x2 with
  | none => rw [er] at q2; cases q2
  | some d =>
    rw [er] at q2
    obtain ⟨W9, e9⟩ := p x0 x1 x2 d er W2
    refine ⟨d, W9, ?_, q2⟩
    unfold eCall
    have e : (aCons f0 (aCons f1 (aCons f2 aNil))) ρ W = some ([.d x0, .d x1, .d x2], W2) := by
      simp only [aCons, aNil, e0, e1, e2]
    rw [e]
    exact e9⟩
def run3 (A : FS) (rest : Rho) (x0 x1 x2 : PyData) : R := A (.d x0 :: .d x1 :: .d x2 :: rest) (fun _ => some .none) (fun _ => none) (fun _ => none) some
theorem pu_run3 {m : Nat} {rest : Rho} (hm : List.replicate (m - 3) .no = rest) (h : OkS a A) : Pu3 (wfn 3 m a) (run3 A rest) := fun x0 x1 x2 d q W => by
  obtain ⟨o, e, q1⟩ := h.h _ _ _ _ _ _ q W
  exact wfn_of (as := [.d x0, .d x1, .d x2]) hm rfl e q1
def Pu4 (φ : Ctr) (r : PyData → PyData → PyData → PyData → R) : Prop := ∀ x0 x1 x2 x3 d, r x0 x1 x2 x3 = some d → ∀ W, ∃ W', φ [.d x0, .d x1, .d x2, .d x3] W = some (d, W')
def call4 (r : PyData → PyData → PyData → PyData → R) (F0 F1 F2 F3 : FE) : FE := fun ρ K => F0 ρ fun x0 => F1 ρ fun x1 => F2 ρ fun x2 => F3 ρ fun x3 => Option.rec none K (r x0 x1 x2 x3)
theorem ok_call4 {φ : Ctr} {r : PyData → PyData → PyData → PyData → R} {f0 f1 f2 f3 : Ex} {F0 F1 F2 F3 : FE} (p : Pu4 φ r) (h0 : OkE f0 F0) (h1 : OkE f1 F1) (h2 : OkE f2 F2) (h3 : OkE f3 F3) : OkE (eCall φ (aCons f0 (aCons f1 (aCons f2 (aCons f3 aNil))))) (call4 r F0 F1 F2 F3) := ⟨fun ρ K z q W => by
  obtain ⟨x0, W0, e0, q0⟩ := h0.h ρ _ z q W
  obtain ⟨x1, W1, e1, q1⟩ := h1.h ρ _ z q0 W0
  obtain ⟨x2, W2, e2, q2⟩ := h2.h ρ _ z q1 W1
  obtain ⟨x3, W3, e3, q3⟩ := h3.h ρ _ z q2 W2
  cases er : r x0 x1 x2 x3 with
  | none => rw [er] at q3; cases q3
  | some d =>
    rw [er] at q3
    obtain ⟨W9, e9⟩ := p x0 x1 x2 x3 d er W3
    refine ⟨d, W9, ?_, q3⟩
    unfold eCall
    have e : (aCons f0 (aCons f1 (aCons f2 (aCons f3 aNil)))) ρ W = some ([.d x0, .d x1, .d x2, .d x3], W3) := by
      simp only [aCons, aNil, e0, e1, e2, e3]
    rw [e]
    exact e9⟩
def run4 (A : FS) (rest : Rho) (x0 x1 x2 x3 : PyData) : R := A (.d x0 :: .d x1 :: .d x2 :: .d x3 :: rest) (fun _ => some .none) (fun _ => none) (fun _ => none) some
theorem pu_run4 {m : Nat} {rest : Rho} (hm : List.replicate (m - 4) .no = rest) (h : OkS a A) : Pu4 (wfn 4 m a) (run4 A rest) := fun x0 x1 x2 x3 d q W => by
  obtain ⟨o, e, q1⟩ := h.h _ _ _ _ _ _ q W
  exact wfn_of (as := [.d x0, .d x1, .d x2, .d x3]) hm rfl e q1
def Pu5 (φ : Ctr) (r : PyData → PyData → PyData → PyData → PyData → R) : Prop := ∀ x0 x1 x2 x3 x4 d, r x0 x1 x2 x3 x4 = some d → ∀ W, ∃ W', φ [.d x0, .d x1, .d x2, .d x3, .d x4] W = some (d, W')
def call5 (r : PyData → PyData → PyData → PyData → PyData → R) (F0 F1 F2 F3 F4 : FE) : FE := fun ρ K => F0 ρ fun x0 => F1 ρ fun x1 => F2 ρ fun x2 => F3 ρ fun x3 => F4 ρ fun x4 => Option.rec none K (r x0 x1 x2 x3 x4)
theorem ok_call5 {φ : Ctr} {r : PyData → PyData → PyData → PyData → PyData → R} {f0 f1 f2 f3 f4 : Ex} {F0 F1 F2 F3 F4 : FE} (p : Pu5 φ r) (h0 : OkE f0 F0) (h1 : OkE f1 F1) (h2 : OkE f2 F2) (h3 : OkE f3 F3) (h4 : OkE f4 F4) : OkE (eCall φ (aCons f0 (aCons f1 (aCons f2 (aCons f3 (aCons f4 aNil)))))) (call5 r F0 F1 F2 F3 F4) := ⟨fun ρ K z q W => by
  obtain ⟨x0, W0, e0, q0⟩ := h0.h ρ _ z q W
  obtain ⟨x1, W1, e1, q1⟩ := h1.h ρ _ z q0 W0
  obtain ⟨x2, W2, e2, q2⟩ := h2.h ρ _ z q1 W1
  obtain ⟨x3, W3, e3, q3⟩ := h3.h ρ _ z q2 W2
  obtain ⟨x4, W4, e4, q4⟩ := h4.h ρ _ z q3 W3
  cases er : r x0 x1 x2 x3 x4 with
  | none => rw [er] at q4; cases q4
  | some d =>
    rw [er] at q4
    obtain ⟨W9, e9⟩ := p x0 x1 x2 x3 x4 d er W4
    refine ⟨d, W9, ?_, q4⟩
    unfold eCall
    have e : (aCons f0 (aCons f1 (aCons f2 (aCons f3 (aCons f4 aNil))))) ρ W = some ([.d x0, .d x1, .d x2, .d x3, .d x4], W4) := by
      simp only [aCons, aNil, e0, e1, e2, e3, e4]
    rw [e]
    exact e9⟩
def run5 (A : FS) (rest : Rho) (x0 x1 x2 x3 x4 : PyData) : R := A (.d x0 :: .d x1 :: .d x2 :: .d x3 :: .d x4 :: rest) (fun _ => some .none) (fun _ => none) (fun _ => none) some
theorem pu_run5 {m : Nat} {rest : Rho} (hm : List.replicate (m - 5) .no = rest) (h : OkS a A) : Pu5 (wfn 5 m a) (run5 A rest) := fun x0 x1 x2 x3 x4 d q W => by
  obtain ⟨o, e, q1⟩ := h.h _ _ _ _ _ _ q W
  exact wfn_of (as := [.d x0, .d x1, .d x2, .d x3, .d x4]) hm rfl e q1
def Pu6 (φ : Ctr) (r : PyData → PyData → PyData → PyData → PyData → PyData → R) : Prop := ∀ x0 x1 x2 x3 x4 x5 d, r x0 x1 x2 x3 x4 x5 = some d → ∀ W, ∃ W', φ [.d x0, .d x1, .d x2, .d x3, .d x4, .d x5] W = some (d, W')
def call6 (r : PyData → PyData → PyData → PyData → PyData → PyData → R) (F0 F1 F2 F3 F4 F5 : FE) : FE := fun ρ K => F0 ρ fun x0 => F1 ρ fun x1 => F2 ρ fun x2 => F3 ρ fun x3 => F4 ρ fun x4 => F5 ρ fun x5 => Option.rec none K (r x0 x1 x2 x3 x4 x5)
theorem ok_call6 {φ : Ctr} {r : PyData → PyData → PyData → PyData → PyData → PyData → R} {f0 f1 f2 f3 f4 f5 : Ex} {F0 F1 F2 F3 F4 F5 : FE} (p : Pu6 φ r) (h0 : OkE f0 F0) (h1 : OkE f1 F1) (h2 : OkE f2 F2) (h3 : OkE f3 F3) (h4 : OkE f4 F4) (h5 : OkE f5 F5) : OkE (eCall φ (aCons f0 (aCons f1 (aCons f2 (aCons f3 (aCons f4 (aCons f5 aNil))))))) (call6 r F0 F1 F2 F3 F4 F5) := ⟨fun ρ K z q W => by
  obtain ⟨x0, W0, e0, q0⟩ := h0.h ρ _ z q W
  obtain ⟨x1, W1, e1, q1⟩ := h1.h ρ _ z q0 W0
  obtain ⟨x2, W2, e2, q2⟩ := h2.h ρ _ z q1 W1
  obtain ⟨x3, W3, e3, q3⟩ := h3.h ρ _ z q2 W2
  obtain ⟨x4, W4, e4, q4⟩ := h4.h ρ _ z q3 W3
  obtain ⟨x5, W5, e5, q5⟩ := h5.h ρ _ z q4 W4
  cases er : r x0 x1 x2 x3 x4 x5 with
  | none => rw [er] at q5; cases q5
  | some d =>
    rw [er] at q5
    obtain ⟨W9, e9⟩ := p x0 x1 x2 x3 x4 x5 d er W5
    refine ⟨d, W9, ?_, q5⟩
    unfold eCall
    have e : (aCons f0 (aCons f1 (aCons f2 (aCons f3 (aCons f4 (aCons f5 aNil)))))) ρ W = some ([.d x0, .d x1, .d x2, .d x3, .d x4, .d x5], W5) := by
      simp only [aCons, aNil, e0, e1, e2, e3, e4, e5]
    rw [e]
    exact e9⟩
def run6 (A : FS) (rest : Rho) (x0 x1 x2 x3 x4 x5 : PyData) : R := A (.d x0 :: .d x1 :: .d x2 :: .d x3 :: .d x4 :: .d x5 :: rest) (fun _ => some .none) (fun _ => none) (fun _ => none) some
theorem pu_run6 {m : Nat} {rest : Rho} (hm : List.replicate (m - 6) .no = rest) (h : OkS a A) : Pu6 (wfn 6 m a) (run6 A rest) := fun x0 x1 x2 x3 x4 x5 d q W => by
  obtain ⟨o, e, q1⟩ := h.h _ _ _ _ _ _ q W
  exact wfn_of (as := [.d x0, .d x1, .d x2, .d x3, .d x4, .d x5]) hm rfl e q1
def Pu7 (φ : Ctr) (r : PyData → PyData → PyData → PyData → PyData → PyData → PyData → R) : Prop := ∀ x0 x1 x2 x3 x4 x5 x6 d, r x0 x1 x2 x3 x4 x5 x6 = some d → ∀ W, ∃ W', φ [.d x0, .d x1, .d x2, .d x3, .d x4, .d x5, .d x6] W = some (d, W')
def call7 (r : PyData → PyData → PyData → PyData → PyData → PyData → PyData → R) (F0 F1 F2 F3 F4 F5 F6 : FE) : FE := fun ρ K => F0 ρ fun x0 => F1 ρ fun x1 => F2 ρ fun x2 => F3 ρ fun x3 => F4 ρ fun x4 => F5 ρ fun x5 => F6 ρ fun x6 => Option.rec none K (r x0 x1 x2 x3 x4 x5 x6)
theorem ok_call7 {φ : Ctr} {r : PyData → PyData → PyData → PyData → PyData → PyData → PyData → R} {f0 f1 f2 f3 f4 f5 f6 : Ex} {F0 F1 F2 F3 F4 F5 F6 : FE} (p : Pu7 φ r) (h0 : OkE f0 F0) (h1 : OkE f1 F1) (h2 : OkE f2 F2) (h3 : OkE f3 F3) (h4 : OkE f4 F4) (h5 : OkE f5 F5) (h6 : OkE f6 F6) : OkE (eCall φ (aCons f0 (aCons f1 (aCons f2 (aCons f3 (aCons f4 (aCons f5 (aCons f6 aNil)))))))) (call7 r F0 F1 F2 F3 F4 F5 F6) := ⟨fun ρ K z q W => by
  obtain ⟨x0, W0, e0, q0⟩ := h0.h ρ _ z q W
  obtain ⟨x1, W1, e1, q1⟩ := h1.h ρ _ z q0 W0
  obtain ⟨x2, W2, e2, q2⟩ := h2.h ρ _ z q1 W1
  obtain ⟨x3, W3, e3, q3⟩ := h3.h ρ _ z q2 W2
  obtain ⟨x4, W4, e4, q4⟩ := h4.h ρ _ z q3 W3
  obtain ⟨x5, W5, e5, q5⟩ := h5.h ρ _ z q4 W4
  obtain ⟨x6, W6, e6, q6⟩ := h6.h ρ _ z q5 W5
  cases er : r x0 x1 x2 x3 x4 x5 x6 with
  | none => rw [er] at q6; cases q6
  | some d =>
    rw [er] at q6
    obtain ⟨W9, e9⟩ := p x0 x1 x2 x3 x4 x5 x6 d er W6
    refine ⟨d, W9, ?_, q6⟩
    unfold eCall
    have e : (aCons f0 (aCons f1 (aCons f2 (aCons f3 (aCons f4 (aCons f5 (aCons f6 aNil))))))) ρ W = some ([.d x0, .d x1, .d x2, .d x3, .d x4, .d x5, .d x6], W6) := by
      simp only [aCons, aNil, e0, e1, e2, e3, e4, e5, e6]
    rw [e]
    exact e9⟩
def run7 (A : FS) (rest : Rho) (x0 x1 x2 x3 x4 x5 x6 : PyData) : R := A (.d x0 :: .d x1 :: .d x2 :: .d x3 :: .d x4 :: .d x5 :: .d x6 :: rest) (fun _ => some .none) (fun _ => none) (fun _ => none) some
theorem pu_run7 {m : Nat} {rest : Rho} (hm : List.replicate (m - 7) .no = rest) (h : OkS a A) : Pu7 (wfn 7 m a) (run7 A rest) := fun x0 x1 x2 x3 x4 x5 x6 d q W => by
  obtain ⟨o, e, q1⟩ := h.h _ _ _ _ _ _ q W
  exact wfn_of (as := [.d x0, .d x1, .d x2, .d x3, .d x4, .d x5, .d x6]) hm rfl e q1
def Pu8 (φ : Ctr) (r : PyData → PyData → PyData → PyData → PyData → PyData → PyData → PyData → R) : Prop := ∀ x0 x1 x2 x3 x4 x5 x6 x7 d, r x0 x1 x2 x3 x4 x5 x6 x7 = some d → ∀ W, ∃ W', φ [.d x0, .d x1, .d x2, .d x3, .d x4, .d x5, .d x6, .d x7] W = some (d, W')
def call8 (r : PyData → PyData → PyData → PyData → PyData → PyData → PyData → PyData → R) (F0 F1 F2 F3 F4 F5 F6 F7 : FE) : FE := fun ρ K => F0 ρ fun x0 => F1 ρ fun x1 => F2 ρ fun x2 => F3 ρ fun x3 => F4 ρ fun x4 => F5 ρ fun x5 => F6 ρ fun x6 => F7 ρ fun x7 => Option.rec none K (r x0 x1 x2 x3 x4 x5 x6 x7)
theorem ok_call8 {φ : Ctr} {r : PyData → PyData → PyData → PyData → PyData → PyData → PyData → PyData → R} {f0 f1 f2 f3 f4 f5 f6 f7 : Ex} {F0 F1 F2 F3 F4 F5 F6 F7 : FE} (p : Pu8 φ r) (h0 : OkE f0 F0) (h1 : OkE f1 F1) (h2 : OkE f2 F2) (h3 : OkE f3 F3) (h4 : OkE f4 F4) (h5 : OkE f5 F5) (h6 : OkE f6 F6) (h7 : OkE f7 F7) : OkE (eCall φ (aCons f0 (aCons f1 (aCons f2 (aCons f3 (aCons f4 (aCons f5 (aCons f6 (aCons f7 aNil))))))))) (call8 r F0 F1 F2 F3 F4 F5 F6 F7) := ⟨fun ρ K z q W => by
  obtain ⟨x0, W0, e0, q0⟩ := h0.h ρ _ z q W
  obtain ⟨x1, W1, e1, q1⟩ := h1.h ρ _ z q0 W0
  obtain ⟨x2, W2, e2, q2⟩ := h2.h ρ _ z q1 W1
  obtain ⟨x3, W3, e3, q3⟩ := h3.h ρ _ z q2 W2
  obtain ⟨x4, W4, e4, q4⟩ := h4.h ρ _ z q3 W3
  obtain ⟨x5, W5, e5, q5⟩ := h5.h ρ _ z q4 W4
  obtain ⟨x6, W6, e6, q6⟩ := h6.h ρ _ z q5 W5
  obtain ⟨x7, W7, e7, q7⟩ := h7.h ρ _ z q6 W6
  cases er : r x0 x1 x2 x3 x4 x5 x6 x7 with
  | none => rw [er] at q7; cases q7
  | some d =>
    rw [er] at q7
    obtain ⟨W9, e9⟩ := p x0 x1 x2 x3 x4 x5 x6 x7 d er W7
    refine ⟨d, W9, ?_, q7⟩
    unfold eCall
    have e : (aCons f0 (aCons f1 (aCons f2 (aCons f3 (aCons f4 (aCons f5 (aCons f6 (aCons f7 aNil)))))))) ρ W = some ([.d x0, .d x1, .d x2, .d x3, .d x4, .d x5, .d x6, .d x7], W7) := by
      simp only [aCons, aNil, e0, e1, e2, e3, e4, e5, e6, e7]
    rw [e]
    exact e9⟩
def run8 (A : FS) (rest : Rho) (x0 x1 x2 x3 x4 x5 x6 x7 : PyData) : R := A (.d x0 :: .d x1 :: .d x2 :: .d x3 :: .d x4 :: .d x5 :: .d x6 :: .d x7 :: rest) (fun _ => some .none) (fun _ => none) (fun _ => none) some
theorem pu_run8 {m : Nat} {rest : Rho} (hm : List.replicate (m - 8) .no = rest) (h : OkS a A) : Pu8 (wfn 8 m a) (run8 A rest) := fun x0 x1 x2 x3 x4 x5 x6 x7 d q W => by
  obtain ⟨o, e, q1⟩ := h.h _ _ _ _ _ _ q W
  exact wfn_of (as := [.d x0, .d x1, .d x2, .d x3, .d x4, .d x5, .d x6, .d x7]) hm rfl e q1
end
end Fe
set_option Elab.async false
set_option linter.all false
set_option maxRecDepth 100000
set_option maxHeartbeats 1000000
/-! Part 24: the checker's sorted, repr of what is one and the same, loops whose turns leave all as it was. -/
namespace Fe
open PySem PySem.Spec Dv
noncomputable section
variable {f g : Ex} {F G : FE} {t u : Tx} {T U : FT} {l m : Lx} {L M : FL} {a b : Sx} {A B : FS}
/-! ### one and the same -/
def kBool (x : PyData) (k : Bool → Bool) : Bool :=
  PyData.rec (motive_1 := fun _ => Bool) (motive_2 := fun _ => PUnit) (motive_3 := fun _ => PUnit) (motive_4 := fun _ => PUnit)
    false k (fun _ => false) (fun _ => false) (fun _ _ => false) (fun _ _ => false) (fun _ _ => false) ⟨⟩ (fun _ _ _ _ => ⟨⟩) ⟨⟩ (fun _ _ _ _ => ⟨⟩) (fun _ _ _ _ => ⟨⟩) x
def sameN (x : PyData) : PyData → Bool :=
  PyData.rec (motive_1 := fun _ => PyData → Bool) (motive_2 := fun _ => List PyData → Bool) (motive_3 := fun _ => PUnit) (motive_4 := fun _ => PUnit)
    kNone (fun b y => kBool y (bEq b)) (fun i y => kInt y (iEq i) (fun _ => false)) (fun _ _ => false)
    (fun _ ih y => kList y ih) (fun _ ih y => kTup y ih) (fun _ _ _ => false)
    (fun ys => List.rec true (fun _ _ _ => false) ys) (fun _ _ ih1 ih2 ys => List.rec false (fun y t _ => Bool.rec false (ih2 t) (ih1 y)) ys) ⟨⟩ (fun _ _ _ _ => ⟨⟩) (fun _ _ _ _ => ⟨⟩) x
def sameA (x : List PyData) : List PyData → Bool :=
  PyData.rec_1 (motive_1 := fun _ => PyData → Bool) (motive_2 := fun _ => List PyData → Bool) (motive_3 := fun _ => PUnit) (motive_4 := fun _ => PUnit)
    kNone (fun b y => kBool y (bEq b)) (fun i y => kInt y (iEq i) (fun _ => false)) (fun _ _ => false)
    (fun _ ih y => kList y ih) (fun _ ih y => kTup y ih) (fun _ _ _ => false)
    (fun ys => List.rec true (fun _ _ _ => false) ys) (fun _ _ ih1 ih2 ys => List.rec false (fun y t _ => Bool.rec false (ih2 t) (ih1 y)) ys) ⟨⟩ (fun _ _ _ _ => ⟨⟩) (fun _ _ _ _ => ⟨⟩) x
mutual
theorem sameN_ok : ∀ {x y : PyData}, sameN x y = true → x = y
  | .none, y, h => by cases y <;> first | rfl | cases h
  | .bool b, y, h => by
    cases y with
    | bool c =>
      have h' : bEq b c = true := h
      rw [bEq_eq, beq_iff_eq] at h'
      rw [h']
    | _ => cases h
  | .int i, y, h => by
    cases y with
    | int j =>
      have h' : iEq i j = true := h
      rw [iEq_eq, beq_iff_eq] at h'
      rw [h']
    | _ => cases h
  | .str _, _, h => by cases h
  | .dict _, _, h => by cases h
  | .list xs, y, h => by
    cases y with
    | list ys =>
      have h' : sameA xs ys = true := h
      rw [sameA_ok h']
    | _ => cases h
  | .tuple xs, y, h => by
    cases y with
    | tuple ys =>
      have h' : sameA xs ys = true := h
      rw [sameA_ok h']
    | _ => cases h
theorem sameA_ok : ∀ {x y : List PyData}, sameA x y = true → x = y
  | [], y, h => by cases y <;> first | rfl | cases h
  | x :: xs, y, h => by
    cases y with
    | nil => cases h
    | cons y ys =>
      have h' : (Bool.rec false (sameA xs ys) (sameN x y) : Bool) = true := h
      obtain ⟨a, b⟩ := br_and h'
      rw [sameN_ok a, sameA_ok b]
end
/-! ### how long it is when shown -/
def szN (x : PyData) : Nat :=
  PyData.rec (motive_1 := fun _ => Nat) (motive_2 := fun _ => Nat) (motive_3 := fun _ => PUnit) (motive_4 := fun _ => PUnit)
    4 (fun _ => 5) (fun i => Bool.rec 1000000000 1921 (Nat.ble (Nat.log2 (Int.natAbs i)) 1919)) (fun _ => 1000000000) (fun _ ih => Nat.add ih 3) (fun _ ih => Nat.add ih 3) (fun _ _ => 1000000000)
    0 (fun _ _ ih1 ih2 => Nat.add (Nat.add ih1 ih2) 2) ⟨⟩ (fun _ _ _ _ => ⟨⟩) (fun _ _ _ _ => ⟨⟩) x
def szA (x : List PyData) : Nat :=
  PyData.rec_1 (motive_1 := fun _ => Nat) (motive_2 := fun _ => Nat) (motive_3 := fun _ => PUnit) (motive_4 := fun _ => PUnit)
    4 (fun _ => 5) (fun i => Bool.rec 1000000000 1921 (Nat.ble (Nat.log2 (Int.natAbs i)) 1919)) (fun _ => 1000000000) (fun _ ih => Nat.add ih 3) (fun _ ih => Nat.add ih 3) (fun _ _ => 1000000000)
    0 (fun _ _ ih1 ih2 => Nat.add (Nat.add ih1 ih2) 2) ⟨⟩ (fun _ _ _ _ => ⟨⟩) (fun _ _ _ _ => ⟨⟩) x
mutual
theorem szN_ok : ∀ (x : PyData), szN x < 1000000000 → x.showable = true ∧ x.hasDict = false ∧ x.shown.length ≤ szN x
  | .none, _ => ⟨rfl, rfl, by decide +kernel⟩
  | .bool b, _ => ⟨rfl, rfl, by cases b <;> decide +kernel⟩
  | .int i, h => by
    have e : szN (.int i) = Bool.rec 1000000000 1921 (Nat.ble (Nat.log2 (Int.natAbs i)) 1919) := rfl
    cases c : Nat.ble (Nat.log2 (Int.natAbs i)) 1919 with
    | false => rw [e, c] at h; exact absurd h (Nat.lt_irrefl _)
    | true =>
      have c' := Nat.le_of_ble_eq_true c
      have c2 : i.natAbs.log2 < 1920 := Nat.lt_succ_of_le c'
      refine ⟨?_, rfl, ?_⟩
      · rw [PyData.showable, decide_eq_true_eq]; exact c2
      · rw [e, c, PyData.shown]
        exact PyProof.Rows.int_text_len_1921 c2
  | .str _, h => absurd h (Nat.lt_irrefl 1000000000)
  | .dict _, h => absurd h (Nat.lt_irrefl 1000000000)
  | .list xs, h => by
    have e : szN (.list xs) = szA xs + 3 := rfl
    obtain ⟨h1, h2, h3⟩ := szA_ok xs (by omega)
    refine ⟨by rw [PyData.showable]; exact h1, by rw [PyData.hasDict]; exact h2, ?_⟩
    rw [PyData.shown, e]
    have := listText_len_le (PyData.shownAll xs)
    omega
  | .tuple xs, h => by
    have e : szN (.tuple xs) = szA xs + 3 := rfl
    obtain ⟨h1, h2, h3⟩ := szA_ok xs (by omega)
    refine ⟨by rw [PyData.showable]; exact h1, by rw [PyData.hasDict]; exact h2, ?_⟩
    rw [PyData.shown, e]
    have := tupleText_len_le (PyData.shownAll xs)
    omega
theorem szA_ok : ∀ (x : List PyData), szA x < 1000000000 → PyData.showableAll x = true ∧ PyData.hasDictAll x = false ∧ ((PyData.shownAll x).map (·.length)).sum + 2 * (PyData.shownAll x).length ≤ szA x
  | [], _ => ⟨rfl, rfl, by decide⟩
  | x :: xs, h => by
    have e : szA (x :: xs) = szN x + szA xs + 2 := rfl
    obtain ⟨h1, h2, h3⟩ := szN_ok x (by omega)
    obtain ⟨k1, k2, k3⟩ := szA_ok xs (by omega)
    refine ⟨by rw [PyData.showableAll, h1, k1]; rfl, by rw [PyData.hasDictAll, h2, k2]; rfl, ?_⟩
    rw [PyData.shownAll, List.map_cons, List.sum_cons, List.length_cons, e]
    omega
end
def canB (x : PyData) : Bool := Bool.rec false (Nat.ble (szN x) 16000000) (shpB x)
theorem canB_ok {x : PyData} (h : canB x = true) : canShow x = true := by
  obtain ⟨h1, h2⟩ := br_and h
  obtain ⟨h3, h4⟩ := shpN_ok (n := 12) h1
  have h5 := Nat.le_of_ble_eq_true h2
  obtain ⟨k1, k2, k3⟩ := szN_ok x (by omega)
  unfold canShow
  rw [k1, k2, Bool.and_eq_true, Bool.and_eq_true, decide_eq_true_eq, decide_eq_true_eq]
  refine ⟨⟨rfl, by omega⟩, ?_⟩
  rw [PySem.sizeLine_eq]
  omega
theorem fRepr_ok {x : PyData} (h : canB x = true) : fRepr [x] = some (.str x.shown) := if_pos (canB_ok h)
/-- repr(a) != repr(b), where the two are one and the same -/
def xRNe (F G : FE) : FE := fun ρ K => F ρ fun x => G ρ fun y => mB (sameN x y) (mB (canB x) (K (.bool false)) none) none
def xREq (F G : FE) : FE := fun ρ K => F ρ fun x => G ρ fun y => mB (sameN x y) (mB (canB x) (K (.bool true)) none) none
theorem eRepr {W W1 : Src} {ρ : Rho} {x : PyData} (e : f ρ W = some (x, W1)) (h : canB x = true) : eN fRepr (lCons f lNil) ρ W = some (.str x.shown, W1) := by
  unfold eN lCons
  rw [e]
  simp only [lNil, fRepr_ok h, Option.map_some]
theorem beq_self (x : Str) : (x == x) = true := by simp
theorem eqS_self (x : Str) : eqS (.str x) (.str x) = some true := by
  show some (x == x) = _
  rw [beq_self]
theorem ok_RNe (h : OkE f F) (k : OkE g G) : OkE (e2 cNe (eN fRepr (lCons f lNil)) (eN fRepr (lCons g lNil))) (xRNe F G) := ⟨fun ρ K r q W => by
  obtain ⟨x, W1, e1', q1⟩ := h.h ρ _ r q W
  obtain ⟨y, W2, e2', q2⟩ := k.h ρ _ r q1 W1
  rcases mB_some q2 with ⟨c, q3⟩ | ⟨_, q3⟩
  · rcases mB_some q3 with ⟨c2, q4⟩ | ⟨_, q4⟩
    · have exy := sameN_ok c
      subst exy
      refine ⟨.bool false, W2, ?_, q4⟩
      unfold e2
      rw [eRepr e1' c2]
      simp only [eRepr e2' c2]
      have : cNe (.str x.shown) (.str x.shown) = some (.bool false) := by
        unfold cNe
        rw [eqS_self]; rfl
      rw [this]; rfl
    · cases q4
  · cases q3⟩
theorem ok_REq (h : OkE f F) (k : OkE g G) : OkE (e2 cEq (eN fRepr (lCons f lNil)) (eN fRepr (lCons g lNil))) (xREq F G) := ⟨fun ρ K r q W => by
  obtain ⟨x, W1, e1', q1⟩ := h.h ρ _ r q W
  obtain ⟨y, W2, e2', q2⟩ := k.h ρ _ r q1 W1
  rcases mB_some q2 with ⟨c, q3⟩ | ⟨_, q3⟩
  · rcases mB_some q3 with ⟨c2, q4⟩ | ⟨_, q4⟩
    · have exy := sameN_ok c
      subst exy
      refine ⟨.bool true, W2, ?_, q4⟩
      unfold e2
      rw [eRepr e1' c2]
      simp only [eRepr e2' c2]
      have : cEq (.str x.shown) (.str x.shown) = some (.bool true) := by
        unfold cEq
        rw [eqS_self]; rfl
      rw [this]; rfl
    · cases q4
  · cases q3⟩
/-! ### sorted -/
def kinN (x : PyData) : PyData → Bool :=
  PyData.rec (motive_1 := fun _ => PyData → Bool) (motive_2 := fun _ => List PyData → Bool) (motive_3 := fun _ => PUnit) (motive_4 := fun _ => PUnit)
    kNone (fun b y => kBool y (fun _ => true)) (fun i y => kInt y (fun _ => true) (fun _ => false)) (fun _ _ => false)
    (fun _ ih y => kList y ih) (fun _ ih y => kTup y ih) (fun _ _ _ => false)
    (fun ys => List.rec true (fun _ _ _ => false) ys) (fun _ _ ih1 ih2 ys => List.rec false (fun y t _ => Bool.rec false (ih2 t) (ih1 y)) ys) ⟨⟩ (fun _ _ _ _ => ⟨⟩) (fun _ _ _ _ => ⟨⟩) x
def kinA (x : List PyData) : List PyData → Bool :=
  PyData.rec_1 (motive_1 := fun _ => PyData → Bool) (motive_2 := fun _ => List PyData → Bool) (motive_3 := fun _ => PUnit) (motive_4 := fun _ => PUnit)
    kNone (fun b y => kBool y (fun _ => true)) (fun i y => kInt y (fun _ => true) (fun _ => false)) (fun _ _ => false)
    (fun _ ih y => kList y ih) (fun _ ih y => kTup y ih) (fun _ _ _ => false)
    (fun ys => List.rec true (fun _ _ _ => false) ys) (fun _ _ ih1 ih2 ys => List.rec false (fun y t _ => Bool.rec false (ih2 t) (ih1 y)) ys) ⟨⟩ (fun _ _ _ _ => ⟨⟩) (fun _ _ _ _ => ⟨⟩) x
open PySem.W (alike alikeAll keyToks keyToksAll dataLt dataLe)
mutual
theorem kinN_ok : ∀ {x y z : PyData}, kinN x y = true → kinN x z = true → alike y z = true
  | .none, y, z, h, k => by cases y <;> first | (cases h; done) | (cases z <;> first | rfl | (cases k; done))
  | .bool b, y, z, h, k => by cases y <;> first | (cases h; done) | (cases z <;> first | rfl | (cases k; done))
  | .int b, y, z, h, k => by cases y <;> first | (cases h; done) | (cases z <;> first | rfl | (cases k; done))
  | .str _, _, _, h, _ => by cases h
  | .dict _, _, _, h, _ => by cases h
  | .list xs, y, z, h, k => by
    cases y with
    | list ys =>
      cases z with
      | list zs =>
        have h' : kinA xs ys = true := h
        have k' : kinA xs zs = true := k
        rw [alike]; exact kinA_ok h' k'
      | _ => cases k
    | _ => cases h
  | .tuple xs, y, z, h, k => by
    cases y with
    | tuple ys =>
      cases z with
      | tuple zs =>
        have h' : kinA xs ys = true := h
        have k' : kinA xs zs = true := k
        rw [alike]; exact kinA_ok h' k'
      | _ => cases k
    | _ => cases h
theorem kinA_ok : ∀ {x y z : List PyData}, kinA x y = true → kinA x z = true → alikeAll y z = true
  | [], y, z, h, k => by cases y <;> first | (cases h; done) | (cases z <;> first | rfl | (cases k; done))
  | x :: xs, y, z, h, k => by
    cases y with
    | nil => cases h
    | cons y ys =>
      cases z with
      | nil => cases k
      | cons z zs =>
        have h' : (Bool.rec false (kinA xs ys) (kinN x y) : Bool) = true := h
        have k' : (Bool.rec false (kinA xs zs) (kinN x z) : Bool) = true := k
        obtain ⟨a, b⟩ := br_and h'
        obtain ⟨a2, b2⟩ := br_and k'
        rw [alikeAll, kinN_ok a a2, kinA_ok b b2]; rfl
end
/-- less, or the same and e -/
def ltN (x : PyData) : PyData → Bool → Bool :=
  PyData.rec (motive_1 := fun _ => PyData → Bool → Bool) (motive_2 := fun _ => List PyData → Bool → Bool) (motive_3 := fun _ => PUnit) (motive_4 := fun _ => PUnit)
    (fun _ _ => false) (fun _ _ _ => false) (fun i y e => kInt y (fun j => Bool.rec (Bool.rec false e (iEq i j)) true (iLt i j)) (fun _ => false)) (fun _ _ _ => false)
    (fun _ ih y e => kList y fun ys => ih ys e) (fun _ ih y e => kTup y fun ys => ih ys e) (fun _ _ _ _ => false)
    (fun ys e => List.rec e (fun _ _ _ => true) ys) (fun _ _ ih1 ih2 ys e => List.rec false (fun y t _ => ih1 y (ih2 t e)) ys) ⟨⟩ (fun _ _ _ _ => ⟨⟩) (fun _ _ _ _ => ⟨⟩) x
def ltA (x : List PyData) : List PyData → Bool → Bool :=
  PyData.rec_1 (motive_1 := fun _ => PyData → Bool → Bool) (motive_2 := fun _ => List PyData → Bool → Bool) (motive_3 := fun _ => PUnit) (motive_4 := fun _ => PUnit)
    (fun _ _ => false) (fun _ _ _ => false) (fun i y e => kInt y (fun j => Bool.rec (Bool.rec false e (iEq i j)) true (iLt i j)) (fun _ => false)) (fun _ _ _ => false)
    (fun _ ih y e => kList y fun ys => ih ys e) (fun _ ih y e => kTup y fun ys => ih ys e) (fun _ _ _ _ => false)
    (fun ys e => List.rec e (fun _ _ _ => true) ys) (fun _ _ ih1 ih2 ys e => List.rec false (fun y t _ => ih1 y (ih2 t e)) ys) ⟨⟩ (fun _ _ _ _ => ⟨⟩) (fun _ _ _ _ => ⟨⟩) x
mutual
theorem ltN_ok : ∀ {x y : PyData} {e : Bool}, ltN x y e = true → ∀ p q, (e = true → PyProof.Rows.lexLt PyProof.Rows.itemOrd p q = true) → PyProof.Rows.lexLt PyProof.Rows.itemOrd (keyToks x ++ p) (keyToks y ++ q) = true
  | .none, _, _, h, _, _, _ => by cases h
  | .bool _, _, _, h, _, _, _ => by cases h
  | .str _, _, _, h, _, _, _ => by cases h
  | .dict _, _, _, h, _, _, _ => by cases h
  | .int i, y, e, h, p, q, hp => by
    cases y with
    | int j =>
      have h' : (Bool.rec (Bool.rec false e (iEq i j)) true (iLt i j) : Bool) = true := h
      rw [iLt_eq, iEq_eq] at h'
      rw [keyToks, keyToks, List.cons_append, List.cons_append, List.nil_append, List.nil_append]
      by_cases c : i < j
      · have hne : (Sum.inl i : Int ⊕ List Nat) ≠ .inl j := fun z => by cases z; omega
        rw [PyProof.Rows.lex_diff (O := PyProof.Rows.itemOrd) hne]
        exact decide_eq_true c
      · rw [decide_eq_false c] at h'
        by_cases c2 : i = j
        · subst c2
          rw [beq_self_eq_true] at h'
          rw [PyProof.Rows.lex_self]
          exact hp h'
        · rw [beq_eq_false_iff_ne.mpr c2] at h'
          cases h'
    | _ => cases h
  | .list xs, y, e, h, p, q, hp => by
    cases y with
    | list ys =>
      have h' : ltA xs ys e = true := h
      rw [keyToks, keyToks]
      exact ltA_ok h' p q hp
    | _ => cases h
  | .tuple xs, y, e, h, p, q, hp => by
    cases y with
    | tuple ys =>
      have h' : ltA xs ys e = true := h
      rw [keyToks, keyToks]
      exact ltA_ok h' p q hp
    | _ => cases h
theorem ltA_ok : ∀ {x y : List PyData} {e : Bool}, ltA x y e = true → ∀ p q, (e = true → PyProof.Rows.lexLt PyProof.Rows.itemOrd p q = true) → PyProof.Rows.lexLt PyProof.Rows.itemOrd (keyToksAll x ++ p) (keyToksAll y ++ q) = true
  | [], y, e, h, p, q, hp => by
    cases y with
    | nil =>
      have h' : e = true := h
      rw [PySem.W.lex_pre]
      exact hp h'
    | cons y ys =>
      rw [keyToksAll, keyToksAll, List.cons_append, List.cons_append, PyProof.Rows.lex_diff (O := PyProof.Rows.itemOrd) (by simp)]
      rfl
  | x :: xs, y, e, h, p, q, hp => by
    cases y with
    | nil => cases h
    | cons y ys =>
      have h' : ltN x y (ltA xs ys e) = true := h
      rw [keyToksAll, keyToksAll, List.cons_append, List.cons_append, PyProof.Rows.lex_self, List.append_assoc, List.append_assoc]
      exact ltN_ok h' _ _ fun z => ltA_ok z p q hp
end
theorem ltN_lt {x y : PyData} (h : ltN x y false = true) : dataLt x y = true := by
  have := ltN_ok h [] [] (fun z => by cases z)
  rwa [List.append_nil, List.append_nil] at this
theorem lt_asym {x y : PyData} (h : dataLt x y = true) : dataLt y x = false := by
  cases c : dataLt y x with
  | false => rfl
  | true =>
    have := PyProof.Rows.lex_trans _ _ _ h c
    rw [PyProof.Rows.lex_irrefl] at this
    cases this
def insC (x : PyData) (l : List PyData) (k : List PyData → R) : R := List.rec (motive := fun _ => (List PyData → R) → R) (fun k => k [x]) (fun y t ih k => mB (ltN x y false) (k (x :: y :: t)) (ih fun r => k (y :: r))) l k
theorem insC_some {x : PyData} : ∀ {l : List PyData} {k : List PyData → R} {r : PyData}, insC x l k = some r → ∃ l', l'.Perm (x :: l) ∧ k l' = some r
  | [], k, r, h => ⟨[x], .refl _, h⟩
  | y :: t, k, r, h => by
    have h' : mB (ltN x y false) (k (x :: y :: t)) (insC x t fun r => k (y :: r)) = some r := h
    rcases mB_some h' with ⟨_, q⟩ | ⟨_, q⟩
    · exact ⟨_, .refl _, q⟩
    · obtain ⟨l', p, q1⟩ := insC_some q
      exact ⟨_, (p.cons y).trans (List.Perm.swap x y t), q1⟩
def isoC (xs : List PyData) (k : List PyData → R) : R := List.rec (motive := fun _ => (List PyData → R) → R) (fun k => k []) (fun x _ ih k => ih fun l => insC x l k) xs k
theorem isoC_some : ∀ {xs : List PyData} {k : List PyData → R} {r : PyData}, isoC xs k = some r → ∃ l', l'.Perm xs ∧ k l' = some r
  | [], k, r, h => ⟨[], .refl _, h⟩
  | x :: xs, k, r, h => by
    have h' : isoC xs (fun l => insC x l k) = some r := h
    obtain ⟨l1, p1, q1⟩ := isoC_some h'
    obtain ⟨l2, p2, q2⟩ := insC_some q1
    exact ⟨l2, p2.trans (p1.cons x), q2⟩
def ascF (x : PyData) (l : List PyData) : Bool := List.rec (motive := fun _ => PyData → Bool) (fun _ => true) (fun y _ ih x => Bool.rec false (ih y) (ltN x y false)) l x
theorem ascF_ok : ∀ {l : List PyData} {x : PyData}, ascF x l = true → (x :: l).Pairwise (fun a b => dataLt a b = true)
  | [], x, _ => List.pairwise_singleton ..
  | y :: t, x, h => by
    have h' : (Bool.rec false (ascF y t) (ltN x y false) : Bool) = true := h
    obtain ⟨h1, h2⟩ := br_and h'
    have p := ascF_ok h2
    have hl := ltN_lt h1
    refine List.pairwise_cons.mpr ⟨fun z hz => ?_, p⟩
    rcases List.mem_cons.mp hz with e | hz
    · rw [e]; exact hl
    · exact PyProof.Rows.lex_trans _ _ _ hl ((List.pairwise_cons.mp p).1 z hz)
def ascB (l : List PyData) : Bool := List.rec true (fun x t _ => ascF x t) l
theorem ascB_ok {l : List PyData} (h : ascB l = true) : l.Pairwise (fun a b => dataLt a b = true) := by
  cases l with
  | nil => exact .nil
  | cons x t => exact ascF_ok h
theorem pw_mem {α : Type} {r : α → α → Prop} {a b : α} : ∀ {l : List α}, l.Pairwise r → a ∈ l → b ∈ l → a = b ∨ r a b ∨ r b a
  | x :: t, h, ha, hb => by
    obtain ⟨h1, h2⟩ := List.pairwise_cons.mp h
    rcases List.mem_cons.mp ha with ea | ha <;> rcases List.mem_cons.mp hb with eb | hb
    · exact .inl (ea.trans eb.symm)
    · exact .inr (.inl (by rw [ea]; exact h1 b hb))
    · exact .inr (.inr (by rw [eb]; exact h1 a ha))
    · exact pw_mem h2 ha hb
theorem sortd_is {xs ys : List PyData} (p : ys.Perm xs) (h : ascB ys = true) : sortd xs = ys := by
  have pw := ascB_ok h
  have tl : PySem.W.TotalLe (dataLe (β := PyData) false id) := PySem.W.sortLe_total _ _ _
  have p1 : (sortd xs).Perm ys := (List.mergeSort_perm _ _).trans p.symm
  refine List.Perm.eq_of_pairwise (le := fun a b => dataLe false id a b = true) ?_ (List.pairwise_mergeSort tl.trans (fun a b => by
    rcases tl.total a b with z | z <;> simp [z]) xs) (pw.imp fun {a b} z => ?_) p1
  · intro x y hx hy h1 h2
    rcases pw_mem pw (p1.mem_iff.mp hx) hy with e | e | e
    · exact e
    · have h2' : (!dataLt x y) = true := h2
      rw [e] at h2'
      cases h2'
    · have h1' : (!dataLt y x) = true := h1
      rw [e] at h1'
      cases h1'
  · show (!dataLt b a) = true
    rw [lt_asym z]; rfl
def allB (p : PyData → Bool) (xs : List PyData) : Bool := List.rec true (fun x _ ih => Bool.rec false ih (p x)) xs
theorem allB_eq {p : PyData → Bool} : ∀ (xs : List PyData), allB p xs = xs.all p
  | [] => rfl
  | x :: xs => by
    show (Bool.rec false (allB p xs) (p x) : Bool) = _
    rw [allB_eq xs, List.all_cons]
    cases p x <;> rfl
def kTop (x : PyData) : Bool :=
  PyData.rec (motive_1 := fun _ => Bool) (motive_2 := fun _ => PUnit) (motive_3 := fun _ => PUnit) (motive_4 := fun _ => PUnit)
    false (fun _ => true) (fun _ => true) (fun _ => true) (fun _ _ => true) (fun _ _ => false) (fun _ _ => true) ⟨⟩ (fun _ _ _ _ => ⟨⟩) ⟨⟩ (fun _ _ _ _ => ⟨⟩) (fun _ _ _ _ => ⟨⟩) x
theorem kTop_eq (x : PyData) : kTop x = noTup x := by cases x <;> rfl
def kTu1 (x : PyData) : Bool := kTup x fun xs => List.rec false (fun _ _ _ => true) xs
theorem kTu1_eq (x : PyData) : kTu1 x = isTup1 x := by
  cases x with
  | tuple xs => cases xs <;> rfl
  | _ => rfl
def sortC (xs : List PyData) (K : PyData → R) : R :=
  List.rec (K (.list [])) (fun x0 _ _ => mB (allB shpB xs) (mB (allB (kinN x0) xs) (mB (Bool.rec (allB kTop xs) true (allB kTu1 xs)) (few xs (isoC xs fun ys => mB (ascB ys) (K (.list ys)) none)) none) none) none) xs
theorem all_fun {p q : PyData → Bool} (h : ∀ x, p x = q x) (xs : List PyData) : xs.all p = xs.all q := by
  have : p = q := funext h
  rw [this]
theorem sortC_some {xs : List PyData} {K : PyData → R} {r : PyData} (h : sortC xs K = some r) : sortOk xs = true ∧ K (.list (sortd xs)) = some r := by
  cases xs with
  | nil =>
    have e : sortd [] = [] := sortd_is (.refl _) rfl
    rw [e]
    exact ⟨by unfold sortOk alikeB; decide +kernel, h⟩
  | cons x0 t =>
    generalize hx : x0 :: t = xs at *
    have h' : mB (allB shpB xs) (mB (allB (kinN x0) xs) (mB (Bool.rec (allB kTop xs) true (allB kTu1 xs)) (few xs (isoC xs fun ys => mB (ascB ys) (K (.list ys)) none)) none) none) none = some r := by
      rw [← hx] at h ⊢; exact h
    rcases mB_some h' with ⟨c1, q1⟩ | ⟨_, q1⟩
    · rcases mB_some q1 with ⟨c2, q2⟩ | ⟨_, q2⟩
      · rcases mB_some q2 with ⟨c3, q3⟩ | ⟨_, q3⟩
        · obtain ⟨hl, q4⟩ := few_some q3
          obtain ⟨ys, p, q5⟩ := isoC_some q4
          rcases mB_some q5 with ⟨c4, q6⟩ | ⟨_, q6⟩
          · rw [sortd_is p c4]
            refine ⟨?_, q6⟩
            rw [allB_eq, List.all_eq_true] at c1 c2
            have c3' : (xs.all isTup1 || xs.all noTup) = true := by
              rw [allB_eq, allB_eq] at c3
              rw [all_fun kTu1_eq, all_fun kTop_eq] at c3
              cases z : xs.all isTup1 with
              | true => rfl
              | false => rw [z] at c3; exact c3
            unfold sortOk
            rw [c3']
            simp only [Bool.and_eq_true, decide_eq_true_eq, List.all_eq_true, and_true]
            refine ⟨⟨?_, fun d hd => ?_⟩, by have := few_line; omega⟩
            · unfold alikeB
              simp only [List.all_eq_true]
              exact fun d hd e he => kinN_ok (c2 d hd) (c2 e he)
            · have := (shpN_ok (n := 12) (c1 d hd)).2
              omega
          · cases q6
        · cases q3
      · cases q2
    · cases q1
def ffSort (xs : List PyData) (K : PyData → R) : R := arg1 xs fun x => mSeq x (fun ys => sortC ys K) (fun ys => sortC ys K) none
theorem ok_fSortF : OkN fSort ffSort := ⟨fun xs K r h => by
  obtain ⟨x, ex, h1⟩ := arg1_some h
  rw [ex]
  rcases mSeq_some h1 with ⟨ys, ey, h2⟩ | ⟨ys, ey, h2⟩ | ⟨_, h2⟩
  · obtain ⟨h3, h4⟩ := sortC_some h2
    rw [ey]; exact ⟨_, if_pos h3, h4⟩
  · obtain ⟨h3, h4⟩ := sortC_some h2
    rw [ey]; exact ⟨_, if_pos h3, h4⟩
  · cases h2⟩
/-! ### loops whose turns leave all as it was -/
def sameS (x y : Sl) : Bool := Sl.rec (Sl.rec true (fun _ => false) (fun _ => false) false y) (fun d => Sl.rec false (sameN d) (fun _ => false) false y) (fun ds => Sl.rec false (fun _ => false) (sameA ds) false y) (Sl.rec false (fun _ => false) (fun _ => false) true y) x
theorem sameS_ok {x y : Sl} (h : sameS x y = true) : x = y := by
  cases x <;> cases y <;> first | rfl | cases h | skip
  · rename_i a b; have h' : sameN a b = true := h; rw [sameN_ok h']
  · rename_i a b; have h' : sameA a b = true := h; rw [sameA_ok h']
def sameR (x y : Rho) : Bool := List.rec (motive := fun _ => List Sl → Bool) (fun y => List.rec true (fun _ _ _ => false) y) (fun s _ ih y => List.rec false (fun u v _ => Bool.rec false (ih v) (sameS s u)) y) x y
theorem sameR_ok : ∀ {x y : Rho}, sameR x y = true → x = y
  | [], [], _ => rfl
  | [], _ :: _, h => by cases h
  | _ :: _, [], h => by cases h
  | s :: x, u :: y, h => by
    have h' : (Bool.rec false (sameR x y) (sameS s u) : Bool) = true := h
    obtain ⟨a, b⟩ := br_and h'
    rw [sameS_ok a, sameR_ok b]
def endI (ρ : Rho) : Rho → R := fun ρ2 => mB (sameR ρ2 ρ) (some (.bool true)) none
theorem endI_some {ρ ρ2 : Rho} {r : PyData} (h : endI ρ ρ2 = some r) : ρ2 = ρ := by
  rcases mB_some h with ⟨c, _⟩ | ⟨_, q⟩
  · exact sameR_ok c
  · cases q
/-- a turn from ρ is all right, and ends in ρ -/
def turnI (B : FS) (ρ ρ1 : Rho) : R := B ρ1 (endI ρ) (fun _ => none) (endI ρ) (fun _ => none)
def forK (G : FG) (B : FS) (ρ : Rho) (ds : List PyData) (k : R) : R := List.rec k (fun d _ ih => isYes (G d ρ fun ρ1 => turnI B ρ ρ1) ih) ds
/-- a turn, as a fact -/
def Turn (b : Sx) (ρ ρ1 : Rho) : Prop := ∀ W : Src, ∃ o, b ρ1 W = some o ∧ ∃ W', o = .nx ρ W' ∨ o = .ct ρ W'
theorem turn_of (hb : OkS b B) {ρ ρ1 : Rho} {r : PyData} (h : turnI B ρ ρ1 = some r) : Turn b ρ ρ1 := fun W => by
  obtain ⟨o, e, q⟩ := hb.h _ _ _ _ _ _ h W
  refine ⟨o, e, ?_⟩
  cases o with
  | nx ρ2 W2 => rw [endI_some (ρ := ρ) (ρ2 := ρ2) q]; exact ⟨W2, .inl rfl⟩
  | ct ρ2 W2 => rw [endI_some (ρ := ρ) (ρ2 := ρ2) q]; exact ⟨W2, .inr rfl⟩
  | bk ρ2 W2 => cases q
  | rt d W2 => cases q
theorem for_turns {g : Gx} {ρ : Rho} : ∀ (ds : List PyData), (∀ d ∈ ds, ∃ ρ1, g d ρ = some ρ1 ∧ Turn b ρ ρ1) → ∀ W, ∃ W', forL g b ds ρ W = some (.nx ρ W')
  | [], _, W => ⟨W, rfl⟩
  | d :: ds, h, W => by
    obtain ⟨ρ1, e1', t⟩ := h d (List.mem_cons_self ..)
    obtain ⟨o, e2', W', ho⟩ := t W
    unfold forL
    simp only [e1', e2']
    rcases ho with ho | ho <;> subst ho <;> exact for_turns ds (fun d hd => h d (List.mem_cons_of_mem _ hd)) W'
theorem forK_some {g : Gx} {G : FG} (hg : OkG g G) (hb : OkS b B) {ρ : Rho} {k : R} {r : PyData} : ∀ {ds : List PyData}, forK G B ρ ds k = some r → (∀ d ∈ ds, ∃ ρ1, g d ρ = some ρ1 ∧ Turn b ρ ρ1) ∧ k = some r
  | [], h => ⟨fun _ hd => (nomatch hd), h⟩
  | d :: ds, h => by
    have h' : isYes (G d ρ fun ρ1 => turnI B ρ ρ1) (forK G B ρ ds k) = some r := h
    obtain ⟨h1, h2⟩ := isYes_some h'
    obtain ⟨ρ1, e1', q1⟩ := hg.h _ _ _ _ h1
    obtain ⟨h3, h4⟩ := forK_some hg hb (ds := ds) h2
    refine ⟨fun x hx => ?_, h4⟩
    rcases List.mem_cons.mp hx with e | hx
    · rw [e]; exact ⟨ρ1, e1', turn_of hb q1⟩
    · exact h3 x hx
def forI (is : List Nat) (G : FG) (B : FS) (ρ : Rho) (ds : List PyData) (nx : Rho → R) : R :=
  List.rec (nx ρ) (fun d t _ => frzsC is ρ fun ρF => isYes (G d ρ fun ρ1 => turnI B ρF ρ1) (forK G B ρF t (nx ρF))) ds
theorem forI_some {is : List Nat} {g : Gx} {G : FG} (hg : OkG g G) (hb : OkS b B) {ρ : Rho} {nx : Rho → R} {r : PyData} {ds : List PyData} (h : forI is G B ρ ds nx = some r) (W : Src) : ∃ ρ2 W', forL g b ds ρ W = some (.nx ρ2 W') ∧ nx ρ2 = some r := by
  cases ds with
  | nil => exact ⟨ρ, W, rfl, h⟩
  | cons d t =>
    have h1 := frzsC_some h
    generalize frzs is ρ = ρF at h1
    obtain ⟨h2, h3⟩ := isYes_some h1
    obtain ⟨ρ1, e1', q1⟩ := hg.h _ _ _ _ h2
    obtain ⟨h4, h5⟩ := forK_some hg hb h3
    obtain ⟨o, e2', W2, ho⟩ := turn_of hb q1 W
    obtain ⟨W3, e3'⟩ := for_turns t h4 W2
    refine ⟨ρF, W3, ?_, h5⟩
    unfold forL
    simp only [e1', e2']
    rcases ho with ho | ho <;> subst ho <;> exact e3'
def zForI (is : List Nat) (L : FL) (G : FG) (B : FS) : FS := fun ρ nx _ _ _ => L ρ fun ds => forI is G B ρ ds nx
theorem ok_sForI {is : List Nat} {g : Gx} {G : FG} (h : OkL l L) (hg : OkG g G) (hb : OkS b B) : OkS (sFor l g b) (zForI is L G B) := ⟨fun ρ nx bk ct rt r q W => by
  obtain ⟨x, W1, e1', q1⟩ := h.h ρ _ r q W
  obtain ⟨ρ2, W2, e2', q2⟩ := forI_some hg hb q1 W1
  refine ⟨.nx ρ2 W2, ?_, q2⟩
  unfold sFor
  rw [e1']
  exact e2'⟩
/-! ### a loop whose turns are told elsewhere -/
def memR (ρ : Rho) (S : List Rho) : Bool := List.rec false (fun s _ ih => Bool.rec ih true (sameR ρ s)) S
theorem memR_ok {ρ : Rho} : ∀ {S : List Rho}, memR ρ S = true → ρ ∈ S
  | [], h => by cases h
  | s :: S, h => by
    have h' : (Bool.rec (memR ρ S) true (sameR ρ s) : Bool) = true := h
    cases c : sameR ρ s with
    | true => rw [sameR_ok c]; exact List.mem_cons_self ..
    | false => rw [c] at h'; exact List.mem_cons_of_mem _ (memR_ok h')
def inS (S : List Rho) : Rho → R := fun ρ => mB (memR ρ S) (some (.bool true)) none
theorem inS_some {S : List Rho} {ρ : Rho} {r : PyData} (h : inS S ρ = some r) : ρ ∈ S := by
  rcases mB_some h with ⟨c, _⟩ | ⟨_, q⟩
  · exact memR_ok c
  · cases q
/-- first a, that comes to a state of S; from each of these the rest is told -/
theorem turn_cut (ha : OkS a A) {ρ ρ1 : Rho} (S : List Rho) (h : A ρ1 (inS S) (fun _ => none) (fun _ => none) (fun _ => none) = some (.bool true)) (hS : ∀ ρ2 ∈ S, Turn b ρ ρ2) : Turn (sC a b) ρ ρ1 := fun W => by
  obtain ⟨o, e, q⟩ := ha.h _ _ _ _ _ _ h W
  unfold sC
  rw [e]
  cases o with
  | nx ρ2 W2 => exact hS ρ2 (inS_some (S := S) q) W2
  | bk ρ2 W2 => cases q
  | ct ρ2 W2 => cases q
  | rt d W2 => cases q
def forT (G : FG) (S : List Rho) (ρ : Rho) (ds : List PyData) (k : R) : R := List.rec k (fun d _ ih => isYes (G d ρ (inS S)) ih) ds
theorem forT_some {g : Gx} {G : FG} (hg : OkG g G) {S : List Rho} {ρ : Rho} {k : R} {r : PyData} (hS : ∀ ρ1 ∈ S, Turn b ρ ρ1) : ∀ {ds : List PyData}, forT G S ρ ds k = some r → (∀ d ∈ ds, ∃ ρ1, g d ρ = some ρ1 ∧ Turn b ρ ρ1) ∧ k = some r
  | [], h => ⟨fun _ hd => (nomatch hd), h⟩
  | d :: ds, h => by
    have h' : isYes (G d ρ (inS S)) (forT G S ρ ds k) = some r := h
    obtain ⟨h1, h2⟩ := isYes_some h'
    obtain ⟨ρ1, e1', q1⟩ := hg.h _ _ _ _ h1
    obtain ⟨h3, h4⟩ := forT_some hg hS (ds := ds) h2
    refine ⟨fun x hx => ?_, h4⟩
    rcases List.mem_cons.mp hx with e | hx
    · rw [e]; exact ⟨ρ1, e1', hS ρ1 (inS_some q1)⟩
    · exact h3 x hx
def zForT (L : FL) (G : FG) (S : List Rho) (ρ0 : Rho) : FS := fun ρ nx _ _ _ => mB (sameR ρ ρ0) (L ρ fun ds => forT G S ρ ds (nx ρ)) none
theorem ok_sForT {g : Gx} {G : FG} {S : List Rho} {ρ0 : Rho} (h : OkL l L) (hg : OkG g G) (hS : ∀ ρ1 ∈ S, Turn b ρ0 ρ1) : OkS (sFor l g b) (zForT L G S ρ0) := ⟨fun ρ nx bk ct rt r q W => by
  rcases mB_some q with ⟨c, q0⟩ | ⟨_, q0⟩
  · have e0 := sameR_ok c
    subst e0
    obtain ⟨x, W1, e1', q1⟩ := h.h ρ _ r q0 W
    obtain ⟨h1, h2⟩ := forT_some hg hS q1
    obtain ⟨W2, e2'⟩ := for_turns x h1 W1
    refine ⟨.nx ρ W2, ?_, h2⟩
    unfold sFor
    rw [e1']
    exact e2'
  · cases q0⟩
/-- a check -/
def okB (r : R) : Bool := Option.rec false (fun d => sameN d (.bool true)) r
theorem of_okB {r : R} (h : okB r = true) : r = some (.bool true) := by
  cases r with
  | none => cases h
  | some d =>
    have h' : sameN d (.bool true) = true := h
    rw [sameN_ok h']
theorem all_nil {p : Rho → Prop} : ∀ ρ ∈ ([] : List Rho), p ρ := fun _ h => nomatch h
theorem all_cons {p : Rho → Prop} {x : Rho} {S : List Rho} (h : p x) (hS : ∀ ρ ∈ S, p ρ) : ∀ ρ ∈ x :: S, p ρ := List.forall_mem_cons.mpr ⟨h, hS⟩
theorem all_app {p : Rho → Prop} {S T : List Rho} (h : ∀ ρ ∈ S, p ρ) (hS : ∀ ρ ∈ T, p ρ) : ∀ ρ ∈ S ++ T, p ρ := fun x hx => (List.mem_append.mp hx).elim (h x) (hS x)
end
end Fe
set_option Elab.async false
set_option linter.all false
set_option maxRecDepth 100000
set_option maxHeartbeats 4000000
/-! What the defs are worth. -/
namespace Lw
open PySem PySem.Spec Dv Fe
noncomputable section
def ΦcPick : FC := pickC
theorem ok_cPick : OkC cPick ΦcPick := ok_pick
/-! fraction_low: 0 top, 1 bottom, 2 rest, 3 part -/
def g_fraction_low : Sx := sC (sFrz [] (sSet (gN 2) (e2 bMod (eVar 0) (eVar 1)))) (sC (sFrz [] (sSet (gN 3) (eN fGcd (lCons (eVar 2) (lCons (eVar 1) lNil))))) (sC (sFrz [] (sRet (eN oTup (lCons (e2 bDiv (eVar 2) (eVar 3)) (lCons (e2 bDiv (eVar 1) (eVar 3)) lNil))))) s0))
def φ_fraction_low : Ctr := wfn 2 4 g_fraction_low
def F_g_fraction_low : FS := (zSeq (zS2 (x2 fMod var0 var1)) (zSeq (zS3 (xN (anyI fGcd) (yCons var2 (yCons var1 yNil)))) (zRet (xTup (yCons (x2 fDiv var2 var3) (yCons (x2 fDiv var1 var3) yNil))))))
theorem okF_g_fraction_low : OkS g_fraction_low F_g_fraction_low := (ok_sC (ok_frz0 (ok_zS2 (ok_e2 ok_bMod ok_var0 ok_var1))) (ok_sC (ok_frz0 (ok_zS3 (ok_eN ok_fGcd (ok_lCons ok_var2 (ok_lCons ok_var1 ok_lNil))))) (ok_end (ok_frz0 (ok_sRet (ok_tup (n := 2) (by decide) (len_cons (len_cons len_nil)) (ok_lCons (ok_e2 ok_bDiv ok_var2 ok_var3) (ok_lCons (ok_e2 ok_bDiv ok_var1 ok_var3) ok_lNil))))))))
def R_fraction_low : PyData → PyData → R := run2 F_g_fraction_low [.no, .no]
theorem pu_φ_fraction_low : Pu2 φ_fraction_low R_fraction_low := pu_run2 rfl okF_g_fraction_low
/-! moved: 0 point -/
def g_moved : Sx := sC (sFrz [] (sRet (eCall φ_fraction_low (aCons (e2 bMul (eC (.int 2)) (e2 bIx (eVar 0) (eC (.int 0)))) (aCons (e2 bIx (eVar 0) (eC (.int 1))) aNil))))) s0
def φ_moved : Ctr := wfn 1 1 g_moved
def F_g_moved : FS := (zRet (call2 R_fraction_low (x2 fMul (xC (.int 2)) (x2 fIx var0 (xC (.int 0)))) (x2 fIx var0 (xC (.int 1)))))
theorem okF_g_moved : OkS g_moved F_g_moved := (ok_end (ok_frz0 (ok_sRet (ok_call2 pu_φ_fraction_low (ok_e2 ok_bMul (ok_eC (.int 2)) (ok_e2 ok_bIx ok_var0 (ok_eC (.int 0)))) (ok_e2 ok_bIx ok_var0 (ok_eC (.int 1)))))))
def R_moved : PyData → R := run1 F_g_moved []
theorem pu_φ_moved : Pu1 φ_moved R_moved := pu_run1 rfl okF_g_moved
/-! opposite: 0 point -/
def g_opposite : Sx := sC (sFrz [] (sRet (eCall φ_fraction_low (aCons (e2 bAdd (e2 bMul (eC (.int 2)) (e2 bIx (eVar 0) (eC (.int 0)))) (e2 bIx (eVar 0) (eC (.int 1)))) (aCons (e2 bMul (eC (.int 2)) (e2 bIx (eVar 0) (eC (.int 1)))) aNil))))) s0
def φ_opposite : Ctr := wfn 1 1 g_opposite
def F_g_opposite : FS := (zRet (call2 R_fraction_low (x2 fAdd (x2 fMul (xC (.int 2)) (x2 fIx var0 (xC (.int 0)))) (x2 fIx var0 (xC (.int 1)))) (x2 fMul (xC (.int 2)) (x2 fIx var0 (xC (.int 1))))))
theorem okF_g_opposite : OkS g_opposite F_g_opposite := (ok_end (ok_frz0 (ok_sRet (ok_call2 pu_φ_fraction_low (ok_e2 ok_bAdd (ok_e2 ok_bMul (ok_eC (.int 2)) (ok_e2 ok_bIx ok_var0 (ok_eC (.int 0)))) (ok_e2 ok_bIx ok_var0 (ok_eC (.int 1)))) (ok_e2 ok_bMul (ok_eC (.int 2)) (ok_e2 ok_bIx ok_var0 (ok_eC (.int 1))))))))
def R_opposite : PyData → R := run1 F_g_opposite []
theorem pu_φ_opposite : Pu1 φ_opposite R_opposite := pu_run1 rfl okF_g_opposite
/-! way_told: 0 point, 1 odd, 2 ahead, 3 power, 4 many -/
def b_way_told_1 : Sx := sC (sFrz [] (sPars [1, 2] [(false, e2 bDiv (eVar 1) (eC (.int 2))), (true, e2 bAdd (eVar 2) (eC (.int 1)))])) s0
def b_way_told_2 : Sx := sC (sFrz [] (sPars [3, 4] [(false, e2 bMod (e2 bMul (eVar 3) (eC (.int 2))) (eVar 1)), (true, e2 bAdd (eVar 4) (eC (.int 1)))])) s0
def g_way_told : Sx := sC (sFrz [] (sPars [1, 2] [(false, e2 bIx (eVar 0) (eC (.int 1))), (false, eC (.int 0))])) (sC (whL [] (tOf (e2 cEq (e2 bMod (eVar 1) (eC (.int 2))) (eC (.int 0)))) b_way_told_1 1000) (sC (sFrz [] (sPars [3, 4] [(false, e2 bMod (eC (.int 2)) (eVar 1)), (false, eC (.int 1))])) (sC (whL [] (tAnd2 (tOf (e2 cNe (eVar 3) (e2 bMod (eC (.int 1)) (eVar 1)))) (tOf (e2 cLe (e2 bAdd (eVar 2) (eVar 4)) (eC (.int 400))))) b_way_told_2 1000) (sC (sFrz [] (sIf (tOf (e2 cGt (e2 bAdd (eVar 2) (eVar 4)) (eC (.int 400)))) (sC sStuck s0) s0)) (sC (sFrz [2, 4] (sRet (eN oTup (lCons (eVal 2) (lCons (eVal 4) lNil))))) s0)))))
def φ_way_told : Ctr := wfn 1 5 g_way_told
def F_b_way_told_1 : FS := (zPars [1, 2] [false, true] (yCons (x2 fDiv var1 (xC (.int 2))) (yCons (x2 fAdd var2 (xC (.int 1))) yNil)))
theorem okF_b_way_told_1 : OkS b_way_told_1 F_b_way_told_1 := (ok_end (ok_frz0 (ok_sPars (ok_lCons (ok_e2 ok_bDiv ok_var1 (ok_eC (.int 2))) (ok_lCons (ok_e2 ok_bAdd ok_var2 (ok_eC (.int 1))) ok_lNil)) rfl)))
def F_b_way_told_2 : FS := (zPars [3, 4] [false, true] (yCons (x2 fMod (x2 fMul var3 (xC (.int 2))) var1) (yCons (x2 fAdd var4 (xC (.int 1))) yNil)))
theorem okF_b_way_told_2 : OkS b_way_told_2 F_b_way_told_2 := (ok_end (ok_frz0 (ok_sPars (ok_lCons (ok_e2 ok_bMod (ok_e2 ok_bMul ok_var3 (ok_eC (.int 2))) ok_var1) (ok_lCons (ok_e2 ok_bAdd ok_var4 (ok_eC (.int 1))) ok_lNil)) rfl)))
def F_g_way_told : FS := (zSeq (zPars [1, 2] [false, false] (yCons (x2 fIx var0 (xC (.int 1))) (yCons (xC (.int 0)) yNil))) (zSeq (zWh [] (tOfC (x2 fEq (x2 fMod var1 (xC (.int 2))) (xC (.int 0)))) F_b_way_told_1 1000) (zSeq (zPars [3, 4] [false, false] (yCons (x2 fMod (xC (.int 2)) var1) (yCons (xC (.int 1)) yNil))) (zSeq (zWh [] (tAndC (tOfC (x2 fNe var3 (x2 fMod (xC (.int 1)) var1))) (tOfC (x2 (fCmp iLe) (x2 fAdd var2 var4) (xC (.int 400))))) F_b_way_told_2 1000) (zSeq (zIf (tOfC (x2 fGt (x2 fAdd var2 var4) (xC (.int 400)))) zNo zNx) (zF2 (zF4 (zRet (xTup (yCons val2 (yCons val4 yNil)))))))))))
theorem okF_g_way_told : OkS g_way_told F_g_way_told := (ok_sC (ok_frz0 (ok_sPars (ok_lCons (ok_e2 ok_bIx ok_var0 (ok_eC (.int 1))) (ok_lCons (ok_eC (.int 0)) ok_lNil)) rfl)) (ok_sC (ok_whL (ok_tOf (ok_e2 ok_cEq (ok_e2 ok_bMod ok_var1 (ok_eC (.int 2))) (ok_eC (.int 0)))) okF_b_way_told_1) (ok_sC (ok_frz0 (ok_sPars (ok_lCons (ok_e2 ok_bMod (ok_eC (.int 2)) ok_var1) (ok_lCons (ok_eC (.int 1)) ok_lNil)) rfl)) (ok_sC (ok_whL (ok_tAnd2 (ok_tOf (ok_e2 ok_cNe ok_var3 (ok_e2 ok_bMod (ok_eC (.int 1)) ok_var1))) (ok_tOf (ok_e2 ok_cLe (ok_e2 ok_bAdd ok_var2 ok_var4) (ok_eC (.int 400))))) okF_b_way_told_2) (ok_sC (ok_frz0 (ok_sIf (ok_tOf (ok_e2 ok_cGt (ok_e2 ok_bAdd ok_var2 ok_var4) (ok_eC (.int 400)))) (ok_end ok_sStuck) ok_s0)) (ok_end (ok_zF2 (ok_zF4 (ok_frz0 (ok_sRet (ok_tup (n := 2) (by decide) (len_cons (len_cons len_nil)) (ok_lCons ok_val2 (ok_lCons ok_val4 ok_lNil)))))))))))))
def R_way_told : PyData → R := run1 F_g_way_told [.no, .no, .no, .no]
theorem pu_φ_way_told : Pu1 φ_way_told R_way_told := pu_run1 rfl okF_g_way_told
/-! is_between: 0 one, 1 point, 2 other, 3 a, 4 b, 5 c, 6 d, 7 e, 8 f, 9 far, 10 near -/
def g_is_between : Sx := sC (sFrz [0, 1, 2] (sSet (gT 3 (gsC (gT 2 (gsC (gN 3) (gsC (gN 4) gs0))) (gsC (gT 2 (gsC (gN 5) (gsC (gN 6) gs0))) (gsC (gT 2 (gsC (gN 7) (gsC (gN 8) gs0))) gs0)))) (eN oTup (lCons (eVal 0) (lCons (eVal 1) (lCons (eVal 2) lNil)))))) (sC (sFrz [] (sPars [9, 10] [(false, e2 bMod (e2 bSub (e2 bMul (eVar 7) (eVar 4)) (e2 bMul (eVar 3) (eVar 8))) (e2 bMul (eVar 4) (eVar 8))), (false, e2 bMod (e2 bSub (e2 bMul (eVar 5) (eVar 4)) (e2 bMul (eVar 3) (eVar 6))) (e2 bMul (eVar 4) (eVar 6)))])) (sC (sFrz [] (sIf (tOf (e2 cEq (eVar 10) (eC (.int 0)))) (sC (sFrz [] (sRet (eC (.bool false)))) s0) s0)) (sC (sFrz [] (sRet (eOr2 (e2 cEq (eVar 9) (eC (.int 0))) (e2 cLt (e2 bMul (eVar 10) (eVar 8)) (e2 bMul (eVar 9) (eVar 6)))))) s0)))
def φ_is_between : Ctr := wfn 3 11 g_is_between
def F_g_is_between : FS := (zSeq (zF0 (zF1 (zF2 (zSet (gTC 3 (gsCC (gTC 2 (gsCC gn3 (gsCC gn4 gs0C))) (gsCC (gTC 2 (gsCC gn5 (gsCC gn6 gs0C))) (gsCC (gTC 2 (gsCC gn7 (gsCC gn8 gs0C))) gs0C)))) (xTup (yCons val0 (yCons val1 (yCons val2 yNil)))))))) (zSeq (zPars [9, 10] [false, false] (yCons (x2 fMod (x2 fSub (x2 fMul var7 var4) (x2 fMul var3 var8)) (x2 fMul var4 var8)) (yCons (x2 fMod (x2 fSub (x2 fMul var5 var4) (x2 fMul var3 var6)) (x2 fMul var4 var6)) yNil))) (zSeq (zIf (tOfC (x2 fEq var10 (xC (.int 0)))) (zRet (xC (.bool false))) zNx) (zRet (xOr (x2 fEq var9 (xC (.int 0))) (x2 fLt (x2 fMul var10 var8) (x2 fMul var9 var6)))))))
theorem okF_g_is_between : OkS g_is_between F_g_is_between := (ok_sC (ok_zF0 (ok_zF1 (ok_zF2 (ok_frz0 (ok_sSet (ok_gT (ok_gsC (ok_gT (ok_gsC ok_gn3 (ok_gsC ok_gn4 ok_gs0))) (ok_gsC (ok_gT (ok_gsC ok_gn5 (ok_gsC ok_gn6 ok_gs0))) (ok_gsC (ok_gT (ok_gsC ok_gn7 (ok_gsC ok_gn8 ok_gs0))) ok_gs0)))) (ok_tup (n := 3) (by decide) (len_cons (len_cons (len_cons len_nil))) (ok_lCons ok_val0 (ok_lCons ok_val1 (ok_lCons ok_val2 ok_lNil))))))))) (ok_sC (ok_frz0 (ok_sPars (ok_lCons (ok_e2 ok_bMod (ok_e2 ok_bSub (ok_e2 ok_bMul ok_var7 ok_var4) (ok_e2 ok_bMul ok_var3 ok_var8)) (ok_e2 ok_bMul ok_var4 ok_var8)) (ok_lCons (ok_e2 ok_bMod (ok_e2 ok_bSub (ok_e2 ok_bMul ok_var5 ok_var4) (ok_e2 ok_bMul ok_var3 ok_var6)) (ok_e2 ok_bMul ok_var4 ok_var6)) ok_lNil)) rfl)) (ok_sC (ok_frz0 (ok_sIf (ok_tOf (ok_e2 ok_cEq ok_var10 (ok_eC (.int 0)))) (ok_end (ok_frz0 (ok_sRet (ok_eC (.bool false))))) ok_s0)) (ok_end (ok_frz0 (ok_sRet (ok_eOr2 (ok_e2 ok_cEq ok_var9 (ok_eC (.int 0))) (ok_e2 ok_cLt (ok_e2 ok_bMul ok_var10 ok_var8) (ok_e2 ok_bMul ok_var9 ok_var6)))))))))
def R_is_between : PyData → PyData → PyData → R := run3 F_g_is_between [.no, .no, .no, .no, .no, .no, .no, .no]
theorem pu_φ_is_between : Pu3 φ_is_between R_is_between := pu_run3 rfl okF_g_is_between
/-! round_root: 0 letters, 1 many, 2 length -/
def b_round_root_1 : Sx := sC (sFrz [] (sIf (tAnd2 (tOf (e2 cEq (e2 bMod (eVar 1) (eVar 2)) (eC (.int 0)))) (tOf (e2 cEq (eVar 0) (e2 bMul (eSl (eVar 0) pNo (pOf (eVar 2))) (e2 bDiv (eVar 1) (eVar 2)))))) (sC (sFrz [] (sRet (eSl (eVar 0) pNo (pOf (eVar 2))))) s0) s0)) s0
def g_round_root : Sx := sC (sFrz [] (sSet (gN 1) (eN fLen (lCons (eVar 0) lNil)))) (sC (sFrz [] (sFor (iR2 (eC (.int 1)) (eVar 1)) (gN 2) b_round_root_1)) (sC (sFrz [0] (sRet (eVal 0))) s0))
def φ_round_root : Ctr := wfn 1 3 g_round_root
def F_b_round_root_1 : FS := (zIf (tAndC (tOfC (x2 fEq (x2 fMod var1 var2) (xC (.int 0)))) (tOfC (x2 fEq var0 (x2 fMul (xSl var0 pNoC (pOfC var2)) (x2 fDiv var1 var2))))) (zRet (xSl var0 pNoC (pOfC var2))) zNx)
theorem okF_b_round_root_1 : OkS b_round_root_1 F_b_round_root_1 := (ok_end (ok_frz0 (ok_sIf (ok_tAnd2 (ok_tOf (ok_e2 ok_cEq (ok_e2 ok_bMod ok_var1 ok_var2) (ok_eC (.int 0)))) (ok_tOf (ok_e2 ok_cEq ok_var0 (ok_e2 ok_bMul (ok_eSl ok_var0 ok_pNo (ok_pOf ok_var2)) (ok_e2 ok_bDiv ok_var1 ok_var2))))) (ok_end (ok_frz0 (ok_sRet (ok_eSl ok_var0 ok_pNo (ok_pOf ok_var2))))) ok_s0)))
def F_g_round_root : FS := (zSeq (zS1 (xN ffLen (yCons var0 yNil))) (zSeq (zFor (y2 (xC (.int 1)) var1) gn2 F_b_round_root_1) (zF0 (zRet val0))))
theorem okF_g_round_root : OkS g_round_root F_g_round_root := (ok_sC (ok_frz0 (ok_zS1 (ok_eN ok_fLen (ok_lCons ok_var0 ok_lNil)))) (ok_sC (ok_frz0 (ok_sFor (ok_iR2 (ok_eC (.int 1)) ok_var1) ok_gn2 okF_b_round_root_1)) (ok_end (ok_zF0 (ok_frz0 (ok_sRet ok_val0))))))
def R_round_root : PyData → R := run1 F_g_round_root [.no, .no]
theorem pu_φ_round_root : Pu1 φ_round_root R_round_root := pu_run1 rfl okF_g_round_root
/-! row_low: 0 ahead, 1 letters -/
def b_row_low_1 : Sx := sC (sFrz [] (sPars [0, 1] [(true, eSl (eVar 0) pNo (pOf (e1 uNeg (eC (.int 1))))), (true, e2 bAdd (eSl (eVar 1) (pOf (e1 uNeg (eC (.int 1)))) pNo) (eSl (eVar 1) pNo (pOf (e1 uNeg (eC (.int 1))))))])) s0
def g_row_low : Sx := sC (sFrz [1] (sSet (gN 1) (eCall φ_round_root (aCons (eVal 1) aNil)))) (sC (whL [] (tAnd2 (tOf (e2 cNe (eVar 0) (eN oTup lNil))) (tOf (e2 cEq (e2 bIx (eVar 0) (e1 uNeg (eC (.int 1)))) (e2 bIx (eVar 1) (e1 uNeg (eC (.int 1))))))) b_row_low_1 1000) (sC (sFrz [0, 1] (sRet (eN oTup (lCons (eVal 0) (lCons (eVal 1) lNil))))) s0))
def φ_row_low : Ctr := wfn 2 2 g_row_low
def F_b_row_low_1 : FS := (zPars [0, 1] [true, true] (yCons (xSl var0 pNoC (pOfC (x1 fNeg (xC (.int 1))))) (yCons (x2 fAdd (xSl var1 (pOfC (x1 fNeg (xC (.int 1)))) pNoC) (xSl var1 pNoC (pOfC (x1 fNeg (xC (.int 1)))))) yNil)))
theorem okF_b_row_low_1 : OkS b_row_low_1 F_b_row_low_1 := (ok_end (ok_frz0 (ok_sPars (ok_lCons (ok_eSl ok_var0 ok_pNo (ok_pOf (ok_e1 ok_uNeg (ok_eC (.int 1))))) (ok_lCons (ok_e2 ok_bAdd (ok_eSl ok_var1 (ok_pOf (ok_e1 ok_uNeg (ok_eC (.int 1)))) ok_pNo) (ok_eSl ok_var1 ok_pNo (ok_pOf (ok_e1 ok_uNeg (ok_eC (.int 1)))))) ok_lNil)) rfl)))
def F_g_row_low : FS := (zSeq (zF1 (zS1 (call1 R_round_root val1))) (zSeq (zWh [] (tAndC (tOfC (x2 fNe var0 (xTup yNil))) (tOfC (x2 fEq (x2 fIx var0 (x1 fNeg (xC (.int 1)))) (x2 fIx var1 (x1 fNeg (xC (.int 1))))))) F_b_row_low_1 1000) (zF0 (zF1 (zRet (xTup (yCons val0 (yCons val1 yNil))))))))
theorem okF_g_row_low : OkS g_row_low F_g_row_low := (ok_sC (ok_zF1 (ok_frz0 (ok_zS1 (ok_call1 pu_φ_round_root ok_val1)))) (ok_sC (ok_whL (ok_tAnd2 (ok_tOf (ok_e2 ok_cNe ok_var0 (ok_tup (n := 0) (by decide) len_nil ok_lNil))) (ok_tOf (ok_e2 ok_cEq (ok_e2 ok_bIx ok_var0 (ok_e1 ok_uNeg (ok_eC (.int 1)))) (ok_e2 ok_bIx ok_var1 (ok_e1 ok_uNeg (ok_eC (.int 1))))))) okF_b_row_low_1) (ok_end (ok_zF0 (ok_zF1 (ok_frz0 (ok_sRet (ok_tup (n := 2) (by decide) (len_cons (len_cons len_nil)) (ok_lCons ok_val0 (ok_lCons ok_val1 ok_lNil))))))))))
def R_row_low : PyData → PyData → R := run2 F_g_row_low []
theorem pu_φ_row_low : Pu2 φ_row_low R_row_low := pu_run2 rfl okF_g_row_low
/-! not_long_rows: 0 row -/
def g_not_long_rows : Sx := sC (sFrz [] (sIf (tOf (e2 cGt (e2 bAdd (eN fLen (lCons (e2 bIx (eVar 0) (eC (.int 0))) lNil)) (eN fLen (lCons (e2 bIx (eVar 0) (eC (.int 1))) lNil))) (eC (.int 400)))) (sC sStuck s0) s0)) (sC (sFrz [0] (sRet (eVal 0))) s0)
def φ_not_long_rows : Ctr := wfn 1 1 g_not_long_rows
def F_g_not_long_rows : FS := (zSeq (zIf (tOfC (x2 fGt (x2 fAdd (xN ffLen (yCons (x2 fIx var0 (xC (.int 0))) yNil)) (xN ffLen (yCons (x2 fIx var0 (xC (.int 1))) yNil))) (xC (.int 400)))) zNo zNx) (zF0 (zRet val0)))
theorem okF_g_not_long_rows : OkS g_not_long_rows F_g_not_long_rows := (ok_sC (ok_frz0 (ok_sIf (ok_tOf (ok_e2 ok_cGt (ok_e2 ok_bAdd (ok_eN ok_fLen (ok_lCons (ok_e2 ok_bIx ok_var0 (ok_eC (.int 0))) ok_lNil)) (ok_eN ok_fLen (ok_lCons (ok_e2 ok_bIx ok_var0 (ok_eC (.int 1))) ok_lNil))) (ok_eC (.int 400)))) (ok_end ok_sStuck) ok_s0)) (ok_end (ok_zF0 (ok_frz0 (ok_sRet ok_val0)))))
def R_not_long_rows : PyData → R := run1 F_g_not_long_rows []
theorem pu_φ_not_long_rows : Pu1 φ_not_long_rows R_not_long_rows := pu_run1 rfl okF_g_not_long_rows
/-! row_letters: 0 row, 1 many, 2 ahead, 3 letters, 4 times -/
def g_row_letters : Sx := sC (sFrz [0] (sSet (gT 2 (gsC (gN 2) (gsC (gN 3) gs0))) (eVal 0))) (sC (sFrz [] (sNew 4 (e2 bAdd (e2 bDiv (eN fMaxA (lCons (eC (.int 0)) (lCons (e2 bSub (eVar 1) (eN fLen (lCons (eVar 2) lNil))) lNil))) (eN fLen (lCons (eVar 3) lNil))) (eC (.int 1))))) (sC (sFrz [] (sRet (eSl (e2 bAdd (eVar 2) (e2 bMul (eVar 3) (eVar 4))) pNo (pOf (eVar 1))))) s0))
def φ_row_letters : Ctr := wfn 2 5 g_row_letters
def F_g_row_letters : FS := (zSeq (zF0 (zSet (gTC 2 (gsCC gn2 (gsCC gn3 gs0C))) val0)) (zSeq (zN4 (x2 fAdd (x2 fDiv (xN (anyI fMaxA) (yCons (xC (.int 0)) (yCons (x2 fSub var1 (xN ffLen (yCons var2 yNil))) yNil))) (xN ffLen (yCons var3 yNil))) (xC (.int 1)))) (zRet (xSl (x2 fAdd var2 (x2 fMul var3 var4)) pNoC (pOfC var1)))))
theorem okF_g_row_letters : OkS g_row_letters F_g_row_letters := (ok_sC (ok_zF0 (ok_frz0 (ok_sSet (ok_gT (ok_gsC ok_gn2 (ok_gsC ok_gn3 ok_gs0))) ok_val0))) (ok_sC (ok_frz0 (ok_zN4 (ok_e2 ok_bAdd (ok_e2 ok_bDiv (ok_eN ok_fMaxA (ok_lCons (ok_eC (.int 0)) (ok_lCons (ok_e2 ok_bSub ok_var1 (ok_eN ok_fLen (ok_lCons ok_var2 ok_lNil))) ok_lNil))) (ok_eN ok_fLen (ok_lCons ok_var3 ok_lNil))) (ok_eC (.int 1))))) (ok_end (ok_frz0 (ok_sRet (ok_eSl (ok_e2 ok_bAdd ok_var2 (ok_e2 ok_bMul ok_var3 ok_var4)) ok_pNo (ok_pOf ok_var1)))))))
def R_row_letters : PyData → PyData → R := run2 F_g_row_letters [.no, .no, .no]
theorem pu_φ_row_letters : Pu2 φ_row_letters R_row_letters := pu_run2 rfl okF_g_row_letters
/-! put_ahead: 0 letters, 1 row -/
def g_put_ahead : Sx := sC (sFrz [] (sRet (eCall φ_not_long_rows (aCons (eCall φ_row_low (aCons (e2 bAdd (eVar 0) (e2 bIx (eVar 1) (eC (.int 0)))) (aCons (e2 bIx (eVar 1) (eC (.int 1))) aNil))) aNil)))) s0
def φ_put_ahead : Ctr := wfn 2 2 g_put_ahead
def F_g_put_ahead : FS := (zRet (call1 R_not_long_rows (call2 R_row_low (x2 fAdd var0 (x2 fIx var1 (xC (.int 0)))) (x2 fIx var1 (xC (.int 1))))))
theorem okF_g_put_ahead : OkS g_put_ahead F_g_put_ahead := (ok_end (ok_frz0 (ok_sRet (ok_call1 pu_φ_not_long_rows (ok_call2 pu_φ_row_low (ok_e2 ok_bAdd ok_var0 (ok_e2 ok_bIx ok_var1 (ok_eC (.int 0)))) (ok_e2 ok_bIx ok_var1 (ok_eC (.int 1))))))))
def R_put_ahead : PyData → PyData → R := run2 F_g_put_ahead []
theorem pu_φ_put_ahead : Pu2 φ_put_ahead R_put_ahead := pu_run2 rfl okF_g_put_ahead
/-! first_unlike: 0 one, 1 other, 2 many, 3 first, 4 second, 5 k -/
def g_first_unlike : Sx := sC (sFrz [] (sIf (tOf (e2 cEq (eVar 0) (eVar 1))) (sC (sFrz [] (sRet (eC .none))) s0) s0)) (sC (sFrz [] (sNew 2 (e2 bAdd (e2 bAdd (eN fMaxA (lCons (eN fLen (lCons (e2 bIx (eVar 0) (eC (.int 0))) lNil)) (lCons (eN fLen (lCons (e2 bIx (eVar 1) (eC (.int 0))) lNil)) lNil))) (eN fLen (lCons (e2 bIx (eVar 0) (eC (.int 1))) lNil))) (eN fLen (lCons (e2 bIx (eVar 1) (eC (.int 1))) lNil))))) (sC (sFrz [0, 2, 1, 2] (sPars [3, 4] [(false, eCall φ_row_letters (aCons (eVal 0) (aCons (eVal 2) aNil))), (false, eCall φ_row_letters (aCons (eVal 1) (aCons (eVal 2) aNil)))])) (sC (sFrz [5] (sRet (e2 bIx (eComp [5] (iR1 (eVar 2)) (gN 5) (tOf (e2 cNe (e2 bIx (eVar 3) (eVar 5)) (e2 bIx (eVar 4) (eVar 5)))) (eVal 5)) (eC (.int 0))))) s0)))
def φ_first_unlike : Ctr := wfn 2 6 g_first_unlike
def F_g_first_unlike : FS := (zSeq (zIf (tOfC (x2 fEq var0 var1)) (zRet (xC .none)) zNx) (zSeq (zN2 (x2 fAdd (x2 fAdd (xN (anyI fMaxA) (yCons (xN ffLen (yCons (x2 fIx var0 (xC (.int 0))) yNil)) (yCons (xN ffLen (yCons (x2 fIx var1 (xC (.int 0))) yNil)) yNil))) (xN ffLen (yCons (x2 fIx var0 (xC (.int 1))) yNil))) (xN ffLen (yCons (x2 fIx var1 (xC (.int 1))) yNil)))) (zSeq (zF0 (zF2 (zF1 (zF2 (zPars [3, 4] [false, false] (yCons (call2 R_row_letters val0 val2) (yCons (call2 R_row_letters val1 val2) yNil))))))) (zF5 (zRet (x2 fIx (xComp [5] (y1 var2) gn5 (tOfC (x2 fNe (x2 fIx var3 var5) (x2 fIx var4 var5))) val5) (xC (.int 0))))))))
theorem okF_g_first_unlike : OkS g_first_unlike F_g_first_unlike := (ok_sC (ok_frz0 (ok_sIf (ok_tOf (ok_e2 ok_cEq ok_var0 ok_var1)) (ok_end (ok_frz0 (ok_sRet (ok_eC .none)))) ok_s0)) (ok_sC (ok_frz0 (ok_zN2 (ok_e2 ok_bAdd (ok_e2 ok_bAdd (ok_eN ok_fMaxA (ok_lCons (ok_eN ok_fLen (ok_lCons (ok_e2 ok_bIx ok_var0 (ok_eC (.int 0))) ok_lNil)) (ok_lCons (ok_eN ok_fLen (ok_lCons (ok_e2 ok_bIx ok_var1 (ok_eC (.int 0))) ok_lNil)) ok_lNil))) (ok_eN ok_fLen (ok_lCons (ok_e2 ok_bIx ok_var0 (ok_eC (.int 1))) ok_lNil))) (ok_eN ok_fLen (ok_lCons (ok_e2 ok_bIx ok_var1 (ok_eC (.int 1))) ok_lNil))))) (ok_sC (ok_zF0 (ok_zF2 (ok_zF1 (ok_zF2 (ok_frz0 (ok_sPars (ok_lCons (ok_call2 pu_φ_row_letters ok_val0 ok_val2) (ok_lCons (ok_call2 pu_φ_row_letters ok_val1 ok_val2) ok_lNil)) rfl)))))) (ok_end (ok_zF5 (ok_frz0 (ok_sRet (ok_e2 ok_bIx (ok_eComp (ok_iR1 ok_var2) ok_gn5 (ok_tOf (ok_e2 ok_cNe (ok_e2 ok_bIx ok_var3 ok_var5) (ok_e2 ok_bIx ok_var4 ok_var5))) ok_val5) (ok_eC (.int 0))))))))))
def R_first_unlike : PyData → PyData → R := run2 F_g_first_unlike [.no, .no, .no, .no]
theorem pu_φ_first_unlike : Pu2 φ_first_unlike R_first_unlike := pu_run2 rfl okF_g_first_unlike
/-! rows_order: 0 one, 1 other, 2 at -/
def g_rows_order : Sx := sC (sFrz [0, 1] (sSet (gN 2) (eCall φ_first_unlike (aCons (eVal 0) (aCons (eVal 1) aNil))))) (sC (sFrz [] (sIf (tOf (e2 cIsN (eVar 2) (eC .none))) (sC (sFrz [] (sRet (eC (.int 0)))) s0) s0)) (sC (sFrz [0, 1] (sRet (eIf (tOf (e2 cGt (e2 bIx (eCall φ_row_letters (aCons (eVal 0) (aCons (e2 bAdd (eVar 2) (eC (.int 1))) aNil))) (eVar 2)) (e2 bIx (eCall φ_row_letters (aCons (eVal 1) (aCons (e2 bAdd (eVar 2) (eC (.int 1))) aNil))) (eVar 2)))) (eC (.int 1)) (e1 uNeg (eC (.int 1)))))) s0))
def φ_rows_order : Ctr := wfn 2 3 g_rows_order
def F_g_rows_order : FS := (zSeq (zF0 (zF1 (zS2 (call2 R_first_unlike val0 val1)))) (zSeq (zIf (tOfC (x2 (any2 cIsN) var2 (xC .none))) (zRet (xC (.int 0))) zNx) (zF0 (zF1 (zRet (xIf (tOfC (x2 fGt (x2 fIx (call2 R_row_letters val0 (x2 fAdd var2 (xC (.int 1)))) var2) (x2 fIx (call2 R_row_letters val1 (x2 fAdd var2 (xC (.int 1)))) var2))) (xC (.int 1)) (x1 fNeg (xC (.int 1)))))))))
theorem okF_g_rows_order : OkS g_rows_order F_g_rows_order := (ok_sC (ok_zF0 (ok_zF1 (ok_frz0 (ok_zS2 (ok_call2 pu_φ_first_unlike ok_val0 ok_val1))))) (ok_sC (ok_frz0 (ok_sIf (ok_tOf (ok_e2 ok_cIsN ok_var2 (ok_eC .none))) (ok_end (ok_frz0 (ok_sRet (ok_eC (.int 0))))) ok_s0)) (ok_end (ok_zF0 (ok_zF1 (ok_frz0 (ok_sRet (ok_eIf (ok_tOf (ok_e2 ok_cGt (ok_e2 ok_bIx (ok_call2 pu_φ_row_letters ok_val0 (ok_e2 ok_bAdd ok_var2 (ok_eC (.int 1)))) ok_var2) (ok_e2 ok_bIx (ok_call2 pu_φ_row_letters ok_val1 (ok_e2 ok_bAdd ok_var2 (ok_eC (.int 1)))) ok_var2))) (ok_eC (.int 1)) (ok_e1 ok_uNeg (ok_eC (.int 1)))))))))))
def R_rows_order : PyData → PyData → R := run2 F_g_rows_order [.no]
theorem pu_φ_rows_order : Pu2 φ_rows_order R_rows_order := pu_run2 rfl okF_g_rows_order
/-! cut_told: 0 rule, 1 one -/
def g_cut_told : Sx := sC (sFrz [] (sSet (gN 1) (eCall φ_fraction_low (aCons (e2 bIx (eVar 0) (eC (.int 0))) (aCons (e2 bMul (eC (.int 2)) (e2 bIx (eVar 0) (eC (.int 1)))) aNil))))) (sC (sFrz [1, 1] (sRet (eN oTup (lCons (eVal 1) (lCons (eCall φ_opposite (aCons (eVal 1) aNil)) lNil))))) s0)
def φ_cut_told : Ctr := wfn 1 2 g_cut_told
def F_g_cut_told : FS := (zSeq (zS1 (call2 R_fraction_low (x2 fIx var0 (xC (.int 0))) (x2 fMul (xC (.int 2)) (x2 fIx var0 (xC (.int 1)))))) (zF1 (zF1 (zRet (xTup (yCons val1 (yCons (call1 R_opposite val1) yNil)))))))
theorem okF_g_cut_told : OkS g_cut_told F_g_cut_told := (ok_sC (ok_frz0 (ok_zS1 (ok_call2 pu_φ_fraction_low (ok_e2 ok_bIx ok_var0 (ok_eC (.int 0))) (ok_e2 ok_bMul (ok_eC (.int 2)) (ok_e2 ok_bIx ok_var0 (ok_eC (.int 1))))))) (ok_end (ok_zF1 (ok_zF1 (ok_frz0 (ok_sRet (ok_tup (n := 2) (by decide) (len_cons (len_cons len_nil)) (ok_lCons ok_val1 (ok_lCons (ok_call1 pu_φ_opposite ok_val1) ok_lNil)))))))))
def R_cut_told : PyData → R := run1 F_g_cut_told [.no]
theorem pu_φ_cut_told : Pu1 φ_cut_told R_cut_told := pu_run1 rfl okF_g_cut_told
/-! half_of: 0 rule, 1 point, 2 one, 3 other -/
def g_half_of : Sx := sC (sFrz [0] (sSet (gT 2 (gsC (gN 2) (gsC (gN 3) gs0))) (eCall φ_cut_told (aCons (eVal 0) aNil)))) (sC (sFrz [2, 3] (sIf (tOf (e2 cIn (eVar 1) (eN oTup (lCons (eVal 2) (lCons (eVal 3) lNil))))) (sC (sFrz [] (sRet (eC (.int 2)))) s0) s0)) (sC (sFrz [2, 1, 3] (sRet (eN fInt (lCons (eCall φ_is_between (aCons (eVal 2) (aCons (eVal 1) (aCons (eVal 3) aNil)))) lNil)))) s0))
def φ_half_of : Ctr := wfn 2 4 g_half_of
def F_g_half_of : FS := (zSeq (zF0 (zSet (gTC 2 (gsCC gn2 (gsCC gn3 gs0C))) (call1 R_cut_told val0))) (zSeq (zF2 (zF3 (zIf (tOfC (x2 fIn var1 (xTup (yCons val2 (yCons val3 yNil))))) (zRet (xC (.int 2))) zNx))) (zF2 (zF1 (zF3 (zRet (xN (anyI fInt) (yCons (call3 R_is_between val2 val1 val3) yNil))))))))
theorem okF_g_half_of : OkS g_half_of F_g_half_of := (ok_sC (ok_zF0 (ok_frz0 (ok_sSet (ok_gT (ok_gsC ok_gn2 (ok_gsC ok_gn3 ok_gs0))) (ok_call1 pu_φ_cut_told ok_val0)))) (ok_sC (ok_zF2 (ok_zF3 (ok_frz0 (ok_sIf (ok_tOf (ok_e2 ok_cIn ok_var1 (ok_tup (n := 2) (by decide) (len_cons (len_cons len_nil)) (ok_lCons ok_val2 (ok_lCons ok_val3 ok_lNil))))) (ok_end (ok_frz0 (ok_sRet (ok_eC (.int 2))))) ok_s0)))) (ok_end (ok_zF2 (ok_zF1 (ok_zF3 (ok_frz0 (ok_sRet (ok_eN ok_fInt (ok_lCons (ok_call3 pu_φ_is_between ok_val2 ok_val1 ok_val3) ok_lNil))))))))))
def R_half_of : PyData → PyData → R := run2 F_g_half_of [.no, .no]
theorem pu_φ_half_of : Pu2 φ_half_of R_half_of := pu_run2 rfl okF_g_half_of
/-! row_told: 0 rule, 1 point, 2 ahead, 3 many, 4 letters, 5 here, 6 lap -/
def b_row_told_1 : Sx := sC (sFrz [0, 5] (sApp 4 (eCall φ_half_of (aCons (eVal 0) (aCons (eVal 5) aNil))))) (sC (sFrz [5] (sSet (gN 5) (eCall φ_moved (aCons (eVal 5) aNil)))) s0)
def g_row_told : Sx := sC (sFrz [1] (sSet (gT 2 (gsC (gN 2) (gsC (gN 3) gs0))) (eCall φ_way_told (aCons (eVal 1) aNil)))) (sC (sFrz [1] (sPars [4, 5] [(true, eN oLst lNil), (false, eVal 1)])) (sC (sFrz [] (sFor (iR1 (e2 bAdd (eVar 2) (eVar 3))) (gN 6) b_row_told_1)) (sC (sFrz [] (sRet (eCall φ_row_low (aCons (eN fTuple (lCons (eSl (eVar 4) pNo (pOf (eVar 2))) lNil)) (aCons (eN fTuple (lCons (eSl (eVar 4) (pOf (eVar 2)) pNo) lNil)) aNil))))) s0)))
def φ_row_told : Ctr := wfn 2 7 g_row_told
def F_b_row_told_1 : FS := (zSeq (zF0 (zF5 (zApp 4 (call2 R_half_of val0 val5)))) (zF5 (zS5 (call1 R_moved val5))))
theorem okF_b_row_told_1 : OkS b_row_told_1 F_b_row_told_1 := (ok_sC (ok_zF0 (ok_zF5 (ok_frz0 (ok_sApp (ok_call2 pu_φ_half_of ok_val0 ok_val5))))) (ok_end (ok_zF5 (ok_frz0 (ok_zS5 (ok_call1 pu_φ_moved ok_val5))))))
def F_g_row_told : FS := (zSeq (zF1 (zSet (gTC 2 (gsCC gn2 (gsCC gn3 gs0C))) (call1 R_way_told val1))) (zSeq (zF1 (zPars [4, 5] [true, false] (yCons (xLst yNil) (yCons val1 yNil)))) (zSeq (zFor (y1 (x2 fAdd var2 var3)) gn6 F_b_row_told_1) (zRet (call2 R_row_low (xN ffTuple (yCons (xSl var4 pNoC (pOfC var2)) yNil)) (xN ffTuple (yCons (xSl var4 (pOfC var2) pNoC) yNil)))))))
theorem okF_g_row_told : OkS g_row_told F_g_row_told := (ok_sC (ok_zF1 (ok_frz0 (ok_sSet (ok_gT (ok_gsC ok_gn2 (ok_gsC ok_gn3 ok_gs0))) (ok_call1 pu_φ_way_told ok_val1)))) (ok_sC (ok_zF1 (ok_frz0 (ok_sPars (ok_lCons (ok_lst (n := 0) (by decide) len_nil ok_lNil) (ok_lCons ok_val1 ok_lNil)) rfl))) (ok_sC (ok_frz0 (ok_sFor (ok_iR1 (ok_e2 ok_bAdd ok_var2 ok_var3)) ok_gn6 okF_b_row_told_1)) (ok_end (ok_frz0 (ok_sRet (ok_call2 pu_φ_row_low (ok_eN ok_fTuple (ok_lCons (ok_eSl ok_var4 ok_pNo (ok_pOf ok_var2)) ok_lNil)) (ok_eN ok_fTuple (ok_lCons (ok_eSl ok_var4 (ok_pOf ok_var2) ok_pNo) ok_lNil)))))))))
def R_row_told : PyData → PyData → R := run2 F_g_row_told [.no, .no, .no, .no, .no]
theorem pu_φ_row_told : Pu2 φ_row_told R_row_told := pu_run2 rfl okF_g_row_told
/-! rule_row: 0 rule -/
def g_rule_row : Sx := sC (sFrz [0, 0] (sRet (eCall φ_row_told (aCons (eVal 0) (aCons (eVal 0) aNil))))) s0
def φ_rule_row : Ctr := wfn 1 1 g_rule_row
def F_g_rule_row : FS := (zF0 (zF0 (zRet (call2 R_row_told val0 val0))))
theorem okF_g_rule_row : OkS g_rule_row F_g_rule_row := (ok_end (ok_zF0 (ok_zF0 (ok_frz0 (ok_sRet (ok_call2 pu_φ_row_told ok_val0 ok_val0))))))
def R_rule_row : PyData → R := run1 F_g_rule_row []
theorem pu_φ_rule_row : Pu1 φ_rule_row R_rule_row := pu_run1 rfl okF_g_rule_row
/-! both_back: 0 point, 1 one -/
def g_both_back : Sx := sC (sFrz [] (sSet (gN 1) (eCall φ_fraction_low (aCons (e2 bIx (eVar 0) (eC (.int 0))) (aCons (e2 bMul (eC (.int 2)) (e2 bIx (eVar 0) (eC (.int 1)))) aNil))))) (sC (sFrz [1, 1] (sRet (eN oTup (lCons (eVal 1) (lCons (eCall φ_opposite (aCons (eVal 1) aNil)) lNil))))) s0)
def φ_both_back : Ctr := wfn 1 2 g_both_back
def F_g_both_back : FS := (zSeq (zS1 (call2 R_fraction_low (x2 fIx var0 (xC (.int 0))) (x2 fMul (xC (.int 2)) (x2 fIx var0 (xC (.int 1)))))) (zF1 (zF1 (zRet (xTup (yCons val1 (yCons (call1 R_opposite val1) yNil)))))))
theorem okF_g_both_back : OkS g_both_back F_g_both_back := (ok_sC (ok_frz0 (ok_zS1 (ok_call2 pu_φ_fraction_low (ok_e2 ok_bIx ok_var0 (ok_eC (.int 0))) (ok_e2 ok_bMul (ok_eC (.int 2)) (ok_e2 ok_bIx ok_var0 (ok_eC (.int 1))))))) (ok_end (ok_zF1 (ok_zF1 (ok_frz0 (ok_sRet (ok_tup (n := 2) (by decide) (len_cons (len_cons len_nil)) (ok_lCons ok_val1 (ok_lCons (ok_call1 pu_φ_opposite ok_val1) ok_lNil)))))))))
def R_both_back : PyData → R := run1 F_g_both_back [.no]
theorem pu_φ_both_back : Pu1 φ_both_back R_both_back := pu_run1 rfl okF_g_both_back
/-! point_back: 0 rule, 1 point, 2 letter, 3 one, 4 other -/
def g_point_back : Sx := sC (sFrz [1] (sSet (gT 2 (gsC (gN 3) (gsC (gN 4) gs0))) (eCall φ_both_back (aCons (eVal 1) aNil)))) (sC (sFrz [0, 3, 3, 4] (sRet (eIf (tOf (e2 cEq (eCall φ_half_of (aCons (eVal 0) (aCons (eVal 3) aNil))) (eVar 2))) (eVal 3) (eVal 4)))) s0)
def φ_point_back : Ctr := wfn 3 5 g_point_back
def F_g_point_back : FS := (zSeq (zF1 (zSet (gTC 2 (gsCC gn3 (gsCC gn4 gs0C))) (call1 R_both_back val1))) (zF0 (zF3 (zF3 (zF4 (zRet (xIf (tOfC (x2 fEq (call2 R_half_of val0 val3) var2)) val3 val4)))))))
theorem okF_g_point_back : OkS g_point_back F_g_point_back := (ok_sC (ok_zF1 (ok_frz0 (ok_sSet (ok_gT (ok_gsC ok_gn3 (ok_gsC ok_gn4 ok_gs0))) (ok_call1 pu_φ_both_back ok_val1)))) (ok_end (ok_zF0 (ok_zF3 (ok_zF3 (ok_zF4 (ok_frz0 (ok_sRet (ok_eIf (ok_tOf (ok_e2 ok_cEq (ok_call2 pu_φ_half_of ok_val0 ok_val3) ok_var2)) ok_val3 ok_val4)))))))))
def R_point_back : PyData → PyData → PyData → R := run3 F_g_point_back [.no, .no]
theorem pu_φ_point_back : Pu3 φ_point_back R_point_back := pu_run3 rfl okF_g_point_back
/-! not_long_lists: 0 point -/
def g_not_long_lists : Sx := sC (sFrz [] (sIf (tOf (e2 cGt (eN fLen (lCons (eN fStr (lCons (e2 bIx (eVar 0) (eC (.int 1))) lNil)) lNil)) (eC (.int 300)))) (sC sStuck s0) s0)) (sC (sFrz [0] (sRet (eVal 0))) s0)
def φ_not_long_lists : Ctr := wfn 1 1 g_not_long_lists
def F_g_not_long_lists : FS := (zSeq (zIf (tOfC (x2 fGt (xN ffLen (yCons (xN (anyN fStr) (yCons (x2 fIx var0 (xC (.int 1))) yNil)) yNil)) (xC (.int 300)))) zNo zNx) (zF0 (zRet val0)))
theorem okF_g_not_long_lists : OkS g_not_long_lists F_g_not_long_lists := (ok_sC (ok_frz0 (ok_sIf (ok_tOf (ok_e2 ok_cGt (ok_eN ok_fLen (ok_lCons (ok_eN ok_fStr (ok_lCons (ok_e2 ok_bIx ok_var0 (ok_eC (.int 1))) ok_lNil)) ok_lNil)) (ok_eC (.int 300)))) (ok_end ok_sStuck) ok_s0)) (ok_end (ok_zF0 (ok_frz0 (ok_sRet ok_val0)))))
def R_not_long_lists : PyData → R := run1 F_g_not_long_lists []
theorem pu_φ_not_long_lists : Pu1 φ_not_long_lists R_not_long_lists := pu_run1 rfl okF_g_not_long_lists
/-! end_back: 0 rule, 1 point, 2 letter, 3 is_end, 4 one, 5 other -/
def g_end_back : Sx := sC (sFrz [] (sIf (tOf (e2 cNe (eVar 1) (eVar 0))) (sC (sFrz [0, 1, 2] (sRet (eCall φ_point_back (aCons (eVal 0) (aCons (eVal 1) (aCons (eVal 2) aNil)))))) s0) s0)) (sC (sFrz [0] (sSet (gT 2 (gsC (gN 4) (gsC (gN 5) gs0))) (eCall φ_cut_told (aCons (eVal 0) aNil)))) (sC (sFrz [4, 5] (sRet (eIf (tOf (e2 cNe (e2 cEq (eVar 2) (eC (.int 1))) (eVar 3))) (eVal 4) (eVal 5)))) s0))
def φ_end_back : Ctr := wfn 4 6 g_end_back
def F_g_end_back : FS := (zSeq (zIf (tOfC (x2 fNe var1 var0)) (zF0 (zF1 (zF2 (zRet (call3 R_point_back val0 val1 val2))))) zNx) (zSeq (zF0 (zSet (gTC 2 (gsCC gn4 (gsCC gn5 gs0C))) (call1 R_cut_told val0))) (zF4 (zF5 (zRet (xIf (tOfC (x2 fNe (x2 fEq var2 (xC (.int 1))) var3)) val4 val5))))))
theorem okF_g_end_back : OkS g_end_back F_g_end_back := (ok_sC (ok_frz0 (ok_sIf (ok_tOf (ok_e2 ok_cNe ok_var1 ok_var0)) (ok_end (ok_zF0 (ok_zF1 (ok_zF2 (ok_frz0 (ok_sRet (ok_call3 pu_φ_point_back ok_val0 ok_val1 ok_val2))))))) ok_s0)) (ok_sC (ok_zF0 (ok_frz0 (ok_sSet (ok_gT (ok_gsC ok_gn4 (ok_gsC ok_gn5 ok_gs0))) (ok_call1 pu_φ_cut_told ok_val0)))) (ok_end (ok_zF4 (ok_zF5 (ok_frz0 (ok_sRet (ok_eIf (ok_tOf (ok_e2 ok_cNe (ok_e2 ok_cEq ok_var2 (ok_eC (.int 1))) ok_var3)) ok_val4 ok_val5))))))))
def R_end_back : PyData → PyData → PyData → PyData → R := run4 F_g_end_back [.no, .no]
theorem pu_φ_end_back : Pu4 φ_end_back R_end_back := pu_run4 rfl okF_g_end_back
/-! arc_parted: 0 rule, 1 arc -/
def g_arc_parted : Sx := sC (sFrz [0, 0, 0, 1] (sRet (eIf (tOf (eCall φ_is_between (aCons (e2 bIx (eVar 1) (eC (.int 0))) (aCons (eVal 0) (aCons (e2 bIx (eVar 1) (eC (.int 1))) aNil))))) (eN oLst (lCons (eN oTup (lCons (e2 bIx (eVar 1) (eC (.int 0))) (lCons (eVal 0) lNil))) (lCons (eN oTup (lCons (eVal 0) (lCons (e2 bIx (eVar 1) (eC (.int 1))) lNil))) lNil))) (eN oLst (lCons (eVal 1) lNil))))) s0
def φ_arc_parted : Ctr := wfn 2 2 g_arc_parted
def F_g_arc_parted : FS := (zF0 (zF0 (zF0 (zF1 (zRet (xIf (tOfC (call3 R_is_between (x2 fIx var1 (xC (.int 0))) val0 (x2 fIx var1 (xC (.int 1))))) (xLst (yCons (xTup (yCons (x2 fIx var1 (xC (.int 0))) (yCons val0 yNil))) (yCons (xTup (yCons val0 (yCons (x2 fIx var1 (xC (.int 1))) yNil))) yNil))) (xLst (yCons val1 yNil))))))))
theorem okF_g_arc_parted : OkS g_arc_parted F_g_arc_parted := (ok_end (ok_zF0 (ok_zF0 (ok_zF0 (ok_zF1 (ok_frz0 (ok_sRet (ok_eIf (ok_tOf (ok_call3 pu_φ_is_between (ok_e2 ok_bIx ok_var1 (ok_eC (.int 0))) ok_val0 (ok_e2 ok_bIx ok_var1 (ok_eC (.int 1))))) (ok_lst (n := 2) (by decide) (len_cons (len_cons len_nil)) (ok_lCons (ok_tup (n := 2) (by decide) (len_cons (len_cons len_nil)) (ok_lCons (ok_e2 ok_bIx ok_var1 (ok_eC (.int 0))) (ok_lCons ok_val0 ok_lNil))) (ok_lCons (ok_tup (n := 2) (by decide) (len_cons (len_cons len_nil)) (ok_lCons ok_val0 (ok_lCons (ok_e2 ok_bIx ok_var1 (ok_eC (.int 1))) ok_lNil))) ok_lNil))) (ok_lst (n := 1) (by decide) (len_cons len_nil) (ok_lCons ok_val1 ok_lNil))))))))))
def R_arc_parted : PyData → PyData → R := run2 F_g_arc_parted []
theorem pu_φ_arc_parted : Pu2 φ_arc_parted R_arc_parted := pu_run2 rfl okF_g_arc_parted
/-! arcs_back: 0 rule, 1 arcs, 2 letter, 3 found, 4 arc, 5 one, 6 other -/
def b_arcs_back_1 : Sx := sC (sFrz [0, 5, 2, 0, 6, 2] (sApp 3 (eN oTup (lCons (eCall φ_end_back (aCons (eVal 0) (aCons (eVal 5) (aCons (eVal 2) (aCons (eC (.bool false)) aNil))))) (lCons (eCall φ_end_back (aCons (eVal 0) (aCons (eVal 6) (aCons (eVal 2) (aCons (eC (.bool true)) aNil))))) lNil))))) s0
def b_arcs_back_2 : Sx := sC (sFrz [0, 4] (sFor (iSeq (eCall φ_arc_parted (aCons (eVal 0) (aCons (eVal 4) aNil)))) (gT 2 (gsC (gN 5) (gsC (gN 6) gs0))) b_arcs_back_1)) s0
def g_arcs_back : Sx := sC (sFrz [] (sNew 3 (eN oLst lNil))) (sC (sFrz [1] (sFor (iSeq (eVal 1)) (gN 4) b_arcs_back_2)) (sC (sFrz [3] (sRet (eVal 3))) s0))
def φ_arcs_back : Ctr := wfn 3 7 g_arcs_back
def F_b_arcs_back_1 : FS := (zF0 (zF5 (zF2 (zF0 (zF6 (zF2 (zApp 3 (xTup (yCons (call4 R_end_back val0 val5 val2 (xC (.bool false))) (yCons (call4 R_end_back val0 val6 val2 (xC (.bool true))) yNil))))))))))
theorem okF_b_arcs_back_1 : OkS b_arcs_back_1 F_b_arcs_back_1 := (ok_end (ok_zF0 (ok_zF5 (ok_zF2 (ok_zF0 (ok_zF6 (ok_zF2 (ok_frz0 (ok_sApp (ok_tup (n := 2) (by decide) (len_cons (len_cons len_nil)) (ok_lCons (ok_call4 pu_φ_end_back ok_val0 ok_val5 ok_val2 (ok_eC (.bool false))) (ok_lCons (ok_call4 pu_φ_end_back ok_val0 ok_val6 ok_val2 (ok_eC (.bool true))) ok_lNil))))))))))))
def F_b_arcs_back_2 : FS := (zF0 (zF4 (zFor (yItems (call2 R_arc_parted val0 val4)) (gTC 2 (gsCC gn5 (gsCC gn6 gs0C))) F_b_arcs_back_1)))
theorem okF_b_arcs_back_2 : OkS b_arcs_back_2 F_b_arcs_back_2 := (ok_end (ok_zF0 (ok_zF4 (ok_frz0 (ok_sFor (ok_iSeq (ok_call2 pu_φ_arc_parted ok_val0 ok_val4)) (ok_gT (ok_gsC ok_gn5 (ok_gsC ok_gn6 ok_gs0))) okF_b_arcs_back_1)))))
def F_g_arcs_back : FS := (zSeq (zN3 (xLst yNil)) (zSeq (zF1 (zFor (yItems val1) gn4 F_b_arcs_back_2)) (zF3 (zRet val3))))
theorem okF_g_arcs_back : OkS g_arcs_back F_g_arcs_back := (ok_sC (ok_frz0 (ok_zN3 (ok_lst (n := 0) (by decide) len_nil ok_lNil))) (ok_sC (ok_zF1 (ok_frz0 (ok_sFor (ok_iSeq ok_val1) ok_gn4 okF_b_arcs_back_2))) (ok_end (ok_zF3 (ok_frz0 (ok_sRet ok_val3))))))
def R_arcs_back : PyData → PyData → PyData → R := run3 F_g_arcs_back [.no, .no, .no, .no]
theorem pu_φ_arcs_back : Pu3 φ_arcs_back R_arcs_back := pu_run3 rfl okF_g_arcs_back
/-! arcs_led: 0 rule, 1 arcs, 2 letters, 3 letter -/
def b_arcs_led_1 : Sx := sC (sFrz [0, 1, 3] (sSet (gN 1) (eCall φ_arcs_back (aCons (eVal 0) (aCons (eVal 1) (aCons (eVal 3) aNil)))))) s0
def g_arcs_led : Sx := sC (sFrz [] (sFor (iSeq (e1 oRev (eVar 2))) (gN 3) b_arcs_led_1)) (sC (sFrz [1] (sRet (eVal 1))) s0)
def φ_arcs_led : Ctr := wfn 3 4 g_arcs_led
def F_b_arcs_led_1 : FS := (zF0 (zF1 (zF3 (zS1 (call3 R_arcs_back val0 val1 val3)))))
theorem okF_b_arcs_led_1 : OkS b_arcs_led_1 F_b_arcs_led_1 := (ok_end (ok_zF0 (ok_zF1 (ok_zF3 (ok_frz0 (ok_zS1 (ok_call3 pu_φ_arcs_back ok_val0 ok_val1 ok_val3)))))))
def F_g_arcs_led : FS := (zSeq (zFor (yItems (x1 fRev var2)) gn3 F_b_arcs_led_1) (zF1 (zRet val1)))
theorem okF_g_arcs_led : OkS g_arcs_led F_g_arcs_led := (ok_sC (ok_frz0 (ok_sFor (ok_iSeq (ok_e1 ok_oRev ok_var2)) ok_gn3 okF_b_arcs_led_1)) (ok_end (ok_zF1 (ok_frz0 (ok_sRet ok_val1)))))
def R_arcs_led : PyData → PyData → PyData → R := run3 F_g_arcs_led [.no]
theorem pu_φ_arcs_led : Pu3 φ_arcs_led R_arcs_led := pu_run3 rfl okF_g_arcs_led
/-! steady_arcs: 0 rule, 1 letters, 2 arcs, 3 late -/
def b_steady_arcs_1 : Sx := sC (sFrz [3, 0, 3, 1] (sPars [2, 3] [(false, eVal 3), (false, eCall φ_arcs_led (aCons (eVal 0) (aCons (eVal 3) (aCons (eVal 1) aNil))))])) s0
def g_steady_arcs : Sx := sC (sFrz [0, 0, 0, 1] (sSet (gN 2) (eCall φ_arcs_led (aCons (eVal 0) (aCons (eN oLst (lCons (eN oTup (lCons (eVal 0) (lCons (eVal 0) lNil))) lNil)) (aCons (eVal 1) aNil)))))) (sC (sFrz [0, 2, 1] (sSet (gN 3) (eCall φ_arcs_led (aCons (eVal 0) (aCons (eVal 2) (aCons (eVal 1) aNil)))))) (sC (whL [] (tOf (e2 cGt (eN fLen (lCons (eVar 3) lNil)) (eN fLen (lCons (eVar 2) lNil)))) b_steady_arcs_1 1000) (sC (sFrz [2, 3] (sRet (eN oTup (lCons (eVal 2) (lCons (eVal 3) lNil))))) s0)))
def φ_steady_arcs : Ctr := wfn 2 4 g_steady_arcs
def F_b_steady_arcs_1 : FS := (zF3 (zF0 (zF3 (zF1 (zPars [2, 3] [false, false] (yCons val3 (yCons (call3 R_arcs_led val0 val3 val1) yNil)))))))
theorem okF_b_steady_arcs_1 : OkS b_steady_arcs_1 F_b_steady_arcs_1 := (ok_end (ok_zF3 (ok_zF0 (ok_zF3 (ok_zF1 (ok_frz0 (ok_sPars (ok_lCons ok_val3 (ok_lCons (ok_call3 pu_φ_arcs_led ok_val0 ok_val3 ok_val1) ok_lNil)) rfl)))))))
def F_g_steady_arcs : FS := (zSeq (zF0 (zF0 (zF0 (zF1 (zS2 (call3 R_arcs_led val0 (xLst (yCons (xTup (yCons val0 (yCons val0 yNil))) yNil)) val1)))))) (zSeq (zF0 (zF2 (zF1 (zS3 (call3 R_arcs_led val0 val2 val1))))) (zSeq (zWh [] (tOfC (x2 fGt (xN ffLen (yCons var3 yNil)) (xN ffLen (yCons var2 yNil)))) F_b_steady_arcs_1 1000) (zF2 (zF3 (zRet (xTup (yCons val2 (yCons val3 yNil)))))))))
theorem okF_g_steady_arcs : OkS g_steady_arcs F_g_steady_arcs := (ok_sC (ok_zF0 (ok_zF0 (ok_zF0 (ok_zF1 (ok_frz0 (ok_zS2 (ok_call3 pu_φ_arcs_led ok_val0 (ok_lst (n := 1) (by decide) (len_cons len_nil) (ok_lCons (ok_tup (n := 2) (by decide) (len_cons (len_cons len_nil)) (ok_lCons ok_val0 (ok_lCons ok_val0 ok_lNil))) ok_lNil)) ok_val1))))))) (ok_sC (ok_zF0 (ok_zF2 (ok_zF1 (ok_frz0 (ok_zS3 (ok_call3 pu_φ_arcs_led ok_val0 ok_val2 ok_val1)))))) (ok_sC (ok_whL (ok_tOf (ok_e2 ok_cGt (ok_eN ok_fLen (ok_lCons ok_var3 ok_lNil)) (ok_eN ok_fLen (ok_lCons ok_var2 ok_lNil)))) okF_b_steady_arcs_1) (ok_end (ok_zF2 (ok_zF3 (ok_frz0 (ok_sRet (ok_tup (n := 2) (by decide) (len_cons (len_cons len_nil)) (ok_lCons ok_val2 (ok_lCons ok_val3 ok_lNil)))))))))))
def R_steady_arcs : PyData → PyData → R := run2 F_g_steady_arcs [.no, .no]
theorem pu_φ_steady_arcs : Pu2 φ_steady_arcs R_steady_arcs := pu_run2 rfl okF_g_steady_arcs
/-! lifted: 0 rule, 1 top, 2 bottom -/
def g_lifted : Sx := sC (sFrz [1, 2, 2] (sRet (eIf (tOf (e2 cGe (e2 bMul (eVar 1) (e2 bIx (eVar 0) (eC (.int 1)))) (e2 bMul (e2 bIx (eVar 0) (eC (.int 0))) (eVar 2)))) (eN oTup (lCons (eVal 1) (lCons (eVal 2) lNil))) (eN oTup (lCons (e2 bAdd (eVar 1) (eVar 2)) (lCons (eVal 2) lNil)))))) s0
def φ_lifted : Ctr := wfn 3 3 g_lifted
def F_g_lifted : FS := (zF1 (zF2 (zF2 (zRet (xIf (tOfC (x2 (fCmp fun i j => iLe j i) (x2 fMul var1 (x2 fIx var0 (xC (.int 1)))) (x2 fMul (x2 fIx var0 (xC (.int 0))) var2))) (xTup (yCons val1 (yCons val2 yNil))) (xTup (yCons (x2 fAdd var1 var2) (yCons val2 yNil))))))))
theorem okF_g_lifted : OkS g_lifted F_g_lifted := (ok_end (ok_zF1 (ok_zF2 (ok_zF2 (ok_frz0 (ok_sRet (ok_eIf (ok_tOf (ok_e2 ok_cGe (ok_e2 ok_bMul ok_var1 (ok_e2 ok_bIx ok_var0 (ok_eC (.int 1)))) (ok_e2 ok_bMul (ok_e2 ok_bIx ok_var0 (ok_eC (.int 0))) ok_var2))) (ok_tup (n := 2) (by decide) (len_cons (len_cons len_nil)) (ok_lCons ok_val1 (ok_lCons ok_val2 ok_lNil))) (ok_tup (n := 2) (by decide) (len_cons (len_cons len_nil)) (ok_lCons (ok_e2 ok_bAdd ok_var1 ok_var2) (ok_lCons ok_val2 ok_lNil))))))))))
def R_lifted : PyData → PyData → PyData → R := run3 F_g_lifted []
theorem pu_φ_lifted : Pu3 φ_lifted R_lifted := pu_run3 rfl okF_g_lifted
/-! arc_holding: 0 arcs, 1 point, 2 k, 3 one, 4 other -/
def g_arc_holding : Sx := sC (sFrz [0, 2, 3, 1, 4] (sRet (e2 bIx (eComp [2, 3, 4] (iEn (eVal 0)) (gT 2 (gsC (gN 2) (gsC (gT 2 (gsC (gN 3) (gsC (gN 4) gs0))) gs0))) (tOr2 (tOf (e2 cEq (eVar 1) (eVar 3))) (tOf (eCall φ_is_between (aCons (eVal 3) (aCons (eVal 1) (aCons (eVal 4) aNil)))))) (eVal 2)) (eC (.int 0))))) s0
def φ_arc_holding : Ctr := wfn 2 5 g_arc_holding
def F_g_arc_holding : FS := (zF0 (zF2 (zF3 (zF1 (zF4 (zRet (x2 fIx (xComp [2, 3, 4] (yEn val0) (gTC 2 (gsCC gn2 (gsCC (gTC 2 (gsCC gn3 (gsCC gn4 gs0C))) gs0C))) (tOrC (tOfC (x2 fEq var1 var3)) (tOfC (call3 R_is_between val3 val1 val4))) val2) (xC (.int 0)))))))))
theorem okF_g_arc_holding : OkS g_arc_holding F_g_arc_holding := (ok_end (ok_zF0 (ok_zF2 (ok_zF3 (ok_zF1 (ok_zF4 (ok_frz0 (ok_sRet (ok_e2 ok_bIx (ok_eComp (ok_iEn ok_val0) (ok_gT (ok_gsC ok_gn2 (ok_gsC (ok_gT (ok_gsC ok_gn3 (ok_gsC ok_gn4 ok_gs0))) ok_gs0))) (ok_tOr2 (ok_tOf (ok_e2 ok_cEq ok_var1 ok_var3)) (ok_tOf (ok_call3 pu_φ_is_between ok_val3 ok_val1 ok_val4))) ok_val2) (ok_eC (.int 0)))))))))))
def R_arc_holding : PyData → PyData → R := run2 F_g_arc_holding [.no, .no, .no]
theorem pu_φ_arc_holding : Pu2 φ_arc_holding R_arc_holding := pu_run2 rfl okF_g_arc_holding
/-! rounds_of: 0 arcs, 1 images, 2 image, 3 to, 4 found, 5 k, 6 here, 7 many -/
def b_rounds_of_1 : Sx := sC (sFrz [] (sPars [6, 7] [(false, e2 bIx (eVar 3) (eVar 6)), (true, e2 bAdd (eVar 7) (eC (.int 1)))])) s0
def b_rounds_of_2 : Sx := sC (sFrz [] (sPars [6, 7] [(false, e2 bIx (eVar 3) (eVar 5)), (false, eC (.int 1))])) (sC (whL [] (tAnd2 (tOf (e2 cNe (eVar 6) (eVar 5))) (tOf (e2 cLe (eVar 7) (eN fLen (lCons (eVar 0) lNil))))) b_rounds_of_1 1000) (sC (sFrz [7] (sApp 4 (eIf (tOf (e2 cEq (eVar 6) (eVar 5))) (eVal 7) (eC .none)))) s0))
def g_rounds_of : Sx := sC (sFrz [1, 0] (sPars [3, 4] [(true, eComp [2] (iSeq (eVal 1)) (gN 2) tYs (eCall φ_arc_holding (aCons (eVal 0) (aCons (e2 bIx (eVar 2) (eC (.int 0))) aNil)))), (true, eN oLst lNil)])) (sC (sFrz [] (sFor (iR1 (eN fLen (lCons (eVar 0) lNil))) (gN 5) b_rounds_of_2)) (sC (sFrz [4] (sRet (eVal 4))) s0))
def φ_rounds_of : Ctr := wfn 2 8 g_rounds_of
def F_b_rounds_of_1 : FS := (zPars [6, 7] [false, true] (yCons (x2 fIx var3 var6) (yCons (x2 fAdd var7 (xC (.int 1))) yNil)))
theorem okF_b_rounds_of_1 : OkS b_rounds_of_1 F_b_rounds_of_1 := (ok_end (ok_frz0 (ok_sPars (ok_lCons (ok_e2 ok_bIx ok_var3 ok_var6) (ok_lCons (ok_e2 ok_bAdd ok_var7 (ok_eC (.int 1))) ok_lNil)) rfl)))
def F_b_rounds_of_2 : FS := (zSeq (zPars [6, 7] [false, false] (yCons (x2 fIx var3 var5) (yCons (xC (.int 1)) yNil))) (zSeq (zWh [] (tAndC (tOfC (x2 fNe var6 var5)) (tOfC (x2 (fCmp iLe) var7 (xN ffLen (yCons var0 yNil))))) F_b_rounds_of_1 1000) (zF7 (zApp 4 (xIf (tOfC (x2 fEq var6 var5)) val7 (xC .none))))))
theorem okF_b_rounds_of_2 : OkS b_rounds_of_2 F_b_rounds_of_2 := (ok_sC (ok_frz0 (ok_sPars (ok_lCons (ok_e2 ok_bIx ok_var3 ok_var5) (ok_lCons (ok_eC (.int 1)) ok_lNil)) rfl)) (ok_sC (ok_whL (ok_tAnd2 (ok_tOf (ok_e2 ok_cNe ok_var6 ok_var5)) (ok_tOf (ok_e2 ok_cLe ok_var7 (ok_eN ok_fLen (ok_lCons ok_var0 ok_lNil))))) okF_b_rounds_of_1) (ok_end (ok_zF7 (ok_frz0 (ok_sApp (ok_eIf (ok_tOf (ok_e2 ok_cEq ok_var6 ok_var5)) ok_val7 (ok_eC .none))))))))
def F_g_rounds_of : FS := (zSeq (zF1 (zF0 (zPars [3, 4] [true, true] (yCons (xComp [2] (yItems val1) gn2 tYsC (call2 R_arc_holding val0 (x2 fIx var2 (xC (.int 0))))) (yCons (xLst yNil) yNil))))) (zSeq (zFor (y1 (xN ffLen (yCons var0 yNil))) gn5 F_b_rounds_of_2) (zF4 (zRet val4))))
theorem okF_g_rounds_of : OkS g_rounds_of F_g_rounds_of := (ok_sC (ok_zF1 (ok_zF0 (ok_frz0 (ok_sPars (ok_lCons (ok_eComp (ok_iSeq ok_val1) ok_gn2 ok_tYs (ok_call2 pu_φ_arc_holding ok_val0 (ok_e2 ok_bIx ok_var2 (ok_eC (.int 0))))) (ok_lCons (ok_lst (n := 0) (by decide) len_nil ok_lNil) ok_lNil)) rfl)))) (ok_sC (ok_frz0 (ok_sFor (ok_iR1 (ok_eN ok_fLen (ok_lCons ok_var0 ok_lNil))) ok_gn5 okF_b_rounds_of_2)) (ok_end (ok_zF4 (ok_frz0 (ok_sRet ok_val4))))))
def R_rounds_of : PyData → PyData → R := run2 F_g_rounds_of [.no, .no, .no, .no, .no, .no]
theorem pu_φ_rounds_of : Pu2 φ_rounds_of R_rounds_of := pu_run2 rfl okF_g_rounds_of
/-! point_in: 0 rule, 1 arc, 2 letters, 3 first, 4 top, 5 bottom, 6 letter, 7 power -/
def b_point_in_1 : Sx := sC (sFrz [0, 4] (sSet (gT 2 (gsC (gN 4) (gsC (gN 5) gs0))) (eCall φ_lifted (aCons (eVal 0) (aCons (eIf (tOf (e2 cEq (eVar 6) (eC (.int 1)))) (eVal 4) (e2 bAdd (eVar 4) (eVar 5))) (aCons (e2 bMul (eC (.int 2)) (eVar 5)) aNil)))))) s0
def g_point_in : Sx := sC (sFrz [0] (sSet (gN 3) (eCall φ_lifted (aCons (eVal 0) (aCons (e2 bIx (e2 bIx (eVar 1) (eC (.int 0))) (eC (.int 0))) (aCons (e2 bIx (e2 bIx (eVar 1) (eC (.int 0))) (eC (.int 1))) aNil)))))) (sC (sFrz [3] (sSet (gT 2 (gsC (gN 4) (gsC (gN 5) gs0))) (eVal 3))) (sC (sFrz [] (sFor (iSeq (e1 oRev (eVar 2))) (gN 6) b_point_in_1)) (sC (sFrz [] (sSet (gN 7) (e2 bDiv (eVar 5) (e2 bIx (eVar 3) (eC (.int 1)))))) (sC (sFrz [] (sRet (eCall φ_fraction_low (aCons (e2 bDiv (e2 bSub (e2 bMul (e2 bMul (eVar 7) (eVar 4)) (e2 bIx (eVar 3) (eC (.int 1)))) (e2 bMul (e2 bIx (eVar 3) (eC (.int 0))) (eVar 5))) (e2 bMul (e2 bIx (eVar 3) (eC (.int 1))) (eVar 5))) (aCons (e2 bSub (eVar 7) (eC (.int 1))) aNil))))) s0))))
def φ_point_in : Ctr := wfn 3 8 g_point_in
def F_b_point_in_1 : FS := (zF0 (zF4 (zSet (gTC 2 (gsCC gn4 (gsCC gn5 gs0C))) (call3 R_lifted val0 (xIf (tOfC (x2 fEq var6 (xC (.int 1)))) val4 (x2 fAdd var4 var5)) (x2 fMul (xC (.int 2)) var5)))))
theorem okF_b_point_in_1 : OkS b_point_in_1 F_b_point_in_1 := (ok_end (ok_zF0 (ok_zF4 (ok_frz0 (ok_sSet (ok_gT (ok_gsC ok_gn4 (ok_gsC ok_gn5 ok_gs0))) (ok_call3 pu_φ_lifted ok_val0 (ok_eIf (ok_tOf (ok_e2 ok_cEq ok_var6 (ok_eC (.int 1)))) ok_val4 (ok_e2 ok_bAdd ok_var4 ok_var5)) (ok_e2 ok_bMul (ok_eC (.int 2)) ok_var5)))))))
def F_g_point_in : FS := (zSeq (zF0 (zS3 (call3 R_lifted val0 (x2 fIx (x2 fIx var1 (xC (.int 0))) (xC (.int 0))) (x2 fIx (x2 fIx var1 (xC (.int 0))) (xC (.int 1)))))) (zSeq (zF3 (zSet (gTC 2 (gsCC gn4 (gsCC gn5 gs0C))) val3)) (zSeq (zFor (yItems (x1 fRev var2)) gn6 F_b_point_in_1) (zSeq (zS7 (x2 fDiv var5 (x2 fIx var3 (xC (.int 1))))) (zRet (call2 R_fraction_low (x2 fDiv (x2 fSub (x2 fMul (x2 fMul var7 var4) (x2 fIx var3 (xC (.int 1)))) (x2 fMul (x2 fIx var3 (xC (.int 0))) var5)) (x2 fMul (x2 fIx var3 (xC (.int 1))) var5)) (x2 fSub var7 (xC (.int 1)))))))))
theorem okF_g_point_in : OkS g_point_in F_g_point_in := (ok_sC (ok_zF0 (ok_frz0 (ok_zS3 (ok_call3 pu_φ_lifted ok_val0 (ok_e2 ok_bIx (ok_e2 ok_bIx ok_var1 (ok_eC (.int 0))) (ok_eC (.int 0))) (ok_e2 ok_bIx (ok_e2 ok_bIx ok_var1 (ok_eC (.int 0))) (ok_eC (.int 1))))))) (ok_sC (ok_zF3 (ok_frz0 (ok_sSet (ok_gT (ok_gsC ok_gn4 (ok_gsC ok_gn5 ok_gs0))) ok_val3))) (ok_sC (ok_frz0 (ok_sFor (ok_iSeq (ok_e1 ok_oRev ok_var2)) ok_gn6 okF_b_point_in_1)) (ok_sC (ok_frz0 (ok_zS7 (ok_e2 ok_bDiv ok_var5 (ok_e2 ok_bIx ok_var3 (ok_eC (.int 1)))))) (ok_end (ok_frz0 (ok_sRet (ok_call2 pu_φ_fraction_low (ok_e2 ok_bDiv (ok_e2 ok_bSub (ok_e2 ok_bMul (ok_e2 ok_bMul ok_var7 ok_var4) (ok_e2 ok_bIx ok_var3 (ok_eC (.int 1)))) (ok_e2 ok_bMul (ok_e2 ok_bIx ok_var3 (ok_eC (.int 0))) ok_var5)) (ok_e2 ok_bMul (ok_e2 ok_bIx ok_var3 (ok_eC (.int 1))) ok_var5)) (ok_e2 ok_bSub ok_var7 (ok_eC (.int 1)))))))))))
def R_point_in : PyData → PyData → PyData → R := run3 F_g_point_in [.no, .no, .no, .no, .no]
theorem pu_φ_point_in : Pu3 φ_point_in R_point_in := pu_run3 rfl okF_g_point_in
/-! round_points: 0 rule, 1 letters, 2 arcs, 3 images, 4 found, 5 arc, 6 many -/
def b_round_points_1 : Sx := sC (sFrz [] (sIf (tOf (e2 cNotN (eVar 6) (eC .none))) (sC (sFrz [] (sIf (tOf (e2 cGt (e2 bMul (eVar 6) (eN fLen (lCons (eVar 1) lNil))) (eC (.int 990)))) (sC sStuck s0) s0)) (sC (sFrz [0, 5] (sApp 4 (eCall φ_point_in (aCons (eVal 0) (aCons (eVal 5) (aCons (e2 bMul (eVar 1) (eVar 6)) aNil)))))) s0)) s0)) s0
def g_round_points : Sx := sC (sFrz [0, 1] (sSet (gT 2 (gsC (gN 2) (gsC (gN 3) gs0))) (eCall φ_steady_arcs (aCons (eVal 0) (aCons (eVal 1) aNil))))) (sC (sFrz [] (sNew 4 (eN oLst lNil))) (sC (sFrz [2, 2, 3] (sFor (iZp true (eVal 2) (eCall φ_rounds_of (aCons (eVal 2) (aCons (eVal 3) aNil)))) (gT 2 (gsC (gN 5) (gsC (gN 6) gs0))) b_round_points_1)) (sC (sFrz [4] (sRet (eVal 4))) s0)))
def φ_round_points : Ctr := wfn 2 7 g_round_points
def F_b_round_points_1 : FS := (zIf (tOfC (x2 (any2 cNotN) var6 (xC .none))) (zSeq (zIf (tOfC (x2 fGt (x2 fMul var6 (xN ffLen (yCons var1 yNil))) (xC (.int 990)))) zNo zNx) (zF0 (zF5 (zApp 4 (call3 R_point_in val0 val5 (x2 fMul var1 var6)))))) zNx)
theorem okF_b_round_points_1 : OkS b_round_points_1 F_b_round_points_1 := (ok_end (ok_frz0 (ok_sIf (ok_tOf (ok_e2 ok_cNotN ok_var6 (ok_eC .none))) (ok_sC (ok_frz0 (ok_sIf (ok_tOf (ok_e2 ok_cGt (ok_e2 ok_bMul ok_var6 (ok_eN ok_fLen (ok_lCons ok_var1 ok_lNil))) (ok_eC (.int 990)))) (ok_end ok_sStuck) ok_s0)) (ok_end (ok_zF0 (ok_zF5 (ok_frz0 (ok_sApp (ok_call3 pu_φ_point_in ok_val0 ok_val5 (ok_e2 ok_bMul ok_var1 ok_var6)))))))) ok_s0)))
def F_g_round_points : FS := (zSeq (zF0 (zF1 (zSet (gTC 2 (gsCC gn2 (gsCC gn3 gs0C))) (call2 R_steady_arcs val0 val1)))) (zSeq (zN4 (xLst yNil)) (zSeq (zF2 (zF2 (zF3 (zFor (yZp true val2 (call2 R_rounds_of val2 val3)) (gTC 2 (gsCC gn5 (gsCC gn6 gs0C))) F_b_round_points_1)))) (zF4 (zRet val4)))))
theorem okF_g_round_points : OkS g_round_points F_g_round_points := (ok_sC (ok_zF0 (ok_zF1 (ok_frz0 (ok_sSet (ok_gT (ok_gsC ok_gn2 (ok_gsC ok_gn3 ok_gs0))) (ok_call2 pu_φ_steady_arcs ok_val0 ok_val1))))) (ok_sC (ok_frz0 (ok_zN4 (ok_lst (n := 0) (by decide) len_nil ok_lNil))) (ok_sC (ok_zF2 (ok_zF2 (ok_zF3 (ok_frz0 (ok_sFor (ok_iZp ok_val2 (ok_call2 pu_φ_rounds_of ok_val2 ok_val3)) (ok_gT (ok_gsC ok_gn5 (ok_gsC ok_gn6 ok_gs0))) okF_b_round_points_1))))) (ok_end (ok_zF4 (ok_frz0 (ok_sRet ok_val4)))))))
def R_round_points : PyData → PyData → R := run2 F_g_round_points [.no, .no, .no, .no, .no]
theorem pu_φ_round_points : Pu2 φ_round_points R_round_points := pu_run2 rfl okF_g_round_points
/-! halves_of: 0 points, 1 found, 2 point -/
def b_halves_of_1 : Sx := sC (sFrz [2] (sExt 1 (eCall φ_both_back (aCons (eVal 2) aNil)))) s0
def g_halves_of : Sx := sC (sFrz [] (sNew 1 (eN oLst lNil))) (sC (sFrz [0] (sFor (iSeq (eVal 0)) (gN 2) b_halves_of_1)) (sC (sFrz [1] (sRet (eVal 1))) s0))
def φ_halves_of : Ctr := wfn 1 3 g_halves_of
def F_b_halves_of_1 : FS := (zF2 (zExt 1 (call1 R_both_back val2)))
theorem okF_b_halves_of_1 : OkS b_halves_of_1 F_b_halves_of_1 := (ok_end (ok_zF2 (ok_frz0 (ok_sExt (ok_call1 pu_φ_both_back ok_val2)))))
def F_g_halves_of : FS := (zSeq (zN1 (xLst yNil)) (zSeq (zF0 (zFor (yItems val0) gn2 F_b_halves_of_1)) (zF1 (zRet val1))))
theorem okF_g_halves_of : OkS g_halves_of F_g_halves_of := (ok_sC (ok_frz0 (ok_zN1 (ok_lst (n := 0) (by decide) len_nil ok_lNil))) (ok_sC (ok_zF0 (ok_frz0 (ok_sFor (ok_iSeq ok_val0) ok_gn2 okF_b_halves_of_1))) (ok_end (ok_zF1 (ok_frz0 (ok_sRet ok_val1))))))
def R_halves_of : PyData → R := run1 F_g_halves_of [.no, .no]
theorem pu_φ_halves_of : Pu1 φ_halves_of R_halves_of := pu_run1 rfl okF_g_halves_of
/-! greatest_part: 0 one, 1 other -/
def b_greatest_part_1 : Sx := sC (sFrz [1] (sPars [0, 1] [(false, eVal 1), (false, e2 bMod (eVar 0) (eVar 1))])) s0
def g_greatest_part : Sx := sC (whL [] (tOf (e2 cGt (eVar 1) (eC (.int 0)))) b_greatest_part_1 1000) (sC (sFrz [0] (sRet (eVal 0))) s0)
def φ_greatest_part : Ctr := wfn 2 2 g_greatest_part
def F_b_greatest_part_1 : FS := (zF1 (zPars [0, 1] [false, false] (yCons val1 (yCons (x2 fMod var0 var1) yNil))))
theorem okF_b_greatest_part_1 : OkS b_greatest_part_1 F_b_greatest_part_1 := (ok_end (ok_zF1 (ok_frz0 (ok_sPars (ok_lCons ok_val1 (ok_lCons (ok_e2 ok_bMod ok_var0 ok_var1) ok_lNil)) rfl))))
def F_g_greatest_part : FS := (zSeq (zWh [] (tOfC (x2 fGt var1 (xC (.int 0)))) F_b_greatest_part_1 1000) (zF0 (zRet val0)))
theorem okF_g_greatest_part : OkS g_greatest_part F_g_greatest_part := (ok_sC (ok_whL (ok_tOf (ok_e2 ok_cGt ok_var1 (ok_eC (.int 0)))) okF_b_greatest_part_1) (ok_end (ok_zF0 (ok_frz0 (ok_sRet ok_val0)))))
def R_greatest_part : PyData → PyData → R := run2 F_g_greatest_part []
theorem pu_φ_greatest_part : Pu2 φ_greatest_part R_greatest_part := pu_run2 rfl okF_g_greatest_part
/-! ascending: 0 points, 1 point, 2 whole, 3 one, 4 number, 5 late -/
def b_ascending_1 : Sx := sC (sFrz [2] (sNew 2 (e2 bMul (eVar 2) (e2 bDiv (e2 bIx (eVar 1) (eC (.int 1))) (eCall φ_greatest_part (aCons (eVal 2) (aCons (e2 bIx (eVar 1) (eC (.int 1))) aNil))))))) s0
def g_ascending : Sx := sC (sFrz [0] (sSet (gN 2) (eN fMaxA (lCons (eComp [1] (iSeq (eVal 0)) (gN 1) tYs (e2 bIx (eVar 1) (eC (.int 1)))) lNil)))) (sC (sFrz [0] (sFor (iSeq (eVal 0)) (gN 1) b_ascending_1)) (sC (sFrz [0, 3, 5] (sRet (eN fTuple (lCons (eComp [4, 5] (iSeq (eN fSort (lCons (eComp [3] (iSeq (eVal 0)) (gN 3) tYs (eN oTup (lCons (e2 bMul (e2 bIx (eVar 3) (eC (.int 0))) (e2 bDiv (eVar 2) (e2 bIx (eVar 3) (eC (.int 1))))) (lCons (eVal 3) lNil)))) lNil))) (gT 2 (gsC (gN 4) (gsC (gN 5) gs0))) tYs (eVal 5)) lNil)))) s0))
def φ_ascending : Ctr := wfn 1 6 g_ascending
def F_b_ascending_1 : FS := (zF2 (zN2 (x2 fMul var2 (x2 fDiv (x2 fIx var1 (xC (.int 1))) (call2 R_greatest_part val2 (x2 fIx var1 (xC (.int 1))))))))
theorem okF_b_ascending_1 : OkS b_ascending_1 F_b_ascending_1 := (ok_end (ok_zF2 (ok_frz0 (ok_zN2 (ok_e2 ok_bMul ok_var2 (ok_e2 ok_bDiv (ok_e2 ok_bIx ok_var1 (ok_eC (.int 1))) (ok_call2 pu_φ_greatest_part ok_val2 (ok_e2 ok_bIx ok_var1 (ok_eC (.int 1))))))))))
def F_g_ascending : FS := (zSeq (zF0 (zS2 (xN (anyI fMaxA) (yCons (xComp [1] (yItems val0) gn1 tYsC (x2 fIx var1 (xC (.int 1)))) yNil)))) (zSeq (zF0 (zFor (yItems val0) gn1 F_b_ascending_1)) (zF0 (zF3 (zF5 (zRet (xN ffTuple (yCons (xComp [4, 5] (yItems (xN ffSort (yCons (xComp [3] (yItems val0) gn3 tYsC (xTup (yCons (x2 fMul (x2 fIx var3 (xC (.int 0))) (x2 fDiv var2 (x2 fIx var3 (xC (.int 1))))) (yCons val3 yNil)))) yNil))) (gTC 2 (gsCC gn4 (gsCC gn5 gs0C))) tYsC val5) yNil))))))))
theorem okF_g_ascending : OkS g_ascending F_g_ascending := (ok_sC (ok_zF0 (ok_frz0 (ok_zS2 (ok_eN ok_fMaxA (ok_lCons (ok_eComp (ok_iSeq ok_val0) ok_gn1 ok_tYs (ok_e2 ok_bIx ok_var1 (ok_eC (.int 1)))) ok_lNil))))) (ok_sC (ok_zF0 (ok_frz0 (ok_sFor (ok_iSeq ok_val0) ok_gn1 okF_b_ascending_1))) (ok_end (ok_zF0 (ok_zF3 (ok_zF5 (ok_frz0 (ok_sRet (ok_eN ok_fTuple (ok_lCons (ok_eComp (ok_iSeq (ok_eN ok_fSortF (ok_lCons (ok_eComp (ok_iSeq ok_val0) ok_gn3 ok_tYs (ok_tup (n := 2) (by decide) (len_cons (len_cons len_nil)) (ok_lCons (ok_e2 ok_bMul (ok_e2 ok_bIx ok_var3 (ok_eC (.int 0))) (ok_e2 ok_bDiv ok_var2 (ok_e2 ok_bIx ok_var3 (ok_eC (.int 1))))) (ok_lCons ok_val3 ok_lNil)))) ok_lNil))) (ok_gT (ok_gsC ok_gn4 (ok_gsC ok_gn5 ok_gs0))) ok_tYs ok_val5) ok_lNil))))))))))
def R_ascending : PyData → R := run1 F_g_ascending [.no, .no, .no, .no, .no]
theorem pu_φ_ascending : Pu1 φ_ascending R_ascending := pu_run1 rfl okF_g_ascending
/-! points_told: 0 rule, 1 row, 2 ahead, 3 again, 4 own, 5 tail, 6 points, 7 letter, 8 point -/
def b_points_told_1 : Sx := sC (sFrz [6, 6, 0, 8, 7] (sSet (gN 6) (eIf (tOf (e2 cEq (eVar 5) (eVar 4))) (eCall φ_halves_of (aCons (eVal 6) aNil)) (eComp [8] (iSeq (eVal 6)) (gN 8) tYs (eCall φ_point_back (aCons (eVal 0) (aCons (eVal 8) (aCons (eVal 7) aNil)))))))) (sC (sFrz [6, 8] (sNew 6 (eComp [8] (iSeq (eVal 6)) (gN 8) tYs (eCall φ_not_long_lists (aCons (eVal 8) aNil))))) (sC (sFrz [7, 5] (sSet (gN 5) (eCall φ_put_ahead (aCons (eN oTup (lCons (eVal 7) lNil)) (aCons (eVal 5) aNil))))) s0))
def g_points_told : Sx := sC (sFrz [1] (sSet (gT 2 (gsC (gN 2) (gsC (gN 3) gs0))) (eVal 1))) (sC (sFrz [0, 3] (sPars [4, 5] [(false, eCall φ_rule_row (aCons (eVal 0) aNil)), (false, eCall φ_row_low (aCons (eN oTup lNil) (aCons (eVal 3) aNil)))])) (sC (sFrz [0] (sSet (gN 6) (eCall φ_round_points (aCons (eVal 0) (aCons (e2 bIx (eVar 5) (eC (.int 1))) aNil))))) (sC (sFrz [] (sFor (iSeq (e1 oRev (eVar 2))) (gN 7) b_points_told_1)) (sC (sFrz [6] (sRet (eCall φ_ascending (aCons (eVal 6) aNil)))) s0))))
def φ_points_told : Ctr := wfn 2 9 g_points_told
def F_b_points_told_1 : FS := (zSeq (zF6 (zF6 (zF0 (zF8 (zF7 (zS6 (xIf (tOfC (x2 fEq var5 var4)) (call1 R_halves_of val6) (xComp [8] (yItems val6) gn8 tYsC (call3 R_point_back val0 val8 val7))))))))) (zSeq (zF6 (zF8 (zN6 (xComp [8] (yItems val6) gn8 tYsC (call1 R_not_long_lists val8))))) (zF7 (zF5 (zS5 (call2 R_put_ahead (xTup (yCons val7 yNil)) val5))))))
theorem okF_b_points_told_1 : OkS b_points_told_1 F_b_points_told_1 := (ok_sC (ok_zF6 (ok_zF6 (ok_zF0 (ok_zF8 (ok_zF7 (ok_frz0 (ok_zS6 (ok_eIf (ok_tOf (ok_e2 ok_cEq ok_var5 ok_var4)) (ok_call1 pu_φ_halves_of ok_val6) (ok_eComp (ok_iSeq ok_val6) ok_gn8 ok_tYs (ok_call3 pu_φ_point_back ok_val0 ok_val8 ok_val7)))))))))) (ok_sC (ok_zF6 (ok_zF8 (ok_frz0 (ok_zN6 (ok_eComp (ok_iSeq ok_val6) ok_gn8 ok_tYs (ok_call1 pu_φ_not_long_lists ok_val8)))))) (ok_end (ok_zF7 (ok_zF5 (ok_frz0 (ok_zS5 (ok_call2 pu_φ_put_ahead (ok_tup (n := 1) (by decide) (len_cons len_nil) (ok_lCons ok_val7 ok_lNil)) ok_val5))))))))
def F_g_points_told : FS := (zSeq (zF1 (zSet (gTC 2 (gsCC gn2 (gsCC gn3 gs0C))) val1)) (zSeq (zF0 (zF3 (zPars [4, 5] [false, false] (yCons (call1 R_rule_row val0) (yCons (call2 R_row_low (xTup yNil) val3) yNil))))) (zSeq (zF0 (zS6 (call2 R_round_points val0 (x2 fIx var5 (xC (.int 1)))))) (zSeq (zFor (yItems (x1 fRev var2)) gn7 F_b_points_told_1) (zF6 (zRet (call1 R_ascending val6)))))))
theorem okF_g_points_told : OkS g_points_told F_g_points_told := (ok_sC (ok_zF1 (ok_frz0 (ok_sSet (ok_gT (ok_gsC ok_gn2 (ok_gsC ok_gn3 ok_gs0))) ok_val1))) (ok_sC (ok_zF0 (ok_zF3 (ok_frz0 (ok_sPars (ok_lCons (ok_call1 pu_φ_rule_row ok_val0) (ok_lCons (ok_call2 pu_φ_row_low (ok_tup (n := 0) (by decide) len_nil ok_lNil) ok_val3) ok_lNil)) rfl)))) (ok_sC (ok_zF0 (ok_frz0 (ok_zS6 (ok_call2 pu_φ_round_points ok_val0 (ok_e2 ok_bIx ok_var5 (ok_eC (.int 1))))))) (ok_sC (ok_frz0 (ok_sFor (ok_iSeq (ok_e1 ok_oRev ok_var2)) ok_gn7 okF_b_points_told_1)) (ok_end (ok_zF6 (ok_frz0 (ok_sRet (ok_call1 pu_φ_ascending ok_val6)))))))))
def R_points_told : PyData → PyData → R := run2 F_g_points_told [.no, .no, .no, .no, .no, .no, .no]
theorem pu_φ_points_told : Pu2 φ_points_told R_points_told := pu_run2 rfl okF_g_points_told
/-! rules_alike: 0 one, 1 other -/
def g_rules_alike : Sx := sC (sFrz [0, 1, 0] (sRet (e2 cEq (eCall φ_row_told (aCons (eVal 0) (aCons (eVal 1) aNil))) (eCall φ_rule_row (aCons (eVal 0) aNil))))) s0
def φ_rules_alike : Ctr := wfn 2 2 g_rules_alike
def F_g_rules_alike : FS := (zF0 (zF1 (zF0 (zRet (x2 fEq (call2 R_row_told val0 val1) (call1 R_rule_row val0))))))
theorem okF_g_rules_alike : OkS g_rules_alike F_g_rules_alike := (ok_end (ok_zF0 (ok_zF1 (ok_zF0 (ok_frz0 (ok_sRet (ok_e2 ok_cEq (ok_call2 pu_φ_row_told ok_val0 ok_val1) (ok_call1 pu_φ_rule_row ok_val0))))))))
def R_rules_alike : PyData → PyData → R := run2 F_g_rules_alike []
theorem pu_φ_rules_alike : Pu2 φ_rules_alike R_rules_alike := pu_run2 rfl okF_g_rules_alike
/-! least_rule: 0 rule -/
def g_least_rule : Sx := sC (sFrz [0, 0] (sRet (e2 bIx (eCall φ_points_told (aCons (eVal 0) (aCons (eCall φ_rule_row (aCons (eVal 0) aNil)) aNil))) (eC (.int 0))))) s0
def φ_least_rule : Ctr := wfn 1 1 g_least_rule
def F_g_least_rule : FS := (zF0 (zF0 (zRet (x2 fIx (call2 R_points_told val0 (call1 R_rule_row val0)) (xC (.int 0))))))
theorem okF_g_least_rule : OkS g_least_rule F_g_least_rule := (ok_end (ok_zF0 (ok_zF0 (ok_frz0 (ok_sRet (ok_e2 ok_bIx (ok_call2 pu_φ_points_told ok_val0 (ok_call1 pu_φ_rule_row ok_val0)) (ok_eC (.int 0))))))))
def R_least_rule : PyData → R := run1 F_g_least_rule []
theorem pu_φ_least_rule : Pu1 φ_least_rule R_least_rule := pu_run1 rfl okF_g_least_rule
/-! trees_alike: 0 one, 1 other -/
def g_trees_alike : Sx := sC (sFrz [0, 1] (sRet (e2 cEq (eCall φ_rule_row (aCons (eVal 0) aNil)) (eCall φ_rule_row (aCons (eVal 1) aNil))))) s0
def φ_trees_alike : Ctr := wfn 2 2 g_trees_alike
def F_g_trees_alike : FS := (zF0 (zF1 (zRet (x2 fEq (call1 R_rule_row val0) (call1 R_rule_row val1)))))
theorem okF_g_trees_alike : OkS g_trees_alike F_g_trees_alike := (ok_end (ok_zF0 (ok_zF1 (ok_frz0 (ok_sRet (ok_e2 ok_cEq (ok_call1 pu_φ_rule_row ok_val0) (ok_call1 pu_φ_rule_row ok_val1)))))))
def R_trees_alike : PyData → PyData → R := run2 F_g_trees_alike []
theorem pu_φ_trees_alike : Pu2 φ_trees_alike R_trees_alike := pu_run2 rfl okF_g_trees_alike
/-! rule_mirrored: 0 rule -/
def g_rule_mirrored : Sx := sC (sFrz [] (sRet (eN oTup (lCons (e2 bSub (e2 bIx (eVar 0) (eC (.int 1))) (e2 bIx (eVar 0) (eC (.int 0)))) (lCons (e2 bIx (eVar 0) (eC (.int 1))) lNil))))) s0
def φ_rule_mirrored : Ctr := wfn 1 1 g_rule_mirrored
def F_g_rule_mirrored : FS := (zRet (xTup (yCons (x2 fSub (x2 fIx var0 (xC (.int 1))) (x2 fIx var0 (xC (.int 0)))) (yCons (x2 fIx var0 (xC (.int 1))) yNil))))
theorem okF_g_rule_mirrored : OkS g_rule_mirrored F_g_rule_mirrored := (ok_end (ok_frz0 (ok_sRet (ok_tup (n := 2) (by decide) (len_cons (len_cons len_nil)) (ok_lCons (ok_e2 ok_bSub (ok_e2 ok_bIx ok_var0 (ok_eC (.int 1))) (ok_e2 ok_bIx ok_var0 (ok_eC (.int 0)))) (ok_lCons (ok_e2 ok_bIx ok_var0 (ok_eC (.int 1))) ok_lNil))))))
def R_rule_mirrored : PyData → R := run1 F_g_rule_mirrored []
theorem pu_φ_rule_mirrored : Pu1 φ_rule_mirrored R_rule_mirrored := pu_run1 rfl okF_g_rule_mirrored
/-! law_of: 0 source, 1 some -/
def g_law_of : Sx := sC (sFrz [] (sRet (e2 bIx (eVar 1) (eCall cPick (aSrc 0 (aCons (eN fLen (lCons (eVar 1) lNil)) aNil)))))) s0
def φ_law_of : Ctr := wfn 2 2 g_law_of
def F_g_law_of : FS := (zRet (x2 fIx var1 (xCall ΦcPick (aSrcC 0 (aConsC (xN ffLen (yCons var1 yNil)) aNilC)))))
theorem okF_g_law_of : OkS g_law_of F_g_law_of := (ok_end (ok_frz0 (ok_sRet (ok_e2 ok_bIx ok_var1 (ok_eCall ok_cPick (ok_aSrc (ok_aCons (ok_eN ok_fLen (ok_lCons ok_var1 ok_lNil)) ok_aNil)))))))
def Φ_law_of : FC := defC 2 2 F_g_law_of
theorem ok_φ_law_of : OkC φ_law_of Φ_law_of := ok_def okF_g_law_of
/-! law_round: 0 letters, 1 many -/
def b_law_round_1 : Sx := sC (sFrz [] (sIf (tAnd2 (tOf (e2 cEq (e2 bMod (eN fInt (lCons (eN fLen (lCons (eVar 0) lNil)) lNil)) (eVar 1)) (eC (.int 0)))) (tOf (e2 cEq (eVar 0) (e2 bMul (eSl (eVar 0) pNo (pOf (eVar 1))) (e2 bDiv (eN fLen (lCons (eVar 0) lNil)) (eVar 1)))))) (sC (sFrz [] (sRet (eSl (eVar 0) pNo (pOf (eVar 1))))) s0) s0)) s0
def g_law_round : Sx := sC (sFrz [] (sFor (iR2 (eC (.int 1)) (eN fLen (lCons (eVar 0) lNil))) (gN 1) b_law_round_1)) (sC (sFrz [0] (sRet (eVal 0))) s0)
def φ_law_round : Ctr := wfn 1 2 g_law_round
def F_b_law_round_1 : FS := (zIf (tAndC (tOfC (x2 fEq (x2 fMod (xN (anyI fInt) (yCons (xN ffLen (yCons var0 yNil)) yNil)) var1) (xC (.int 0)))) (tOfC (x2 fEq var0 (x2 fMul (xSl var0 pNoC (pOfC var1)) (x2 fDiv (xN ffLen (yCons var0 yNil)) var1))))) (zRet (xSl var0 pNoC (pOfC var1))) zNx)
theorem okF_b_law_round_1 : OkS b_law_round_1 F_b_law_round_1 := (ok_end (ok_frz0 (ok_sIf (ok_tAnd2 (ok_tOf (ok_e2 ok_cEq (ok_e2 ok_bMod (ok_eN ok_fInt (ok_lCons (ok_eN ok_fLen (ok_lCons ok_var0 ok_lNil)) ok_lNil)) ok_var1) (ok_eC (.int 0)))) (ok_tOf (ok_e2 ok_cEq ok_var0 (ok_e2 ok_bMul (ok_eSl ok_var0 ok_pNo (ok_pOf ok_var1)) (ok_e2 ok_bDiv (ok_eN ok_fLen (ok_lCons ok_var0 ok_lNil)) ok_var1))))) (ok_end (ok_frz0 (ok_sRet (ok_eSl ok_var0 ok_pNo (ok_pOf ok_var1))))) ok_s0)))
def F_g_law_round : FS := (zSeq (zFor (y2 (xC (.int 1)) (xN ffLen (yCons var0 yNil))) gn1 F_b_law_round_1) (zF0 (zRet val0)))
theorem okF_g_law_round : OkS g_law_round F_g_law_round := (ok_sC (ok_frz0 (ok_sFor (ok_iR2 (ok_eC (.int 1)) (ok_eN ok_fLen (ok_lCons ok_var0 ok_lNil))) ok_gn1 okF_b_law_round_1)) (ok_end (ok_zF0 (ok_frz0 (ok_sRet ok_val0)))))
def R_law_round : PyData → R := run1 F_g_law_round [.no]
theorem pu_φ_law_round : Pu1 φ_law_round R_law_round := pu_run1 rfl okF_g_law_round
/-! law_low: 0 ahead, 1 letters -/
def b_law_low_1 : Sx := sC (sFrz [] (sPars [0, 1] [(true, eSl (eVar 0) pNo (pOf (e1 uNeg (eC (.int 1))))), (true, e2 bAdd (eSl (eVar 1) (pOf (e1 uNeg (eC (.int 1)))) pNo) (eSl (eVar 1) pNo (pOf (e1 uNeg (eC (.int 1))))))])) s0
def g_law_low : Sx := sC (sFrz [] (sPars [0, 1] [(false, eN fTuple (lCons (eVar 0) lNil)), (false, eCall φ_law_round (aCons (eN fTuple (lCons (eVar 1) lNil)) aNil))])) (sC (whL [] (tAnd2 (tOf (e2 cNe (eVar 0) (eN oTup lNil))) (tOf (e2 cEq (e2 bIx (eVar 0) (e1 uNeg (eC (.int 1)))) (e2 bIx (eVar 1) (e1 uNeg (eC (.int 1))))))) b_law_low_1 1000) (sC (sFrz [0, 1] (sRet (eN oTup (lCons (eVal 0) (lCons (eVal 1) lNil))))) s0))
def φ_law_low : Ctr := wfn 2 2 g_law_low
def F_b_law_low_1 : FS := (zPars [0, 1] [true, true] (yCons (xSl var0 pNoC (pOfC (x1 fNeg (xC (.int 1))))) (yCons (x2 fAdd (xSl var1 (pOfC (x1 fNeg (xC (.int 1)))) pNoC) (xSl var1 pNoC (pOfC (x1 fNeg (xC (.int 1)))))) yNil)))
theorem okF_b_law_low_1 : OkS b_law_low_1 F_b_law_low_1 := (ok_end (ok_frz0 (ok_sPars (ok_lCons (ok_eSl ok_var0 ok_pNo (ok_pOf (ok_e1 ok_uNeg (ok_eC (.int 1))))) (ok_lCons (ok_e2 ok_bAdd (ok_eSl ok_var1 (ok_pOf (ok_e1 ok_uNeg (ok_eC (.int 1)))) ok_pNo) (ok_eSl ok_var1 ok_pNo (ok_pOf (ok_e1 ok_uNeg (ok_eC (.int 1)))))) ok_lNil)) rfl)))
def F_g_law_low : FS := (zSeq (zPars [0, 1] [false, false] (yCons (xN ffTuple (yCons var0 yNil)) (yCons (call1 R_law_round (xN ffTuple (yCons var1 yNil))) yNil))) (zSeq (zWh [] (tAndC (tOfC (x2 fNe var0 (xTup yNil))) (tOfC (x2 fEq (x2 fIx var0 (x1 fNeg (xC (.int 1)))) (x2 fIx var1 (x1 fNeg (xC (.int 1))))))) F_b_law_low_1 1000) (zF0 (zF1 (zRet (xTup (yCons val0 (yCons val1 yNil))))))))
theorem okF_g_law_low : OkS g_law_low F_g_law_low := (ok_sC (ok_frz0 (ok_sPars (ok_lCons (ok_eN ok_fTuple (ok_lCons ok_var0 ok_lNil)) (ok_lCons (ok_call1 pu_φ_law_round (ok_eN ok_fTuple (ok_lCons ok_var1 ok_lNil))) ok_lNil)) rfl)) (ok_sC (ok_whL (ok_tAnd2 (ok_tOf (ok_e2 ok_cNe ok_var0 (ok_tup (n := 0) (by decide) len_nil ok_lNil))) (ok_tOf (ok_e2 ok_cEq (ok_e2 ok_bIx ok_var0 (ok_e1 ok_uNeg (ok_eC (.int 1)))) (ok_e2 ok_bIx ok_var1 (ok_e1 ok_uNeg (ok_eC (.int 1))))))) okF_b_law_low_1) (ok_end (ok_zF0 (ok_zF1 (ok_frz0 (ok_sRet (ok_tup (n := 2) (by decide) (len_cons (len_cons len_nil)) (ok_lCons ok_val0 (ok_lCons ok_val1 ok_lNil))))))))))
def R_law_low : PyData → PyData → R := run2 F_g_law_low []
theorem pu_φ_law_low : Pu2 φ_law_low R_law_low := pu_run2 rfl okF_g_law_low
/-! law_part: 0 one, 1 other -/
def b_law_part_1 : Sx := sC (sFrz [1] (sPars [0, 1] [(false, eVal 1), (false, e2 bMod (eN fInt (lCons (eVar 0) lNil)) (eVar 1))])) s0
def g_law_part : Sx := sC (whL [] (tOf (e2 cGt (eVar 1) (eC (.int 0)))) b_law_part_1 1000) (sC (sFrz [0] (sRet (eVal 0))) s0)
def φ_law_part : Ctr := wfn 2 2 g_law_part
def F_b_law_part_1 : FS := (zF1 (zPars [0, 1] [false, false] (yCons val1 (yCons (x2 fMod (xN (anyI fInt) (yCons var0 yNil)) var1) yNil))))
theorem okF_b_law_part_1 : OkS b_law_part_1 F_b_law_part_1 := (ok_end (ok_zF1 (ok_frz0 (ok_sPars (ok_lCons ok_val1 (ok_lCons (ok_e2 ok_bMod (ok_eN ok_fInt (ok_lCons ok_var0 ok_lNil)) ok_var1) ok_lNil)) rfl))))
def F_g_law_part : FS := (zSeq (zWh [] (tOfC (x2 fGt var1 (xC (.int 0)))) F_b_law_part_1 1000) (zF0 (zRet val0)))
theorem okF_g_law_part : OkS g_law_part F_g_law_part := (ok_sC (ok_whL (ok_tOf (ok_e2 ok_cGt ok_var1 (ok_eC (.int 0)))) okF_b_law_part_1) (ok_end (ok_zF0 (ok_frz0 (ok_sRet ok_val0)))))
def R_law_part : PyData → PyData → R := run2 F_g_law_part []
theorem pu_φ_law_part : Pu2 φ_law_part R_law_part := pu_run2 rfl okF_g_law_part
/-! law_rule: 0 source, 1 odd, 2 bottom, 3 top -/
def g_law_rule : Sx := sC (sFrz [] (sSet (gN 1) (eCall φ_law_of (aSrc 0 (aCons (eN oLst (lCons (eC (.int 1)) (lCons (eC (.int 1)) (lCons (eC (.int 3)) (lCons (eC (.int 7)) (lCons (eC (.int 5)) (lCons (eC (.int 15)) lNil))))))) aNil))))) (sC (sFrz [] (sNew 2 (e2 bMul (eVar 1) (eCall φ_law_of (aSrc 0 (aCons (eN oLst (lCons (eC (.int 2)) (lCons (eC (.int 4)) (lCons (eC (.int 4)) (lCons (eC (.int 8)) (lCons (eC (.int 8)) lNil)))))) aNil)))))) (sC (sFrz [3, 3, 1, 2] (sRet (eN oTup (lCons (eCall φ_law_of (aSrc 0 (aCons (eComp [3] (iR3 (lCons (eC (.int 1)) (lCons (eVar 2) (lCons (eC (.int 2)) lNil)))) (gN 3) (tOf (e2 cEq (eCall φ_law_part (aCons (eVal 3) (aCons (eVal 1) aNil))) (eC (.int 1)))) (eVal 3)) aNil))) (lCons (eVal 2) lNil))))) s0))
def φ_law_rule : Ctr := wfn 1 4 g_law_rule
def F_g_law_rule : FS := (zSeq (zS1 (xCall Φ_law_of (aSrcC 0 (aConsC (xLst (yCons (xC (.int 1)) (yCons (xC (.int 1)) (yCons (xC (.int 3)) (yCons (xC (.int 7)) (yCons (xC (.int 5)) (yCons (xC (.int 15)) yNil))))))) aNilC)))) (zSeq (zN2 (x2 fMul var1 (xCall Φ_law_of (aSrcC 0 (aConsC (xLst (yCons (xC (.int 2)) (yCons (xC (.int 4)) (yCons (xC (.int 4)) (yCons (xC (.int 8)) (yCons (xC (.int 8)) yNil)))))) aNilC))))) (zF3 (zF3 (zF1 (zF2 (zRet (xTup (yCons (xCall Φ_law_of (aSrcC 0 (aConsC (xComp [3] (y3 (yCons (xC (.int 1)) (yCons var2 (yCons (xC (.int 2)) yNil)))) gn3 (tOfC (x2 fEq (call2 R_law_part val3 val1) (xC (.int 1)))) val3) aNilC))) (yCons val2 yNil))))))))))
theorem okF_g_law_rule : OkS g_law_rule F_g_law_rule := (ok_sC (ok_frz0 (ok_zS1 (ok_eCall ok_φ_law_of (ok_aSrc (ok_aCons (ok_lst (n := 6) (by decide) (len_cons (len_cons (len_cons (len_cons (len_cons (len_cons len_nil)))))) (ok_lCons (ok_eC (.int 1)) (ok_lCons (ok_eC (.int 1)) (ok_lCons (ok_eC (.int 3)) (ok_lCons (ok_eC (.int 7)) (ok_lCons (ok_eC (.int 5)) (ok_lCons (ok_eC (.int 15)) ok_lNil))))))) ok_aNil))))) (ok_sC (ok_frz0 (ok_zN2 (ok_e2 ok_bMul ok_var1 (ok_eCall ok_φ_law_of (ok_aSrc (ok_aCons (ok_lst (n := 5) (by decide) (len_cons (len_cons (len_cons (len_cons (len_cons len_nil))))) (ok_lCons (ok_eC (.int 2)) (ok_lCons (ok_eC (.int 4)) (ok_lCons (ok_eC (.int 4)) (ok_lCons (ok_eC (.int 8)) (ok_lCons (ok_eC (.int 8)) ok_lNil)))))) ok_aNil)))))) (ok_end (ok_zF3 (ok_zF3 (ok_zF1 (ok_zF2 (ok_frz0 (ok_sRet (ok_tup (n := 2) (by decide) (len_cons (len_cons len_nil)) (ok_lCons (ok_eCall ok_φ_law_of (ok_aSrc (ok_aCons (ok_eComp (ok_iR3 (ok_lCons (ok_eC (.int 1)) (ok_lCons ok_var2 (ok_lCons (ok_eC (.int 2)) ok_lNil)))) ok_gn3 (ok_tOf (ok_e2 ok_cEq (ok_call2 pu_φ_law_part ok_val3 ok_val1) (ok_eC (.int 1)))) ok_val3) ok_aNil))) (ok_lCons ok_val2 ok_lNil))))))))))))
def Φ_law_rule : FC := defC 1 4 F_g_law_rule
theorem ok_φ_law_rule : OkC φ_law_rule Φ_law_rule := ok_def okF_g_law_rule
/-! law_half: 0 rule, 1 point, 2 a, 3 b, 4 p, 5 q, 6 far -/
def g_law_half : Sx := sC (sFrz [0, 1] (sSet (gT 2 (gsC (gT 2 (gsC (gN 2) (gsC (gN 3) gs0))) (gsC (gT 2 (gsC (gN 4) (gsC (gN 5) gs0))) gs0))) (eN oTup (lCons (eVal 0) (lCons (eVal 1) lNil))))) (sC (sFrz [] (sSet (gN 6) (e2 bMod (eN fInt (lCons (e2 bSub (e2 bMul (e2 bMul (eC (.int 2)) (eVar 3)) (eVar 4)) (e2 bMul (eVar 2) (eVar 5))) lNil)) (e2 bMul (e2 bMul (eC (.int 2)) (eVar 3)) (eVar 5))))) (sC (sFrz [] (sRet (eIf (tOf (e2 cIn (eVar 6) (eN oTup (lCons (eC (.int 0)) (lCons (e2 bMul (eVar 3) (eVar 5)) lNil))))) (eC (.int 2)) (eN fInt (lCons (e2 cLt (eVar 6) (e2 bMul (eVar 3) (eVar 5))) lNil))))) s0))
def φ_law_half : Ctr := wfn 2 7 g_law_half
def F_g_law_half : FS := (zSeq (zF0 (zF1 (zSet (gTC 2 (gsCC (gTC 2 (gsCC gn2 (gsCC gn3 gs0C))) (gsCC (gTC 2 (gsCC gn4 (gsCC gn5 gs0C))) gs0C))) (xTup (yCons val0 (yCons val1 yNil)))))) (zSeq (zS6 (x2 fMod (xN (anyI fInt) (yCons (x2 fSub (x2 fMul (x2 fMul (xC (.int 2)) var3) var4) (x2 fMul var2 var5)) yNil)) (x2 fMul (x2 fMul (xC (.int 2)) var3) var5))) (zRet (xIf (tOfC (x2 fIn var6 (xTup (yCons (xC (.int 0)) (yCons (x2 fMul var3 var5) yNil))))) (xC (.int 2)) (xN (anyI fInt) (yCons (x2 fLt var6 (x2 fMul var3 var5)) yNil))))))
theorem okF_g_law_half : OkS g_law_half F_g_law_half := (ok_sC (ok_zF0 (ok_zF1 (ok_frz0 (ok_sSet (ok_gT (ok_gsC (ok_gT (ok_gsC ok_gn2 (ok_gsC ok_gn3 ok_gs0))) (ok_gsC (ok_gT (ok_gsC ok_gn4 (ok_gsC ok_gn5 ok_gs0))) ok_gs0))) (ok_tup (n := 2) (by decide) (len_cons (len_cons len_nil)) (ok_lCons ok_val0 (ok_lCons ok_val1 ok_lNil))))))) (ok_sC (ok_frz0 (ok_zS6 (ok_e2 ok_bMod (ok_eN ok_fInt (ok_lCons (ok_e2 ok_bSub (ok_e2 ok_bMul (ok_e2 ok_bMul (ok_eC (.int 2)) ok_var3) ok_var4) (ok_e2 ok_bMul ok_var2 ok_var5)) ok_lNil)) (ok_e2 ok_bMul (ok_e2 ok_bMul (ok_eC (.int 2)) ok_var3) ok_var5)))) (ok_end (ok_frz0 (ok_sRet (ok_eIf (ok_tOf (ok_e2 ok_cIn ok_var6 (ok_tup (n := 2) (by decide) (len_cons (len_cons len_nil)) (ok_lCons (ok_eC (.int 0)) (ok_lCons (ok_e2 ok_bMul ok_var3 ok_var5) ok_lNil))))) (ok_eC (.int 2)) (ok_eN ok_fInt (ok_lCons (ok_e2 ok_cLt ok_var6 (ok_e2 ok_bMul ok_var3 ok_var5)) ok_lNil))))))))
def R_law_half : PyData → PyData → R := run2 F_g_law_half [.no, .no, .no, .no, .no]
theorem pu_φ_law_half : Pu2 φ_law_half R_law_half := pu_run2 rfl okF_g_law_half
/-! law_moved: 0 point, 1 p, 2 q -/
def g_law_moved : Sx := sC (sFrz [0] (sSet (gT 2 (gsC (gN 1) (gsC (gN 2) gs0))) (eVal 0))) (sC (sFrz [2] (sRet (eIf (tOf (e2 cEq (e2 bMod (eN fInt (lCons (eVar 2) lNil)) (eC (.int 2))) (eC (.int 0)))) (eN oTup (lCons (e2 bMod (eN fInt (lCons (eVar 1) lNil)) (e2 bDiv (eVar 2) (eC (.int 2)))) (lCons (e2 bDiv (eVar 2) (eC (.int 2))) lNil))) (eN oTup (lCons (e2 bMod (eN fInt (lCons (e2 bMul (eC (.int 2)) (eVar 1)) lNil)) (eVar 2)) (lCons (eVal 2) lNil)))))) s0)
def φ_law_moved : Ctr := wfn 1 3 g_law_moved
def F_g_law_moved : FS := (zSeq (zF0 (zSet (gTC 2 (gsCC gn1 (gsCC gn2 gs0C))) val0)) (zF2 (zRet (xIf (tOfC (x2 fEq (x2 fMod (xN (anyI fInt) (yCons var2 yNil)) (xC (.int 2))) (xC (.int 0)))) (xTup (yCons (x2 fMod (xN (anyI fInt) (yCons var1 yNil)) (x2 fDiv var2 (xC (.int 2)))) (yCons (x2 fDiv var2 (xC (.int 2))) yNil))) (xTup (yCons (x2 fMod (xN (anyI fInt) (yCons (x2 fMul (xC (.int 2)) var1) yNil)) var2) (yCons val2 yNil)))))))
theorem okF_g_law_moved : OkS g_law_moved F_g_law_moved := (ok_sC (ok_zF0 (ok_frz0 (ok_sSet (ok_gT (ok_gsC ok_gn1 (ok_gsC ok_gn2 ok_gs0))) ok_val0))) (ok_end (ok_zF2 (ok_frz0 (ok_sRet (ok_eIf (ok_tOf (ok_e2 ok_cEq (ok_e2 ok_bMod (ok_eN ok_fInt (ok_lCons ok_var2 ok_lNil)) (ok_eC (.int 2))) (ok_eC (.int 0)))) (ok_tup (n := 2) (by decide) (len_cons (len_cons len_nil)) (ok_lCons (ok_e2 ok_bMod (ok_eN ok_fInt (ok_lCons ok_var1 ok_lNil)) (ok_e2 ok_bDiv ok_var2 (ok_eC (.int 2)))) (ok_lCons (ok_e2 ok_bDiv ok_var2 (ok_eC (.int 2))) ok_lNil))) (ok_tup (n := 2) (by decide) (len_cons (len_cons len_nil)) (ok_lCons (ok_e2 ok_bMod (ok_eN ok_fInt (ok_lCons (ok_e2 ok_bMul (ok_eC (.int 2)) ok_var1) ok_lNil)) ok_var2) (ok_lCons ok_val2 ok_lNil)))))))))
def R_law_moved : PyData → R := run1 F_g_law_moved [.no, .no]
theorem pu_φ_law_moved : Pu1 φ_law_moved R_law_moved := pu_run1 rfl okF_g_law_moved
/-! law_point_row: 0 rule, 1 point, 2 letters, 3 met, 4 k -/
def b_law_point_row_1 : Sx := sC (sFrz [1] (sApp 3 (eVal 1))) (sC (sFrz [0, 1] (sApp 2 (eCall φ_law_half (aCons (eVal 0) (aCons (eVal 1) aNil))))) (sC (sFrz [1] (sSet (gN 1) (eCall φ_law_moved (aCons (eVal 1) aNil)))) s0))
def g_law_point_row : Sx := sC (sFrz [] (sPars [2, 3] [(true, eN oLst lNil), (true, eN oLst lNil)])) (sC (whL [] (tOf (e2 cNotIn (eVar 1) (eVar 3))) b_law_point_row_1 1000) (sC (sFrz [] (sSet (gN 4) (e2 mIndex (eVar 3) (eVar 1)))) (sC (sFrz [] (sRet (eCall φ_law_low (aCons (eSl (eVar 2) pNo (pOf (eVar 4))) (aCons (eSl (eVar 2) (pOf (eVar 4)) pNo) aNil))))) s0)))
def φ_law_point_row : Ctr := wfn 2 5 g_law_point_row
def F_b_law_point_row_1 : FS := (zSeq (zF1 (zApp 3 val1)) (zSeq (zF0 (zF1 (zApp 2 (call2 R_law_half val0 val1)))) (zF1 (zS1 (call1 R_law_moved val1)))))
theorem okF_b_law_point_row_1 : OkS b_law_point_row_1 F_b_law_point_row_1 := (ok_sC (ok_zF1 (ok_frz0 (ok_sApp ok_val1))) (ok_sC (ok_zF0 (ok_zF1 (ok_frz0 (ok_sApp (ok_call2 pu_φ_law_half ok_val0 ok_val1))))) (ok_end (ok_zF1 (ok_frz0 (ok_zS1 (ok_call1 pu_φ_law_moved ok_val1)))))))
def F_g_law_point_row : FS := (zSeq (zPars [2, 3] [true, true] (yCons (xLst yNil) (yCons (xLst yNil) yNil))) (zSeq (zWh [] (tOfC (x2 fNotIn var1 var3)) F_b_law_point_row_1 1000) (zSeq (zS4 (x2 (any2 mIndex) var3 var1)) (zRet (call2 R_law_low (xSl var2 pNoC (pOfC var4)) (xSl var2 (pOfC var4) pNoC))))))
theorem okF_g_law_point_row : OkS g_law_point_row F_g_law_point_row := (ok_sC (ok_frz0 (ok_sPars (ok_lCons (ok_lst (n := 0) (by decide) len_nil ok_lNil) (ok_lCons (ok_lst (n := 0) (by decide) len_nil ok_lNil) ok_lNil)) rfl)) (ok_sC (ok_whL (ok_tOf (ok_e2 ok_cNotIn ok_var1 ok_var3)) okF_b_law_point_row_1) (ok_sC (ok_frz0 (ok_zS4 (ok_e2 ok_mIndex ok_var3 ok_var1))) (ok_end (ok_frz0 (ok_sRet (ok_call2 pu_φ_law_low (ok_eSl ok_var2 ok_pNo (ok_pOf ok_var4)) (ok_eSl ok_var2 (ok_pOf ok_var4) ok_pNo))))))))
def R_law_point_row : PyData → PyData → R := run2 F_g_law_point_row [.no, .no, .no]
theorem pu_φ_law_point_row : Pu2 φ_law_point_row R_law_point_row := pu_run2 rfl okF_g_law_point_row
/-! law_below: 0 one, 1 other -/
def g_law_below : Sx := sC (sFrz [] (sRet (e2 cLt (e2 bMul (e2 bIx (eVar 0) (eC (.int 0))) (e2 bIx (eVar 1) (eC (.int 1)))) (e2 bMul (e2 bIx (eVar 1) (eC (.int 0))) (e2 bIx (eVar 0) (eC (.int 1))))))) s0
def φ_law_below : Ctr := wfn 2 2 g_law_below
def F_g_law_below : FS := (zRet (x2 fLt (x2 fMul (x2 fIx var0 (xC (.int 0))) (x2 fIx var1 (xC (.int 1)))) (x2 fMul (x2 fIx var1 (xC (.int 0))) (x2 fIx var0 (xC (.int 1))))))
theorem okF_g_law_below : OkS g_law_below F_g_law_below := (ok_end (ok_frz0 (ok_sRet (ok_e2 ok_cLt (ok_e2 ok_bMul (ok_e2 ok_bIx ok_var0 (ok_eC (.int 0))) (ok_e2 ok_bIx ok_var1 (ok_eC (.int 1)))) (ok_e2 ok_bMul (ok_e2 ok_bIx ok_var1 (ok_eC (.int 0))) (ok_e2 ok_bIx ok_var0 (ok_eC (.int 1))))))))
def R_law_below : PyData → PyData → R := run2 F_g_law_below []
theorem pu_φ_law_below : Pu2 φ_law_below R_law_below := pu_run2 rfl okF_g_law_below
/-! law: 0 script, 1 source, 2 lap, 3 rule, 4 n, 5 points, 6 point, 7 one, 8 late, 9 least, 10 bottom, 11 top, 12 some, 13 turn, 14 other, 15 back, 16 p, 17 q, 18 turned, 19 told -/
def b_law_1_0 : Sx := sFrz [3, 6, 6, 3] (sIf (tOr2 (tOf (e2 cNotN (eCall φ_rules_alike (aCons (eVal 3) (aCons (eVal 6) aNil))) (eC (.bool true)))) (tOf (e2 cNotN (eCall φ_rules_alike (aCons (eVal 6) (aCons (eVal 3) aNil))) (eC (.bool true))))) (sC (sFrz [] (sRet (eC (.bool false)))) s0) s0)
def b_law_1_1 : Sx := sAfter [6] (sFrz [6, 6, 4] (sIf (tOr2 (tOf (e2 cNe (eN fRepr (lCons (eCall φ_least_rule (aCons (eVal 6) aNil)) lNil)) (eN fRepr (lCons (e2 bIx (eVar 9) (eC (.int 0))) lNil)))) (tOf (e2 cNe (eN fRepr (lCons (eCall φ_points_told (aCons (eVal 6) (aCons (eVal 4) aNil))) lNil)) (eN fRepr (lCons (eVar 5) lNil))))) (sC (sFrz [] (sRet (eC (.bool false)))) s0) s0))
def b_law_1_r : Sx := (sC b_law_1_1 s0)
def b_law_1 : Sx := sC b_law_1_0 b_law_1_r
def b_law_2_0 : Sx := sAfter [13] (sFrz [12] (sSet (gN 14) (eCall φ_law_of (aSrc 1 (aCons (eVal 12) aNil)))))
def b_law_2_1 : Sx := sFrz [14, 14] (sSet (gN 8) (eCall φ_law_point_row (aCons (eVal 14) (aCons (eVal 14) aNil))))
def b_law_2_2 : Sx := sFrz [3, 14, 3, 14] (sIf (tOf (e2 cNe (eN fRepr (lCons (eCall φ_rules_alike (aCons (eVal 3) (aCons (eVal 14) aNil))) lNil)) (eN fRepr (lCons (e2 cEq (eCall φ_law_point_row (aCons (eVal 3) (aCons (eVal 14) aNil))) (eVar 4)) lNil)))) (sC (sFrz [] (sRet (eC (.bool false)))) s0) s0)
def b_law_2_3 : Sx := sFrz [3, 14, 8, 4] (sIf (tOr2 (tOf (e2 cNe (eN fRepr (lCons (eCall φ_trees_alike (aCons (eVal 3) (aCons (eVal 14) aNil))) lNil)) (eN fRepr (lCons (e2 cEq (eVar 8) (eVar 4)) lNil)))) (tOf (e2 cNe (e2 cEq (eCall φ_rows_order (aCons (eVal 8) (aCons (eVal 4) aNil))) (eC (.int 0))) (e2 cEq (eVar 8) (eVar 4))))) (sC (sFrz [] (sRet (eC (.bool false)))) s0) s0)
def b_law_2_4 : Sx := sAfter [8, 14] (sFrz [3, 14] (sIf (tAnd2 (tOf (eCall φ_rules_alike (aCons (eVal 3) (aCons (eVal 14) aNil)))) (tOr2 (tOf (e2 cNe (eVar 8) (eVar 4))) (tOf (e2 cNotIn (eVar 14) (eVar 5))))) (sC (sFrz [] (sRet (eC (.bool false)))) s0) s0))
def b_law_2_r : Sx := (sC b_law_2_1 (sC b_law_2_2 (sC b_law_2_3 (sC b_law_2_4 s0))))
def b_law_2 : Sx := sC b_law_2_0 b_law_2_r
def b_law_3_0 : Sx := sAfter [2] (sFrz [] (sSet (gN 3) (eCall φ_law_rule (aSrc 1 aNil))))
def b_law_3_1 : Sx := sFrz [3, 3] (sSet (gN 4) (eCall φ_law_point_row (aCons (eVal 3) (aCons (eVal 3) aNil))))
def b_law_3_2 : Sx := sFrz [3, 4] (sSet (gN 5) (eCall φ_points_told (aCons (eVal 3) (aCons (eVal 4) aNil))))
def b_law_3_3 : Sx := sFrz [5, 6, 3, 6] (sIf (tOr2 (tOf (e2 cNe (eComp [6] (iSeq (eVal 5)) (gN 6) (tOf (e2 cNe (eCall φ_law_point_row (aCons (eVal 3) (aCons (eVal 6) aNil))) (eVar 4))) (eVal 6)) (eN oLst lNil))) (tOf (e2 cNotIn (eVar 3) (eVar 5)))) (sC (sFrz [] (sRet (eC (.bool false)))) s0) s0)
def b_law_3_4 : Sx := sFrz [5, 6] (sIf (tOf (e2 cNe (eComp [6] (iSeq (eVal 5)) (gN 6) (tOf (e2 cNe (e2 bMod (eN fInt (lCons (e2 bIx (eVar 6) (eC (.int 1))) lNil)) (eC (.int 2))) (eC (.int 0)))) (eVal 6)) (eN oLst lNil))) (sC (sFrz [] (sRet (eC (.bool false)))) s0) s0)
def b_law_3_5 : Sx := sFrz [5, 7, 5, 8, 8, 7] (sNew 9 (eComp [7] (iSeq (eVal 5)) (gN 7) (tOf (e2 cEq (eComp [8] (iSeq (eVal 5)) (gN 8) (tOf (eCall φ_law_below (aCons (eVal 8) (aCons (eVal 7) aNil)))) (eVal 8)) (eN oLst lNil))) (eVal 7)))
def b_law_3_6 : Sx := sFrz [3] (sIf (tOr2 (tOf (e2 cNe (eN fRepr (lCons (eCall φ_least_rule (aCons (eVal 3) aNil)) lNil)) (eN fRepr (lCons (e2 bIx (eVar 9) (eC (.int 0))) lNil)))) (tOf (e2 cNe (eN fLen (lCons (eVar 9) lNil)) (eC (.int 1))))) (sC (sFrz [] (sRet (eC (.bool false)))) s0) s0)
def b_law_3_7 : Sx := sAfter [6, 9] (sFrz [5] (sFor (iSeq (eVal 5)) (gN 6) b_law_1))
def b_law_3_8 : Sx := sFrz [] (sSet (gN 10) (e2 bIx (eVar 3) (eC (.int 1))))
def b_law_3_9 : Sx := sAfter [10] (sFrz [11, 10, 10, 11] (sNew 12 (eComp [11] (iR3 (lCons (eC (.int 1)) (lCons (eVar 10) (lCons (eC (.int 2)) lNil)))) (gN 11) (tOf (e2 cEq (eCall φ_law_part (aCons (eVal 10) (aCons (eVal 11) aNil))) (eC (.int 1)))) (eN oTup (lCons (eVal 11) (lCons (eVal 10) lNil))))))
def b_law_3_10 : Sx := sAfter [8, 12, 13, 14] (sFrz [] (sFor (iR1 (eC (.int 5))) (gN 13) b_law_2))
def b_law_3_11 : Sx := sFrz [3] (sSet (gN 15) (eCall φ_rule_mirrored (aCons (eVal 3) aNil)))
def b_law_3_12 : Sx := sFrz [15] (sIf (tOr2 (tOf (e2 cNe (eN fRepr (lCons (eVar 15) lNil)) (eN fRepr (lCons (eN oTup (lCons (e2 bSub (e2 bIx (eVar 3) (eC (.int 1))) (e2 bIx (eVar 3) (eC (.int 0)))) (lCons (e2 bIx (eVar 3) (eC (.int 1))) lNil))) lNil)))) (tOf (e2 cNe (eN fRepr (lCons (eCall φ_rule_mirrored (aCons (eVal 15) aNil)) lNil)) (eN fRepr (lCons (eVar 3) lNil))))) (sC (sFrz [] (sRet (eC (.bool false)))) s0) s0)
def b_law_3_13 : Sx := sAfter [3] (sFrz [3, 15, 15, 3] (sIf (tOr2 (tOf (e2 cNotN (eCall φ_trees_alike (aCons (eVal 3) (aCons (eVal 15) aNil))) (eC (.bool true)))) (tOf (e2 cNe (eN fRepr (lCons (eCall φ_rules_alike (aCons (eVal 15) (aCons (eVal 3) aNil))) lNil)) (eN fRepr (lCons (e2 cIn (eVar 15) (eVar 5)) lNil))))) (sC (sFrz [] (sRet (eC (.bool false)))) s0) s0))
def b_law_3_14 : Sx := sAfter [5] (sFrz [17] (sSet (gN 18) (eN fTuple (lCons (eComp [16, 17] (iSeq (e1 oRev (eVar 5))) (gT 2 (gsC (gN 16) (gsC (gN 17) gs0))) tYs (eN oTup (lCons (e2 bSub (eVar 17) (eVar 16)) (lCons (eVal 17) lNil)))) lNil))))
def b_law_3_15 : Sx := sAfter [4, 15, 18] (sFrz [15, 4] (sIf (tOf (e2 cNe (eN fRepr (lCons (eCall φ_points_told (aCons (eVal 15) (aCons (eVal 4) aNil))) lNil)) (eN fRepr (lCons (eVar 18) lNil)))) (sC (sFrz [] (sRet (eC (.bool false)))) s0) s0))
def b_law_3_r : Sx := (sC b_law_3_1 (sC b_law_3_2 (sC b_law_3_3 (sC b_law_3_4 (sC b_law_3_5 (sC b_law_3_6 (sC b_law_3_7 (sC b_law_3_8 (sC b_law_3_9 (sC b_law_3_10 (sC b_law_3_11 (sC b_law_3_12 (sC b_law_3_13 (sC b_law_3_14 (sC b_law_3_15 s0)))))))))))))))
def b_law_3 : Sx := sC b_law_3_0 b_law_3_r
def l_0 : Sx := sAfter [2, 3, 4, 5, 9, 10, 12, 13, 14, 15, 18] (sFrz [] (sFor (iR1 (eC (.int 2))) (gN 2) b_law_3))
def l_1 : Sx := sFrz [] (sNew 19 (eN oLst (lCons (eCall φ_least_rule (aCons (eN oTup (lCons (eC (.int 15)) (lCons (eC (.int 56)) lNil))) aNil)) (lCons (eCall φ_rules_alike (aCons (eN oTup (lCons (eC (.int 9)) (lCons (eC (.int 56)) lNil))) (aCons (eN oTup (lCons (eC (.int 11)) (lCons (eC (.int 56)) lNil))) aNil))) (lCons (eCall φ_rules_alike (aCons (eN oTup (lCons (eC (.int 1)) (lCons (eC (.int 4)) lNil))) (aCons (eN oTup (lCons (eC (.int 3)) (lCons (eC (.int 4)) lNil))) aNil))) lNil)))))
def l_2 : Sx := sFrz [] (sRet (e2 cEq (eN fRepr (lCons (e2 bAdd (eVar 19) (eN oLst (lCons (eCall φ_trees_alike (aCons (eN oTup (lCons (eC (.int 1)) (lCons (eC (.int 4)) lNil))) (aCons (eN oTup (lCons (eC (.int 3)) (lCons (eC (.int 4)) lNil))) aNil))) lNil))) lNil)) (eN fRepr (lCons (eN oLst (lCons (eN oTup (lCons (eC (.int 9)) (lCons (eC (.int 56)) lNil))) (lCons (eC (.bool true)) (lCons (eC (.bool false)) (lCons (eC (.bool true)) lNil))))) lNil))))
def g_law : Sx := (sC l_0 (sC l_1 (sC l_2 s0)))
def F_b_law_1_0 : FS := (zF3 (zF6 (zF6 (zF3 (zIf (tOrC (tOfC (x2 (any2 cNotN) (call2 R_rules_alike val3 val6) (xC (.bool true)))) (tOfC (x2 (any2 cNotN) (call2 R_rules_alike val6 val3) (xC (.bool true))))) (zRet (xC (.bool false))) zNx)))))
theorem okF_b_law_1_0 : OkS b_law_1_0 F_b_law_1_0 := (ok_zF3 (ok_zF6 (ok_zF6 (ok_zF3 (ok_frz0 (ok_sIf (ok_tOr2 (ok_tOf (ok_e2 ok_cNotN (ok_call2 pu_φ_rules_alike ok_val3 ok_val6) (ok_eC (.bool true)))) (ok_tOf (ok_e2 ok_cNotN (ok_call2 pu_φ_rules_alike ok_val6 ok_val3) (ok_eC (.bool true))))) (ok_end (ok_frz0 (ok_sRet (ok_eC (.bool false))))) ok_s0))))))
def F_b_law_1_1 : FS := (zAfter [6] (zF6 (zF6 (zF4 (zIf (tOrC (tOfC (xRNe (call1 R_least_rule val6) (x2 fIx var9 (xC (.int 0))))) (tOfC (xRNe (call2 R_points_told val6 val4) var5))) (zRet (xC (.bool false))) zNx)))))
theorem okF_b_law_1_1 : OkS b_law_1_1 F_b_law_1_1 := (ok_sAfter (ok_zF6 (ok_zF6 (ok_zF4 (ok_frz0 (ok_sIf (ok_tOr2 (ok_tOf (ok_RNe (ok_call1 pu_φ_least_rule ok_val6) (ok_e2 ok_bIx ok_var9 (ok_eC (.int 0))))) (ok_tOf (ok_RNe (ok_call2 pu_φ_points_told ok_val6 ok_val4) ok_var5))) (ok_end (ok_frz0 (ok_sRet (ok_eC (.bool false))))) ok_s0))))))
def F_b_law_1_r : FS := F_b_law_1_1
theorem okF_b_law_1_r : OkS b_law_1_r F_b_law_1_r := (ok_end okF_b_law_1_1)
def F_b_law_1 : FS := (zSeq F_b_law_1_0 F_b_law_1_r)
theorem okF_b_law_1 : OkS b_law_1 F_b_law_1 := (ok_sC okF_b_law_1_0 okF_b_law_1_r)
def F_b_law_2_0 : FS := (zAfter [13] (zF12 (zS14 (xCall Φ_law_of (aSrcC 1 (aConsC val12 aNilC))))))
theorem okF_b_law_2_0 : OkS b_law_2_0 F_b_law_2_0 := (ok_sAfter (ok_zF12 (ok_frz0 (ok_zS14 (ok_eCall ok_φ_law_of (ok_aSrc (ok_aCons ok_val12 ok_aNil)))))))
def F_b_law_2_1 : FS := (zF14 (zF14 (zS8 (call2 R_law_point_row val14 val14))))
theorem okF_b_law_2_1 : OkS b_law_2_1 F_b_law_2_1 := (ok_zF14 (ok_zF14 (ok_frz0 (ok_zS8 (ok_call2 pu_φ_law_point_row ok_val14 ok_val14)))))
def F_b_law_2_2 : FS := (zF3 (zF14 (zF3 (zF14 (zIf (tOfC (xRNe (call2 R_rules_alike val3 val14) (x2 fEq (call2 R_law_point_row val3 val14) var4))) (zRet (xC (.bool false))) zNx)))))
theorem okF_b_law_2_2 : OkS b_law_2_2 F_b_law_2_2 := (ok_zF3 (ok_zF14 (ok_zF3 (ok_zF14 (ok_frz0 (ok_sIf (ok_tOf (ok_RNe (ok_call2 pu_φ_rules_alike ok_val3 ok_val14) (ok_e2 ok_cEq (ok_call2 pu_φ_law_point_row ok_val3 ok_val14) ok_var4))) (ok_end (ok_frz0 (ok_sRet (ok_eC (.bool false))))) ok_s0))))))
def F_b_law_2_3 : FS := (zF3 (zF14 (zF8 (zF4 (zIf (tOrC (tOfC (xRNe (call2 R_trees_alike val3 val14) (x2 fEq var8 var4))) (tOfC (x2 fNe (x2 fEq (call2 R_rows_order val8 val4) (xC (.int 0))) (x2 fEq var8 var4)))) (zRet (xC (.bool false))) zNx)))))
theorem okF_b_law_2_3 : OkS b_law_2_3 F_b_law_2_3 := (ok_zF3 (ok_zF14 (ok_zF8 (ok_zF4 (ok_frz0 (ok_sIf (ok_tOr2 (ok_tOf (ok_RNe (ok_call2 pu_φ_trees_alike ok_val3 ok_val14) (ok_e2 ok_cEq ok_var8 ok_var4))) (ok_tOf (ok_e2 ok_cNe (ok_e2 ok_cEq (ok_call2 pu_φ_rows_order ok_val8 ok_val4) (ok_eC (.int 0))) (ok_e2 ok_cEq ok_var8 ok_var4)))) (ok_end (ok_frz0 (ok_sRet (ok_eC (.bool false))))) ok_s0))))))
def F_b_law_2_4 : FS := (zAfter [8, 14] (zF3 (zF14 (zIf (tAndC (tOfC (call2 R_rules_alike val3 val14)) (tOrC (tOfC (x2 fNe var8 var4)) (tOfC (x2 fNotIn var14 var5)))) (zRet (xC (.bool false))) zNx))))
theorem okF_b_law_2_4 : OkS b_law_2_4 F_b_law_2_4 := (ok_sAfter (ok_zF3 (ok_zF14 (ok_frz0 (ok_sIf (ok_tAnd2 (ok_tOf (ok_call2 pu_φ_rules_alike ok_val3 ok_val14)) (ok_tOr2 (ok_tOf (ok_e2 ok_cNe ok_var8 ok_var4)) (ok_tOf (ok_e2 ok_cNotIn ok_var14 ok_var5)))) (ok_end (ok_frz0 (ok_sRet (ok_eC (.bool false))))) ok_s0)))))
def F_b_law_2_r : FS := (zSeq F_b_law_2_1 (zSeq F_b_law_2_2 (zSeq F_b_law_2_3 F_b_law_2_4)))
theorem okF_b_law_2_r : OkS b_law_2_r F_b_law_2_r := (ok_sC okF_b_law_2_1 (ok_sC okF_b_law_2_2 (ok_sC okF_b_law_2_3 (ok_end okF_b_law_2_4))))
def F_b_law_2 : FS := (zSeq F_b_law_2_0 F_b_law_2_r)
theorem okF_b_law_2 : OkS b_law_2 F_b_law_2 := (ok_sC okF_b_law_2_0 okF_b_law_2_r)
def F_b_law_3_0 : FS := (zAfter [2] (zS3 (xCall Φ_law_rule (aSrcC 1 aNilC))))
theorem okF_b_law_3_0 : OkS b_law_3_0 F_b_law_3_0 := (ok_sAfter (ok_frz0 (ok_zS3 (ok_eCall ok_φ_law_rule (ok_aSrc ok_aNil)))))
def F_b_law_3_1 : FS := (zF3 (zF3 (zS4 (call2 R_law_point_row val3 val3))))
theorem okF_b_law_3_1 : OkS b_law_3_1 F_b_law_3_1 := (ok_zF3 (ok_zF3 (ok_frz0 (ok_zS4 (ok_call2 pu_φ_law_point_row ok_val3 ok_val3)))))
def F_b_law_3_2 : FS := (zF3 (zF4 (zS5 (call2 R_points_told val3 val4))))
theorem okF_b_law_3_2 : OkS b_law_3_2 F_b_law_3_2 := (ok_zF3 (ok_zF4 (ok_frz0 (ok_zS5 (ok_call2 pu_φ_points_told ok_val3 ok_val4)))))
def F_b_law_3_3 : FS := (zF5 (zF6 (zF3 (zF6 (zIf (tOrC (tOfC (x2 fNe (xComp [6] (yItems val5) gn6 (tOfC (x2 fNe (call2 R_law_point_row val3 val6) var4)) val6) (xLst yNil))) (tOfC (x2 fNotIn var3 var5))) (zRet (xC (.bool false))) zNx)))))
theorem okF_b_law_3_3 : OkS b_law_3_3 F_b_law_3_3 := (ok_zF5 (ok_zF6 (ok_zF3 (ok_zF6 (ok_frz0 (ok_sIf (ok_tOr2 (ok_tOf (ok_e2 ok_cNe (ok_eComp (ok_iSeq ok_val5) ok_gn6 (ok_tOf (ok_e2 ok_cNe (ok_call2 pu_φ_law_point_row ok_val3 ok_val6) ok_var4)) ok_val6) (ok_lst (n := 0) (by decide) len_nil ok_lNil))) (ok_tOf (ok_e2 ok_cNotIn ok_var3 ok_var5))) (ok_end (ok_frz0 (ok_sRet (ok_eC (.bool false))))) ok_s0))))))
def F_b_law_3_4 : FS := (zF5 (zF6 (zIf (tOfC (x2 fNe (xComp [6] (yItems val5) gn6 (tOfC (x2 fNe (x2 fMod (xN (anyI fInt) (yCons (x2 fIx var6 (xC (.int 1))) yNil)) (xC (.int 2))) (xC (.int 0)))) val6) (xLst yNil))) (zRet (xC (.bool false))) zNx)))
theorem okF_b_law_3_4 : OkS b_law_3_4 F_b_law_3_4 := (ok_zF5 (ok_zF6 (ok_frz0 (ok_sIf (ok_tOf (ok_e2 ok_cNe (ok_eComp (ok_iSeq ok_val5) ok_gn6 (ok_tOf (ok_e2 ok_cNe (ok_e2 ok_bMod (ok_eN ok_fInt (ok_lCons (ok_e2 ok_bIx ok_var6 (ok_eC (.int 1))) ok_lNil)) (ok_eC (.int 2))) (ok_eC (.int 0)))) ok_val6) (ok_lst (n := 0) (by decide) len_nil ok_lNil))) (ok_end (ok_frz0 (ok_sRet (ok_eC (.bool false))))) ok_s0))))
def F_b_law_3_5 : FS := (zF5 (zF7 (zF5 (zF8 (zF8 (zF7 (zN9 (xComp [7] (yItems val5) gn7 (tOfC (x2 fEq (xComp [8] (yItems val5) gn8 (tOfC (call2 R_law_below val8 val7)) val8) (xLst yNil))) val7))))))))
theorem okF_b_law_3_5 : OkS b_law_3_5 F_b_law_3_5 := (ok_zF5 (ok_zF7 (ok_zF5 (ok_zF8 (ok_zF8 (ok_zF7 (ok_frz0 (ok_zN9 (ok_eComp (ok_iSeq ok_val5) ok_gn7 (ok_tOf (ok_e2 ok_cEq (ok_eComp (ok_iSeq ok_val5) ok_gn8 (ok_tOf (ok_call2 pu_φ_law_below ok_val8 ok_val7)) ok_val8) (ok_lst (n := 0) (by decide) len_nil ok_lNil))) ok_val7)))))))))
def F_b_law_3_6 : FS := (zF3 (zIf (tOrC (tOfC (xRNe (call1 R_least_rule val3) (x2 fIx var9 (xC (.int 0))))) (tOfC (x2 fNe (xN ffLen (yCons var9 yNil)) (xC (.int 1))))) (zRet (xC (.bool false))) zNx))
theorem okF_b_law_3_6 : OkS b_law_3_6 F_b_law_3_6 := (ok_zF3 (ok_frz0 (ok_sIf (ok_tOr2 (ok_tOf (ok_RNe (ok_call1 pu_φ_least_rule ok_val3) (ok_e2 ok_bIx ok_var9 (ok_eC (.int 0))))) (ok_tOf (ok_e2 ok_cNe (ok_eN ok_fLen (ok_lCons ok_var9 ok_lNil)) (ok_eC (.int 1))))) (ok_end (ok_frz0 (ok_sRet (ok_eC (.bool false))))) ok_s0)))
def F_b_law_3_7 : FS := (zAfter [6, 9] (zF5 (zForI [3, 4, 6] (yItems val5) gn6 F_b_law_1)))
theorem okF_b_law_3_7 : OkS b_law_3_7 F_b_law_3_7 := (ok_sAfter (ok_zF5 (ok_frz0 (ok_sForI (ok_iSeq ok_val5) ok_gn6 okF_b_law_1))))
def F_b_law_3_8 : FS := (zS10 (x2 fIx var3 (xC (.int 1))))
theorem okF_b_law_3_8 : OkS b_law_3_8 F_b_law_3_8 := (ok_frz0 (ok_zS10 (ok_e2 ok_bIx ok_var3 (ok_eC (.int 1)))))
def F_b_law_3_9 : FS := (zAfter [10] (zF11 (zF10 (zF10 (zF11 (zN12 (xComp [11] (y3 (yCons (xC (.int 1)) (yCons var10 (yCons (xC (.int 2)) yNil)))) gn11 (tOfC (x2 fEq (call2 R_law_part val10 val11) (xC (.int 1)))) (xTup (yCons val11 (yCons val10 yNil))))))))))
theorem okF_b_law_3_9 : OkS b_law_3_9 F_b_law_3_9 := (ok_sAfter (ok_zF11 (ok_zF10 (ok_zF10 (ok_zF11 (ok_frz0 (ok_zN12 (ok_eComp (ok_iR3 (ok_lCons (ok_eC (.int 1)) (ok_lCons ok_var10 (ok_lCons (ok_eC (.int 2)) ok_lNil)))) ok_gn11 (ok_tOf (ok_e2 ok_cEq (ok_call2 pu_φ_law_part ok_val10 ok_val11) (ok_eC (.int 1)))) (ok_tup (n := 2) (by decide) (len_cons (len_cons len_nil)) (ok_lCons ok_val11 (ok_lCons ok_val10 ok_lNil)))))))))))
def F_b_law_3_10 : FS := (zAfter [8, 12, 13, 14] (zForI [3, 4, 8, 12, 14] (y1 (xC (.int 5))) gn13 F_b_law_2))
theorem okF_b_law_3_10 : OkS b_law_3_10 F_b_law_3_10 := (ok_sAfter (ok_frz0 (ok_sForI (ok_iR1 (ok_eC (.int 5))) ok_gn13 okF_b_law_2)))
def F_b_law_3_11 : FS := (zF3 (zS15 (call1 R_rule_mirrored val3)))
theorem okF_b_law_3_11 : OkS b_law_3_11 F_b_law_3_11 := (ok_zF3 (ok_frz0 (ok_zS15 (ok_call1 pu_φ_rule_mirrored ok_val3))))
def F_b_law_3_12 : FS := (zF15 (zIf (tOrC (tOfC (xRNe var15 (xTup (yCons (x2 fSub (x2 fIx var3 (xC (.int 1))) (x2 fIx var3 (xC (.int 0)))) (yCons (x2 fIx var3 (xC (.int 1))) yNil))))) (tOfC (xRNe (call1 R_rule_mirrored val15) var3))) (zRet (xC (.bool false))) zNx))
theorem okF_b_law_3_12 : OkS b_law_3_12 F_b_law_3_12 := (ok_zF15 (ok_frz0 (ok_sIf (ok_tOr2 (ok_tOf (ok_RNe ok_var15 (ok_tup (n := 2) (by decide) (len_cons (len_cons len_nil)) (ok_lCons (ok_e2 ok_bSub (ok_e2 ok_bIx ok_var3 (ok_eC (.int 1))) (ok_e2 ok_bIx ok_var3 (ok_eC (.int 0)))) (ok_lCons (ok_e2 ok_bIx ok_var3 (ok_eC (.int 1))) ok_lNil))))) (ok_tOf (ok_RNe (ok_call1 pu_φ_rule_mirrored ok_val15) ok_var3))) (ok_end (ok_frz0 (ok_sRet (ok_eC (.bool false))))) ok_s0)))
def F_b_law_3_13 : FS := (zAfter [3] (zF3 (zF15 (zF15 (zF3 (zIf (tOrC (tOfC (x2 (any2 cNotN) (call2 R_trees_alike val3 val15) (xC (.bool true)))) (tOfC (xRNe (call2 R_rules_alike val15 val3) (x2 fIn var15 var5)))) (zRet (xC (.bool false))) zNx))))))
theorem okF_b_law_3_13 : OkS b_law_3_13 F_b_law_3_13 := (ok_sAfter (ok_zF3 (ok_zF15 (ok_zF15 (ok_zF3 (ok_frz0 (ok_sIf (ok_tOr2 (ok_tOf (ok_e2 ok_cNotN (ok_call2 pu_φ_trees_alike ok_val3 ok_val15) (ok_eC (.bool true)))) (ok_tOf (ok_RNe (ok_call2 pu_φ_rules_alike ok_val15 ok_val3) (ok_e2 ok_cIn ok_var15 ok_var5)))) (ok_end (ok_frz0 (ok_sRet (ok_eC (.bool false))))) ok_s0)))))))
def F_b_law_3_14 : FS := (zAfter [5] (zF17 (zS18 (xN ffTuple (yCons (xComp [16, 17] (yItems (x1 fRev var5)) (gTC 2 (gsCC gn16 (gsCC gn17 gs0C))) tYsC (xTup (yCons (x2 fSub var17 var16) (yCons val17 yNil)))) yNil)))))
theorem okF_b_law_3_14 : OkS b_law_3_14 F_b_law_3_14 := (ok_sAfter (ok_zF17 (ok_frz0 (ok_zS18 (ok_eN ok_fTuple (ok_lCons (ok_eComp (ok_iSeq (ok_e1 ok_oRev ok_var5)) (ok_gT (ok_gsC ok_gn16 (ok_gsC ok_gn17 ok_gs0))) ok_tYs (ok_tup (n := 2) (by decide) (len_cons (len_cons len_nil)) (ok_lCons (ok_e2 ok_bSub ok_var17 ok_var16) (ok_lCons ok_val17 ok_lNil)))) ok_lNil))))))
def F_b_law_3_15 : FS := (zAfter [4, 15, 18] (zF15 (zF4 (zIf (tOfC (xRNe (call2 R_points_told val15 val4) var18)) (zRet (xC (.bool false))) zNx))))
theorem okF_b_law_3_15 : OkS b_law_3_15 F_b_law_3_15 := (ok_sAfter (ok_zF15 (ok_zF4 (ok_frz0 (ok_sIf (ok_tOf (ok_RNe (ok_call2 pu_φ_points_told ok_val15 ok_val4) ok_var18)) (ok_end (ok_frz0 (ok_sRet (ok_eC (.bool false))))) ok_s0)))))
def F_b_law_3_r : FS := (zSeq F_b_law_3_1 (zSeq F_b_law_3_2 (zSeq F_b_law_3_3 (zSeq F_b_law_3_4 (zSeq F_b_law_3_5 (zSeq F_b_law_3_6 (zSeq F_b_law_3_7 (zSeq F_b_law_3_8 (zSeq F_b_law_3_9 (zSeq F_b_law_3_10 (zSeq F_b_law_3_11 (zSeq F_b_law_3_12 (zSeq F_b_law_3_13 (zSeq F_b_law_3_14 F_b_law_3_15))))))))))))))
theorem okF_b_law_3_r : OkS b_law_3_r F_b_law_3_r := (ok_sC okF_b_law_3_1 (ok_sC okF_b_law_3_2 (ok_sC okF_b_law_3_3 (ok_sC okF_b_law_3_4 (ok_sC okF_b_law_3_5 (ok_sC okF_b_law_3_6 (ok_sC okF_b_law_3_7 (ok_sC okF_b_law_3_8 (ok_sC okF_b_law_3_9 (ok_sC okF_b_law_3_10 (ok_sC okF_b_law_3_11 (ok_sC okF_b_law_3_12 (ok_sC okF_b_law_3_13 (ok_sC okF_b_law_3_14 (ok_end okF_b_law_3_15)))))))))))))))
def F_b_law_3 : FS := (zSeq F_b_law_3_0 F_b_law_3_r)
theorem okF_b_law_3 : OkS b_law_3 F_b_law_3 := (ok_sC okF_b_law_3_0 okF_b_law_3_r)
def F_l_0 : FS := (zAfter [2, 3, 4, 5, 9, 10, 12, 13, 14, 15, 18] (zForI [3, 4, 5, 6, 7, 8, 10, 11, 12, 14, 15, 17] (y1 (xC (.int 2))) gn2 F_b_law_3))
theorem okF_l_0 : OkS l_0 F_l_0 := (ok_sAfter (ok_frz0 (ok_sForI (ok_iR1 (ok_eC (.int 2))) ok_gn2 okF_b_law_3)))
def F_l_1 : FS := (zN19 (xLst (yCons (call1 R_least_rule (xTup (yCons (xC (.int 15)) (yCons (xC (.int 56)) yNil)))) (yCons (call2 R_rules_alike (xTup (yCons (xC (.int 9)) (yCons (xC (.int 56)) yNil))) (xTup (yCons (xC (.int 11)) (yCons (xC (.int 56)) yNil)))) (yCons (call2 R_rules_alike (xTup (yCons (xC (.int 1)) (yCons (xC (.int 4)) yNil))) (xTup (yCons (xC (.int 3)) (yCons (xC (.int 4)) yNil)))) yNil)))))
theorem okF_l_1 : OkS l_1 F_l_1 := (ok_frz0 (ok_zN19 (ok_lst (n := 3) (by decide) (len_cons (len_cons (len_cons len_nil))) (ok_lCons (ok_call1 pu_φ_least_rule (ok_tup (n := 2) (by decide) (len_cons (len_cons len_nil)) (ok_lCons (ok_eC (.int 15)) (ok_lCons (ok_eC (.int 56)) ok_lNil)))) (ok_lCons (ok_call2 pu_φ_rules_alike (ok_tup (n := 2) (by decide) (len_cons (len_cons len_nil)) (ok_lCons (ok_eC (.int 9)) (ok_lCons (ok_eC (.int 56)) ok_lNil))) (ok_tup (n := 2) (by decide) (len_cons (len_cons len_nil)) (ok_lCons (ok_eC (.int 11)) (ok_lCons (ok_eC (.int 56)) ok_lNil)))) (ok_lCons (ok_call2 pu_φ_rules_alike (ok_tup (n := 2) (by decide) (len_cons (len_cons len_nil)) (ok_lCons (ok_eC (.int 1)) (ok_lCons (ok_eC (.int 4)) ok_lNil))) (ok_tup (n := 2) (by decide) (len_cons (len_cons len_nil)) (ok_lCons (ok_eC (.int 3)) (ok_lCons (ok_eC (.int 4)) ok_lNil)))) ok_lNil))))))
def F_l_2 : FS := (zRet (xREq (x2 fAdd var19 (xLst (yCons (call2 R_trees_alike (xTup (yCons (xC (.int 1)) (yCons (xC (.int 4)) yNil))) (xTup (yCons (xC (.int 3)) (yCons (xC (.int 4)) yNil)))) yNil))) (xLst (yCons (xTup (yCons (xC (.int 9)) (yCons (xC (.int 56)) yNil))) (yCons (xC (.bool true)) (yCons (xC (.bool false)) (yCons (xC (.bool true)) yNil)))))))
theorem okF_l_2 : OkS l_2 F_l_2 := (ok_frz0 (ok_sRet (ok_REq (ok_e2 ok_bAdd ok_var19 (ok_lst (n := 1) (by decide) (len_cons len_nil) (ok_lCons (ok_call2 pu_φ_trees_alike (ok_tup (n := 2) (by decide) (len_cons (len_cons len_nil)) (ok_lCons (ok_eC (.int 1)) (ok_lCons (ok_eC (.int 4)) ok_lNil))) (ok_tup (n := 2) (by decide) (len_cons (len_cons len_nil)) (ok_lCons (ok_eC (.int 3)) (ok_lCons (ok_eC (.int 4)) ok_lNil)))) ok_lNil))) (ok_lst (n := 4) (by decide) (len_cons (len_cons (len_cons (len_cons len_nil)))) (ok_lCons (ok_tup (n := 2) (by decide) (len_cons (len_cons len_nil)) (ok_lCons (ok_eC (.int 9)) (ok_lCons (ok_eC (.int 56)) ok_lNil))) (ok_lCons (ok_eC (.bool true)) (ok_lCons (ok_eC (.bool false)) (ok_lCons (ok_eC (.bool true)) ok_lNil))))))))
def F_g_law : FS := (zSeq F_l_0 (zSeq F_l_1 F_l_2))
theorem okF_g_law : OkS g_law F_g_law := (ok_sC okF_l_0 (ok_sC okF_l_1 (ok_end okF_l_2)))
end
end Lw
set_option Elab.async false
set_option linter.all false
set_option maxRecDepth 100000
set_option maxHeartbeats 0
/-! The law, rule by rule. -/
namespace Lw
open PySem PySem.Spec Dv Fe
noncomputable section
def st (a b : Nat) : Rho := [.no, .src, .no, .d (.tuple [.int (.ofNat a), .int (.ofNat b)]), .no, .no, .no, .no, .no, .no, .no, .no, .no, .no, .no, .no, .no, .no, .no, .no]
def sl (a : Nat) : Rho := [.no, .src, .d (.int (.ofNat a)), .no, .no, .no, .no, .no, .no, .no, .no, .no, .no, .no, .no, .no, .no, .no, .no, .no]
theorem c_1_2 : okB (turnI F_b_law_3_r (stL 18) (st 1 2)) = true := by decide +kernel
theorem c_1_4 : okB (turnI F_b_law_3_r (stL 18) (st 1 4)) = true := by decide +kernel
theorem c_3_4 : okB (turnI F_b_law_3_r (stL 18) (st 3 4)) = true := by decide +kernel
theorem c_1_6 : okB (turnI F_b_law_3_r (stL 18) (st 1 6)) = true := by decide +kernel
theorem c_5_6 : okB (turnI F_b_law_3_r (stL 18) (st 5 6)) = true := by decide +kernel
theorem c_1_8 : okB (turnI F_b_law_3_r (stL 18) (st 1 8)) = true := by decide +kernel
theorem c_3_8 : okB (turnI F_b_law_3_r (stL 18) (st 3 8)) = true := by decide +kernel
theorem c_5_8 : okB (turnI F_b_law_3_r (stL 18) (st 5 8)) = true := by decide +kernel
theorem c_7_8 : okB (turnI F_b_law_3_r (stL 18) (st 7 8)) = true := by decide +kernel
theorem c_1_10 : okB (turnI F_b_law_3_r (stL 18) (st 1 10)) = true := by decide +kernel
theorem c_3_10 : okB (turnI F_b_law_3_r (stL 18) (st 3 10)) = true := by decide +kernel
theorem c_7_10 : okB (turnI F_b_law_3_r (stL 18) (st 7 10)) = true := by decide +kernel
theorem c_9_10 : okB (turnI F_b_law_3_r (stL 18) (st 9 10)) = true := by decide +kernel
theorem c_1_12 : okB (turnI F_b_law_3_r (stL 18) (st 1 12)) = true := by decide +kernel
theorem c_5_12 : okB (turnI F_b_law_3_r (stL 18) (st 5 12)) = true := by decide +kernel
theorem c_7_12 : okB (turnI F_b_law_3_r (stL 18) (st 7 12)) = true := by decide +kernel
theorem c_11_12 : okB (turnI F_b_law_3_r (stL 18) (st 11 12)) = true := by decide +kernel
theorem c_1_14 : okB (turnI F_b_law_3_r (stL 18) (st 1 14)) = true := by decide +kernel
theorem c_3_14 : okB (turnI F_b_law_3_r (stL 18) (st 3 14)) = true := by decide +kernel
theorem c_5_14 : okB (turnI F_b_law_3_r (stL 18) (st 5 14)) = true := by decide +kernel
theorem c_9_14 : okB (turnI F_b_law_3_r (stL 18) (st 9 14)) = true := by decide +kernel
theorem c_11_14 : okB (turnI F_b_law_3_r (stL 18) (st 11 14)) = true := by decide +kernel
theorem c_13_14 : okB (turnI F_b_law_3_r (stL 18) (st 13 14)) = true := by decide +kernel
theorem c_1_20 : okB (turnI F_b_law_3_r (stL 18) (st 1 20)) = true := by decide +kernel
theorem c_3_20 : okB (turnI F_b_law_3_r (stL 18) (st 3 20)) = true := by decide +kernel
theorem c_7_20 : okB (turnI F_b_law_3_r (stL 18) (st 7 20)) = true := by decide +kernel
theorem c_9_20 : okB (turnI F_b_law_3_r (stL 18) (st 9 20)) = true := by decide +kernel
theorem c_11_20 : okB (turnI F_b_law_3_r (stL 18) (st 11 20)) = true := by decide +kernel
theorem c_13_20 : okB (turnI F_b_law_3_r (stL 18) (st 13 20)) = true := by decide +kernel
theorem c_17_20 : okB (turnI F_b_law_3_r (stL 18) (st 17 20)) = true := by decide +kernel
theorem c_19_20 : okB (turnI F_b_law_3_r (stL 18) (st 19 20)) = true := by decide +kernel
theorem c_1_24 : okB (turnI F_b_law_3_r (stL 18) (st 1 24)) = true := by decide +kernel
theorem c_5_24 : okB (turnI F_b_law_3_r (stL 18) (st 5 24)) = true := by decide +kernel
theorem c_7_24 : okB (turnI F_b_law_3_r (stL 18) (st 7 24)) = true := by decide +kernel
theorem c_11_24 : okB (turnI F_b_law_3_r (stL 18) (st 11 24)) = true := by decide +kernel
theorem c_13_24 : okB (turnI F_b_law_3_r (stL 18) (st 13 24)) = true := by decide +kernel
theorem c_17_24 : okB (turnI F_b_law_3_r (stL 18) (st 17 24)) = true := by decide +kernel
theorem c_19_24 : okB (turnI F_b_law_3_r (stL 18) (st 19 24)) = true := by decide +kernel
theorem c_23_24 : okB (turnI F_b_law_3_r (stL 18) (st 23 24)) = true := by decide +kernel
theorem c_1_28 : okB (turnI F_b_law_3_r (stL 18) (st 1 28)) = true := by decide +kernel
theorem c_3_28 : okB (turnI F_b_law_3_r (stL 18) (st 3 28)) = true := by decide +kernel
theorem c_5_28 : okB (turnI F_b_law_3_r (stL 18) (st 5 28)) = true := by decide +kernel
theorem c_9_28 : okB (turnI F_b_law_3_r (stL 18) (st 9 28)) = true := by decide +kernel
theorem c_11_28 : okB (turnI F_b_law_3_r (stL 18) (st 11 28)) = true := by decide +kernel
theorem c_13_28 : okB (turnI F_b_law_3_r (stL 18) (st 13 28)) = true := by decide +kernel
theorem c_15_28 : okB (turnI F_b_law_3_r (stL 18) (st 15 28)) = true := by decide +kernel
theorem c_17_28 : okB (turnI F_b_law_3_r (stL 18) (st 17 28)) = true := by decide +kernel
theorem c_19_28 : okB (turnI F_b_law_3_r (stL 18) (st 19 28)) = true := by decide +kernel
theorem c_23_28 : okB (turnI F_b_law_3_r (stL 18) (st 23 28)) = true := by decide +kernel
theorem c_25_28 : okB (turnI F_b_law_3_r (stL 18) (st 25 28)) = true := by decide +kernel
theorem c_27_28 : okB (turnI F_b_law_3_r (stL 18) (st 27 28)) = true := by decide +kernel
theorem c_1_30 : okB (turnI F_b_law_3_r (stL 18) (st 1 30)) = true := by decide +kernel
theorem c_7_30 : okB (turnI F_b_law_3_r (stL 18) (st 7 30)) = true := by decide +kernel
theorem c_11_30 : okB (turnI F_b_law_3_r (stL 18) (st 11 30)) = true := by decide +kernel
theorem c_13_30 : okB (turnI F_b_law_3_r (stL 18) (st 13 30)) = true := by decide +kernel
theorem c_17_30 : okB (turnI F_b_law_3_r (stL 18) (st 17 30)) = true := by decide +kernel
theorem c_19_30 : okB (turnI F_b_law_3_r (stL 18) (st 19 30)) = true := by decide +kernel
theorem c_23_30 : okB (turnI F_b_law_3_r (stL 18) (st 23 30)) = true := by decide +kernel
theorem c_29_30 : okB (turnI F_b_law_3_r (stL 18) (st 29 30)) = true := by decide +kernel
theorem c_1_40 : okB (turnI F_b_law_3_r (stL 18) (st 1 40)) = true := by decide +kernel
theorem c_3_40 : okB (turnI F_b_law_3_r (stL 18) (st 3 40)) = true := by decide +kernel
theorem c_7_40 : okB (turnI F_b_law_3_r (stL 18) (st 7 40)) = true := by decide +kernel
theorem c_9_40 : okB (turnI F_b_law_3_r (stL 18) (st 9 40)) = true := by decide +kernel
theorem c_11_40 : okB (turnI F_b_law_3_r (stL 18) (st 11 40)) = true := by decide +kernel
theorem c_13_40 : okB (turnI F_b_law_3_r (stL 18) (st 13 40)) = true := by decide +kernel
theorem c_17_40 : okB (turnI F_b_law_3_r (stL 18) (st 17 40)) = true := by decide +kernel
theorem c_19_40 : okB (turnI F_b_law_3_r (stL 18) (st 19 40)) = true := by decide +kernel
theorem c_21_40 : okB (turnI F_b_law_3_r (stL 18) (st 21 40)) = true := by decide +kernel
theorem c_23_40 : okB (turnI F_b_law_3_r (stL 18) (st 23 40)) = true := by decide +kernel
theorem c_27_40 : okB (turnI F_b_law_3_r (stL 18) (st 27 40)) = true := by decide +kernel
theorem c_29_40 : okB (turnI F_b_law_3_r (stL 18) (st 29 40)) = true := by decide +kernel
theorem c_31_40 : okB (turnI F_b_law_3_r (stL 18) (st 31 40)) = true := by decide +kernel
theorem c_33_40 : okB (turnI F_b_law_3_r (stL 18) (st 33 40)) = true := by decide +kernel
theorem c_37_40 : okB (turnI F_b_law_3_r (stL 18) (st 37 40)) = true := by decide +kernel
theorem c_39_40 : okB (turnI F_b_law_3_r (stL 18) (st 39 40)) = true := by decide +kernel
theorem c_1_56 : okB (turnI F_b_law_3_r (stL 18) (st 1 56)) = true := by decide +kernel
theorem c_3_56 : okB (turnI F_b_law_3_r (stL 18) (st 3 56)) = true := by decide +kernel
theorem c_5_56 : okB (turnI F_b_law_3_r (stL 18) (st 5 56)) = true := by decide +kernel
theorem c_9_56 : okB (turnI F_b_law_3_r (stL 18) (st 9 56)) = true := by decide +kernel
theorem c_11_56 : okB (turnI F_b_law_3_r (stL 18) (st 11 56)) = true := by decide +kernel
theorem c_13_56 : okB (turnI F_b_law_3_r (stL 18) (st 13 56)) = true := by decide +kernel
theorem c_15_56 : okB (turnI F_b_law_3_r (stL 18) (st 15 56)) = true := by decide +kernel
theorem c_17_56 : okB (turnI F_b_law_3_r (stL 18) (st 17 56)) = true := by decide +kernel
theorem c_19_56 : okB (turnI F_b_law_3_r (stL 18) (st 19 56)) = true := by decide +kernel
theorem c_23_56 : okB (turnI F_b_law_3_r (stL 18) (st 23 56)) = true := by decide +kernel
theorem c_25_56 : okB (turnI F_b_law_3_r (stL 18) (st 25 56)) = true := by decide +kernel
theorem c_27_56 : okB (turnI F_b_law_3_r (stL 18) (st 27 56)) = true := by decide +kernel
theorem c_29_56 : okB (turnI F_b_law_3_r (stL 18) (st 29 56)) = true := by decide +kernel
theorem c_31_56 : okB (turnI F_b_law_3_r (stL 18) (st 31 56)) = true := by decide +kernel
theorem c_33_56 : okB (turnI F_b_law_3_r (stL 18) (st 33 56)) = true := by decide +kernel
theorem c_37_56 : okB (turnI F_b_law_3_r (stL 18) (st 37 56)) = true := by decide +kernel
theorem c_39_56 : okB (turnI F_b_law_3_r (stL 18) (st 39 56)) = true := by decide +kernel
theorem c_41_56 : okB (turnI F_b_law_3_r (stL 18) (st 41 56)) = true := by decide +kernel
theorem c_43_56 : okB (turnI F_b_law_3_r (stL 18) (st 43 56)) = true := by decide +kernel
theorem c_45_56 : okB (turnI F_b_law_3_r (stL 18) (st 45 56)) = true := by decide +kernel
theorem c_47_56 : okB (turnI F_b_law_3_r (stL 18) (st 47 56)) = true := by decide +kernel
theorem c_51_56 : okB (turnI F_b_law_3_r (stL 18) (st 51 56)) = true := by decide +kernel
theorem c_53_56 : okB (turnI F_b_law_3_r (stL 18) (st 53 56)) = true := by decide +kernel
theorem c_55_56 : okB (turnI F_b_law_3_r (stL 18) (st 55 56)) = true := by decide +kernel
theorem c_1_60 : okB (turnI F_b_law_3_r (stL 18) (st 1 60)) = true := by decide +kernel
theorem c_7_60 : okB (turnI F_b_law_3_r (stL 18) (st 7 60)) = true := by decide +kernel
theorem c_11_60 : okB (turnI F_b_law_3_r (stL 18) (st 11 60)) = true := by decide +kernel
theorem c_13_60 : okB (turnI F_b_law_3_r (stL 18) (st 13 60)) = true := by decide +kernel
theorem c_17_60 : okB (turnI F_b_law_3_r (stL 18) (st 17 60)) = true := by decide +kernel
theorem c_19_60 : okB (turnI F_b_law_3_r (stL 18) (st 19 60)) = true := by decide +kernel
theorem c_23_60 : okB (turnI F_b_law_3_r (stL 18) (st 23 60)) = true := by decide +kernel
theorem c_29_60 : okB (turnI F_b_law_3_r (stL 18) (st 29 60)) = true := by decide +kernel
theorem c_31_60 : okB (turnI F_b_law_3_r (stL 18) (st 31 60)) = true := by decide +kernel
theorem c_37_60 : okB (turnI F_b_law_3_r (stL 18) (st 37 60)) = true := by decide +kernel
theorem c_41_60 : okB (turnI F_b_law_3_r (stL 18) (st 41 60)) = true := by decide +kernel
theorem c_43_60 : okB (turnI F_b_law_3_r (stL 18) (st 43 60)) = true := by decide +kernel
theorem c_47_60 : okB (turnI F_b_law_3_r (stL 18) (st 47 60)) = true := by decide +kernel
theorem c_49_60 : okB (turnI F_b_law_3_r (stL 18) (st 49 60)) = true := by decide +kernel
theorem c_53_60 : okB (turnI F_b_law_3_r (stL 18) (st 53 60)) = true := by decide +kernel
theorem c_59_60 : okB (turnI F_b_law_3_r (stL 18) (st 59 60)) = true := by decide +kernel
theorem c_1_120 : okB (turnI F_b_law_3_r (stL 18) (st 1 120)) = true := by decide +kernel
theorem c_7_120 : okB (turnI F_b_law_3_r (stL 18) (st 7 120)) = true := by decide +kernel
theorem c_11_120 : okB (turnI F_b_law_3_r (stL 18) (st 11 120)) = true := by decide +kernel
theorem c_13_120 : okB (turnI F_b_law_3_r (stL 18) (st 13 120)) = true := by decide +kernel
theorem c_17_120 : okB (turnI F_b_law_3_r (stL 18) (st 17 120)) = true := by decide +kernel
theorem c_19_120 : okB (turnI F_b_law_3_r (stL 18) (st 19 120)) = true := by decide +kernel
theorem c_23_120 : okB (turnI F_b_law_3_r (stL 18) (st 23 120)) = true := by decide +kernel
theorem c_29_120 : okB (turnI F_b_law_3_r (stL 18) (st 29 120)) = true := by decide +kernel
theorem c_31_120 : okB (turnI F_b_law_3_r (stL 18) (st 31 120)) = true := by decide +kernel
theorem c_37_120 : okB (turnI F_b_law_3_r (stL 18) (st 37 120)) = true := by decide +kernel
theorem c_41_120 : okB (turnI F_b_law_3_r (stL 18) (st 41 120)) = true := by decide +kernel
theorem c_43_120 : okB (turnI F_b_law_3_r (stL 18) (st 43 120)) = true := by decide +kernel
theorem c_47_120 : okB (turnI F_b_law_3_r (stL 18) (st 47 120)) = true := by decide +kernel
theorem c_49_120 : okB (turnI F_b_law_3_r (stL 18) (st 49 120)) = true := by decide +kernel
theorem c_53_120 : okB (turnI F_b_law_3_r (stL 18) (st 53 120)) = true := by decide +kernel
theorem c_59_120 : okB (turnI F_b_law_3_r (stL 18) (st 59 120)) = true := by decide +kernel
theorem c_61_120 : okB (turnI F_b_law_3_r (stL 18) (st 61 120)) = true := by decide +kernel
theorem c_67_120 : okB (turnI F_b_law_3_r (stL 18) (st 67 120)) = true := by decide +kernel
theorem c_71_120 : okB (turnI F_b_law_3_r (stL 18) (st 71 120)) = true := by decide +kernel
theorem c_73_120 : okB (turnI F_b_law_3_r (stL 18) (st 73 120)) = true := by decide +kernel
theorem c_77_120 : okB (turnI F_b_law_3_r (stL 18) (st 77 120)) = true := by decide +kernel
theorem c_79_120 : okB (turnI F_b_law_3_r (stL 18) (st 79 120)) = true := by decide +kernel
theorem c_83_120 : okB (turnI F_b_law_3_r (stL 18) (st 83 120)) = true := by decide +kernel
theorem c_89_120 : okB (turnI F_b_law_3_r (stL 18) (st 89 120)) = true := by decide +kernel
theorem c_91_120 : okB (turnI F_b_law_3_r (stL 18) (st 91 120)) = true := by decide +kernel
theorem c_97_120 : okB (turnI F_b_law_3_r (stL 18) (st 97 120)) = true := by decide +kernel
theorem c_101_120 : okB (turnI F_b_law_3_r (stL 18) (st 101 120)) = true := by decide +kernel
theorem c_103_120 : okB (turnI F_b_law_3_r (stL 18) (st 103 120)) = true := by decide +kernel
theorem c_107_120 : okB (turnI F_b_law_3_r (stL 18) (st 107 120)) = true := by decide +kernel
theorem c_109_120 : okB (turnI F_b_law_3_r (stL 18) (st 109 120)) = true := by decide +kernel
theorem c_113_120 : okB (turnI F_b_law_3_r (stL 18) (st 113 120)) = true := by decide +kernel
theorem c_119_120 : okB (turnI F_b_law_3_r (stL 18) (st 119 120)) = true := by decide +kernel
def SR : List Rho := [st 1 2, st 1 4, st 3 4, st 1 6, st 5 6, st 1 8, st 3 8, st 5 8, st 7 8, st 1 10, st 3 10, st 7 10, st 9 10, st 1 12, st 5 12, st 7 12, st 11 12, st 1 14, st 3 14, st 5 14, st 9 14, st 11 14, st 13 14, st 1 20, st 3 20, st 7 20, st 9 20, st 11 20, st 13 20, st 17 20, st 19 20, st 1 24, st 5 24, st 7 24, st 11 24, st 13 24, st 17 24, st 19 24, st 23 24, st 1 28, st 3 28, st 5 28, st 9 28, st 11 28, st 13 28, st 15 28, st 17 28, st 19 28, st 23 28, st 25 28, st 27 28, st 1 30, st 7 30, st 11 30, st 13 30, st 17 30, st 19 30, st 23 30, st 29 30, st 1 40, st 3 40, st 7 40, st 9 40, st 11 40, st 13 40, st 17 40, st 19 40, st 21 40, st 23 40, st 27 40, st 29 40, st 31 40, st 33 40, st 37 40, st 39 40, st 1 56, st 3 56, st 5 56, st 9 56, st 11 56, st 13 56, st 15 56, st 17 56, st 19 56, st 23 56, st 25 56, st 27 56, st 29 56, st 31 56, st 33 56, st 37 56, st 39 56, st 41 56, st 43 56, st 45 56, st 47 56, st 51 56, st 53 56, st 55 56, st 1 60, st 7 60, st 11 60, st 13 60, st 17 60, st 19 60, st 23 60, st 29 60, st 31 60, st 37 60, st 41 60, st 43 60, st 47 60, st 49 60, st 53 60, st 59 60, st 1 120, st 7 120, st 11 120, st 13 120, st 17 120, st 19 120, st 23 120, st 29 120, st 31 120, st 37 120, st 41 120, st 43 120, st 47 120, st 49 120, st 53 120, st 59 120, st 61 120, st 67 120, st 71 120, st 73 120, st 77 120, st 79 120, st 83 120, st 89 120, st 91 120, st 97 120, st 101 120, st 103 120, st 107 120, st 109 120, st 113 120, st 119 120]
theorem hSR : ∀ ρ ∈ SR, Turn b_law_3_r (stL 18) ρ := (all_cons (turn_of okF_b_law_3_r (of_okB c_1_2)) (all_cons (turn_of okF_b_law_3_r (of_okB c_1_4)) (all_cons (turn_of okF_b_law_3_r (of_okB c_3_4)) (all_cons (turn_of okF_b_law_3_r (of_okB c_1_6)) (all_cons (turn_of okF_b_law_3_r (of_okB c_5_6)) (all_cons (turn_of okF_b_law_3_r (of_okB c_1_8)) (all_cons (turn_of okF_b_law_3_r (of_okB c_3_8)) (all_cons (turn_of okF_b_law_3_r (of_okB c_5_8)) (all_cons (turn_of okF_b_law_3_r (of_okB c_7_8)) (all_cons (turn_of okF_b_law_3_r (of_okB c_1_10)) (all_cons (turn_of okF_b_law_3_r (of_okB c_3_10)) (all_cons (turn_of okF_b_law_3_r (of_okB c_7_10)) (all_cons (turn_of okF_b_law_3_r (of_okB c_9_10)) (all_cons (turn_of okF_b_law_3_r (of_okB c_1_12)) (all_cons (turn_of okF_b_law_3_r (of_okB c_5_12)) (all_cons (turn_of okF_b_law_3_r (of_okB c_7_12)) (all_cons (turn_of okF_b_law_3_r (of_okB c_11_12)) (all_cons (turn_of okF_b_law_3_r (of_okB c_1_14)) (all_cons (turn_of okF_b_law_3_r (of_okB c_3_14)) (all_cons (turn_of okF_b_law_3_r (of_okB c_5_14)) (all_cons (turn_of okF_b_law_3_r (of_okB c_9_14)) (all_cons (turn_of okF_b_law_3_r (of_okB c_11_14)) (all_cons (turn_of okF_b_law_3_r (of_okB c_13_14)) (all_cons (turn_of okF_b_law_3_r (of_okB c_1_20)) (all_cons (turn_of okF_b_law_3_r (of_okB c_3_20)) (all_cons (turn_of okF_b_law_3_r (of_okB c_7_20)) (all_cons (turn_of okF_b_law_3_r (of_okB c_9_20)) (all_cons (turn_of okF_b_law_3_r (of_okB c_11_20)) (all_cons (turn_of okF_b_law_3_r (of_okB c_13_20)) (all_cons (turn_of okF_b_law_3_r (of_okB c_17_20)) (all_cons (turn_of okF_b_law_3_r (of_okB c_19_20)) (all_cons (turn_of okF_b_law_3_r (of_okB c_1_24)) (all_cons (turn_of okF_b_law_3_r (of_okB c_5_24)) (all_cons (turn_of okF_b_law_3_r (of_okB c_7_24)) (all_cons (turn_of okF_b_law_3_r (of_okB c_11_24)) (all_cons (turn_of okF_b_law_3_r (of_okB c_13_24)) (all_cons (turn_of okF_b_law_3_r (of_okB c_17_24)) (all_cons (turn_of okF_b_law_3_r (of_okB c_19_24)) (all_cons (turn_of okF_b_law_3_r (of_okB c_23_24)) (all_cons (turn_of okF_b_law_3_r (of_okB c_1_28)) (all_cons (turn_of okF_b_law_3_r (of_okB c_3_28)) (all_cons (turn_of okF_b_law_3_r (of_okB c_5_28)) (all_cons (turn_of okF_b_law_3_r (of_okB c_9_28)) (all_cons (turn_of okF_b_law_3_r (of_okB c_11_28)) (all_cons (turn_of okF_b_law_3_r (of_okB c_13_28)) (all_cons (turn_of okF_b_law_3_r (of_okB c_15_28)) (all_cons (turn_of okF_b_law_3_r (of_okB c_17_28)) (all_cons (turn_of okF_b_law_3_r (of_okB c_19_28)) (all_cons (turn_of okF_b_law_3_r (of_okB c_23_28)) (all_cons (turn_of okF_b_law_3_r (of_okB c_25_28)) (all_cons (turn_of okF_b_law_3_r (of_okB c_27_28)) (all_cons (turn_of okF_b_law_3_r (of_okB c_1_30)) (all_cons (turn_of okF_b_law_3_r (of_okB c_7_30)) (all_cons (turn_of okF_b_law_3_r (of_okB c_11_30)) (all_cons (turn_of okF_b_law_3_r (of_okB c_13_30)) (all_cons (turn_of okF_b_law_3_r (of_okB c_17_30)) (all_cons (turn_of okF_b_law_3_r (of_okB c_19_30)) (all_cons (turn_of okF_b_law_3_r (of_okB c_23_30)) (all_cons (turn_of okF_b_law_3_r (of_okB c_29_30)) (all_cons (turn_of okF_b_law_3_r (of_okB c_1_40)) (all_cons (turn_of okF_b_law_3_r (of_okB c_3_40)) (all_cons (turn_of okF_b_law_3_r (of_okB c_7_40)) (all_cons (turn_of okF_b_law_3_r (of_okB c_9_40)) (all_cons (turn_of okF_b_law_3_r (of_okB c_11_40)) (all_cons (turn_of okF_b_law_3_r (of_okB c_13_40)) (all_cons (turn_of okF_b_law_3_r (of_okB c_17_40)) (all_cons (turn_of okF_b_law_3_r (of_okB c_19_40)) (all_cons (turn_of okF_b_law_3_r (of_okB c_21_40)) (all_cons (turn_of okF_b_law_3_r (of_okB c_23_40)) (all_cons (turn_of okF_b_law_3_r (of_okB c_27_40)) (all_cons (turn_of okF_b_law_3_r (of_okB c_29_40)) (all_cons (turn_of okF_b_law_3_r (of_okB c_31_40)) (all_cons (turn_of okF_b_law_3_r (of_okB c_33_40)) (all_cons (turn_of okF_b_law_3_r (of_okB c_37_40)) (all_cons (turn_of okF_b_law_3_r (of_okB c_39_40)) (all_cons (turn_of okF_b_law_3_r (of_okB c_1_56)) (all_cons (turn_of okF_b_law_3_r (of_okB c_3_56)) (all_cons (turn_of okF_b_law_3_r (of_okB c_5_56)) (all_cons (turn_of okF_b_law_3_r (of_okB c_9_56)) (all_cons (turn_of okF_b_law_3_r (of_okB c_11_56)) (all_cons (turn_of okF_b_law_3_r (of_okB c_13_56)) (all_cons (turn_of okF_b_law_3_r (of_okB c_15_56)) (all_cons (turn_of okF_b_law_3_r (of_okB c_17_56)) (all_cons (turn_of okF_b_law_3_r (of_okB c_19_56)) (all_cons (turn_of okF_b_law_3_r (of_okB c_23_56)) (all_cons (turn_of okF_b_law_3_r (of_okB c_25_56)) (all_cons (turn_of okF_b_law_3_r (of_okB c_27_56)) (all_cons (turn_of okF_b_law_3_r (of_okB c_29_56)) (all_cons (turn_of okF_b_law_3_r (of_okB c_31_56)) (all_cons (turn_of okF_b_law_3_r (of_okB c_33_56)) (all_cons (turn_of okF_b_law_3_r (of_okB c_37_56)) (all_cons (turn_of okF_b_law_3_r (of_okB c_39_56)) (all_cons (turn_of okF_b_law_3_r (of_okB c_41_56)) (all_cons (turn_of okF_b_law_3_r (of_okB c_43_56)) (all_cons (turn_of okF_b_law_3_r (of_okB c_45_56)) (all_cons (turn_of okF_b_law_3_r (of_okB c_47_56)) (all_cons (turn_of okF_b_law_3_r (of_okB c_51_56)) (all_cons (turn_of okF_b_law_3_r (of_okB c_53_56)) (all_cons (turn_of okF_b_law_3_r (of_okB c_55_56)) (all_cons (turn_of okF_b_law_3_r (of_okB c_1_60)) (all_cons (turn_of okF_b_law_3_r (of_okB c_7_60)) (all_cons (turn_of okF_b_law_3_r (of_okB c_11_60)) (all_cons (turn_of okF_b_law_3_r (of_okB c_13_60)) (all_cons (turn_of okF_b_law_3_r (of_okB c_17_60)) (all_cons (turn_of okF_b_law_3_r (of_okB c_19_60)) (all_cons (turn_of okF_b_law_3_r (of_okB c_23_60)) (all_cons (turn_of okF_b_law_3_r (of_okB c_29_60)) (all_cons (turn_of okF_b_law_3_r (of_okB c_31_60)) (all_cons (turn_of okF_b_law_3_r (of_okB c_37_60)) (all_cons (turn_of okF_b_law_3_r (of_okB c_41_60)) (all_cons (turn_of okF_b_law_3_r (of_okB c_43_60)) (all_cons (turn_of okF_b_law_3_r (of_okB c_47_60)) (all_cons (turn_of okF_b_law_3_r (of_okB c_49_60)) (all_cons (turn_of okF_b_law_3_r (of_okB c_53_60)) (all_cons (turn_of okF_b_law_3_r (of_okB c_59_60)) (all_cons (turn_of okF_b_law_3_r (of_okB c_1_120)) (all_cons (turn_of okF_b_law_3_r (of_okB c_7_120)) (all_cons (turn_of okF_b_law_3_r (of_okB c_11_120)) (all_cons (turn_of okF_b_law_3_r (of_okB c_13_120)) (all_cons (turn_of okF_b_law_3_r (of_okB c_17_120)) (all_cons (turn_of okF_b_law_3_r (of_okB c_19_120)) (all_cons (turn_of okF_b_law_3_r (of_okB c_23_120)) (all_cons (turn_of okF_b_law_3_r (of_okB c_29_120)) (all_cons (turn_of okF_b_law_3_r (of_okB c_31_120)) (all_cons (turn_of okF_b_law_3_r (of_okB c_37_120)) (all_cons (turn_of okF_b_law_3_r (of_okB c_41_120)) (all_cons (turn_of okF_b_law_3_r (of_okB c_43_120)) (all_cons (turn_of okF_b_law_3_r (of_okB c_47_120)) (all_cons (turn_of okF_b_law_3_r (of_okB c_49_120)) (all_cons (turn_of okF_b_law_3_r (of_okB c_53_120)) (all_cons (turn_of okF_b_law_3_r (of_okB c_59_120)) (all_cons (turn_of okF_b_law_3_r (of_okB c_61_120)) (all_cons (turn_of okF_b_law_3_r (of_okB c_67_120)) (all_cons (turn_of okF_b_law_3_r (of_okB c_71_120)) (all_cons (turn_of okF_b_law_3_r (of_okB c_73_120)) (all_cons (turn_of okF_b_law_3_r (of_okB c_77_120)) (all_cons (turn_of okF_b_law_3_r (of_okB c_79_120)) (all_cons (turn_of okF_b_law_3_r (of_okB c_83_120)) (all_cons (turn_of okF_b_law_3_r (of_okB c_89_120)) (all_cons (turn_of okF_b_law_3_r (of_okB c_91_120)) (all_cons (turn_of okF_b_law_3_r (of_okB c_97_120)) (all_cons (turn_of okF_b_law_3_r (of_okB c_101_120)) (all_cons (turn_of okF_b_law_3_r (of_okB c_103_120)) (all_cons (turn_of okF_b_law_3_r (of_okB c_107_120)) (all_cons (turn_of okF_b_law_3_r (of_okB c_109_120)) (all_cons (turn_of okF_b_law_3_r (of_okB c_113_120)) (all_cons (turn_of okF_b_law_3_r (of_okB c_119_120)) all_nil)))))))))))))))))))))))))))))))))))))))))))))))))))))))))))))))))))))))))))))))))))))))))))))))))))))))))))))))))))))))))))))))))))))))))))))))))))
theorem d_0 : okB (F_b_law_3_0 (sl 0) (inS SR) (fun _ => none) (fun _ => none) (fun _ => none)) = true := by decide +kernel
theorem d_1 : okB (F_b_law_3_0 (sl 1) (inS SR) (fun _ => none) (fun _ => none) (fun _ => none)) = true := by decide +kernel
def SL : List Rho := [sl 0, sl 1]
theorem hSL : ∀ ρ ∈ SL, Turn b_law_3 (stL 18) ρ := all_cons (turn_cut okF_b_law_3_0 SR (of_okB d_0) hSR) (all_cons (turn_cut okF_b_law_3_0 SR (of_okB d_1) hSR) all_nil)
def F_l0 : FS := zAfter [2, 3, 4, 5, 9, 10, 12, 13, 14, 15, 18] (zForT (y1 (xC (.int 2))) gn2 SL (stL 18))
theorem okF_l0 : OkS l_0 F_l0 := ok_sAfter (ok_frz0 (ok_sForT (ok_iR1 (ok_eC (.int 2))) ok_gn2 hSL))
def F_law : FS := zSeq F_l0 (zSeq F_l_1 F_l_2)
theorem okF_law : OkS g_law F_law := ok_sC okF_l0 (ok_sC okF_l_1 (ok_end okF_l_2))
theorem fin : okB (F_law (stL 18) (fun _ => none) (fun _ => none) (fun _ => none) some) = true := by decide +kernel
theorem law_ok : ∀ W : Src, ∃ W', g_law (stL 18) W = some (.rt (.bool true) W') := law_of okF_law (of_okB fin)
end
end Lw
set_option Elab.async false
set_option linter.all false
set_option maxRecDepth 100000
set_option maxHeartbeats 4000000
namespace Lw
open PySem PySem.Spec PyProof.Rows L2 Dv
def topS (i : Nat) : Stmt := PySem.Challenge.pw_pinchedround_k52_whole_least_rules.main.body.getD i (.Pass ⟨0, 0, 0, 0⟩)
abbrev sSource : Stmt := topS 58
abbrev sPick : Stmt := topS 59
theorem scSource : FnScope ["script", "mixed", "cell"] ["script"] (defScope sSource) := ⟨rfl, rfl, rfl, by decide +kernel, rfl, by decide +kernel, by decide +kernel⟩
theorem scPick : FnScope ["source", "many", "left", "mixed"] ["source", "many"] (defScope sPick) := ⟨rfl, rfl, rfl, by decide +kernel, rfl, by decide +kernel, by decide +kernel⟩
section
variable {P : Program} {w : World} {K : PySem.W.Frag} {mg : Str → Option Value} {base : Heap} {k : Nat} {f : Addr} {fd : FuncData}
theorem fg_source (F : Fun K "_law_source" "_law_source" sSource f fd) (mi : mg "int" = none) (ma : mg "abs" = none) : FG P w K mg base CX0 (k + 1) f fd ["script"] (spSrc K) := by
  refine FG.of F scSource (fun vs H Q E h => ?_) (fun cdv A out s H vs Q E hr hg h => ?_)
  · obtain ⟨a, ns, rfl, _⟩ := h
    rfl
  · obtain ⟨a, ns, rfl, hS, hlen, q⟩ := h
    refine ⟨_, PSs.nox (pss_cons (ps_set (i := 1) scSource.nd rfl (.inl rfl) pe_int)
      (pss_cons (ps_for PassesOwn.never rfl (pi_list (pv 0)) (pg_name (i := 2) scSource.nd rfl (.inl rfl))
        (pss_one (ps_set (i := 1) scSource.nd rfl (.inl rfl) (pe_op op_mod (pe_callTy call_int1 (by rfl) mi (by decide +kernel) (pa_cons (pe_op op_add (pe_op op_add (pe_op op_mul (pv 1) pe_int) (pe_op op_mul (pv 2) pe_int)) pe_int) pa_nil)) pe_int))))
      (pss_one (ps_ret (pe_disp (pps_cons pe_str (pe_revL (pe_lc (own := [("cell", 2)]) (g := gName 2) (tt := tYes) rfl scSource.nd (pi_list (pv 0)) (blkOk_by (N := ["script", "mixed", "cell"]) (sc := defScope sSource) (by decide +kernel)) (fun _ _ _ _ _ => pg_name (i := 2) scSource.nd rfl (Or.inl rfl)) (fun _ _ _ _ _ => pts_nil)
          (fun _ _ _ _ _ => pe_callB call_abs (by rfl) ma (by decide +kernel) (pa_cons (pv 2) pa_nil))))
        (pps_cons pe_str pe_int (pps_cons pe_str (pv 1) (pps_cons pe_str pe_int pps_nil)))) (by rfl) (by rfl) (fun z => by cases z) (by decide)))))), ?_⟩
    refine ⟨.ref a, rfl, a, rfl, ⟨_, hS⟩, for_list (K := K) (a := a) (xs := ns.map V.int) (fun i σ H' => H' = H ∧ ∃ m y, σ = [some (.ref a), some (.int m), y]) ⟨rfl, 11, none, rfl⟩ (fun i σ H' _ hh => hh.1 ▸ hS) ?_ ?_⟩
    · rintro i y σ H' hi ⟨rfl, m, y', rfl⟩
      obtain ⟨z, hz, rfl⟩ : ∃ z, ns[i]? = some z ∧ V.int z = y := by simpa [List.getElem?_map] using hi
      exact ⟨_, rfl, _, _, rfl, rfl, .inr (by decide), _, rfl, _, _, rfl, rfl, .inr (by decide), _, _, rfl, rfl, _, _, rfl, rfl, .inl ⟨_, rfl, _, _, rfl, rfl, (show (0 : Int) < 2147483629 by decide), rfl, _, _, rfl⟩⟩
    · rintro σ H' ⟨rfl, m, y', rfl⟩
      intro p np
      have sp1 : Same H' (upd H' p (.dK [])) := same_none np
      refine ⟨.ref a, rfl, a, rfl, ⟨_, sp1.seq hS⟩, fun D hD => ?_⟩
      have nDp : D ≠ p := fun e => by rw [e, upd_same] at hD; cases hD
      refine lc_list (K := K) (a := a) (xs := ns.map V.int) (fun i H3 => ∃ acc : List Int, H3 = upd (upd H' p (.dK [])) D (.lst (acc.map V.int)) ∧ acc.length = i) ⟨[], rfl, rfl⟩ (fun i H3 _ hh => ?_) ?_ ?_
      · obtain ⟨acc, rfl, _⟩ := hh
        exact (sp1.trans (same_none hD)).seq hS
      · rintro i x H3 hi ⟨acc, rfl, hacc⟩
        obtain ⟨z, hz, rfl⟩ : ∃ z, ns[i]? = some z ∧ V.int z = x := by simpa [List.getElem?_map] using hi
        have hil : i < ns.length := (List.getElem?_eq_some_iff.mp hz).1
        refine ⟨rfl, ?_⟩
        refine ⟨_, rfl, _, rfl, acc.map V.int, upd_same, by rw [List.length_map, hacc, sizeLine_eq]; omega, acc ++ [if z < 0 then -z else z], ?_, by simp [hacc]⟩
        rw [upd_upd, List.map_append]
        rfl
      · rintro H3 ⟨acc, rfl, hacc⟩
        refine ⟨D, acc.map V.int, rfl, SqL.of upd_same, fun q' nq => ?_⟩
        have nqp : q' ≠ p := fun e => by rw [e, upd_ne nDp.symm, upd_same] at nq; cases nq
        have nq0 : H' q' = none := by
          have nqD : q' ≠ D := fun e => by rw [e, upd_same] at nq; cases nq
          rw [upd_ne nqD, upd_ne nqp] at nq
          exact nq
        refine ⟨.int m, rfl, ?_⟩
        refine ⟨?_, [(.inr "cells", .ref q'), (.inr "left", .int 1), (.inr "mixed", .int m), (.inr "turn", .int 0)], rfl, (show 4 ≤ 15 by decide), ?_⟩
        · rw [upd_ne nqp.symm, upd_ne nDp.symm, upd_same]
        · refine q _ p q' ⟨acc.reverse, 1, m, 0⟩ (fun b o e => ?_) np nq0 (fun pp hp => ?_)
          · have b1 : b ≠ p := ne_of_none e np
            have b2 : b ≠ q' := ne_of_none e nq0
            have b3 : b ≠ D := fun z => by
              have hD2 := hD
              rw [upd_ne nDp] at hD2
              rw [← z, e] at hD2
              cases hD2
            rw [upd_ne b1, upd_ne b2, upd_ne b3, upd_ne b1]
            exact e
          · cases hp
            refine ⟨nqp.symm, ?_, ?_⟩
            · rw [upd_same]
              rfl
            · rw [upd_ne nqp, upd_same, List.map_reverse]
/-- the source's dict read -/
theorem src_get {p q : Addr} {W : Src} {H : Hp} (h : SrcAt (some (p, q)) W H) : H p = some (.dK (srcDict q W)) ∧ H q = some (.lst (W.cells.map V.int)) ∧ p ≠ q := let ⟨a, b, c⟩ := h (p, q) rfl; ⟨b, c, a⟩
theorem src_left {p q : Addr} {W : Src} {H : Hp} (h : SrcAt (some (p, q)) W H) (x : Int) : SrcAt (some (p, q)) { W with left := x } (upd H p (.dK (srcDict q { W with left := x }))) := fun pp hp => by
  cases hp
  obtain ⟨a, b, c⟩ := h (p, q) rfl
  exact ⟨a, upd_same, by rw [upd_ne a.symm]; exact c⟩
section
variable {p q : Addr} {W : Src} {H : Hp}
theorem get_of (h : SrcAt (some (p, q)) W H) {x : Str} {v : V} (e : valV (srcDict q W) (.inr x) = some v) : DGet H p (.str x) (some v) := by
  have := DGet.k (k := (Sum.inr x : Key)) (src_get h).1
  rw [e] at this
  exact this
theorem get_cells (h : SrcAt (some (p, q)) W H) : DGet H p (.str "cells") (some (.ref q)) := get_of h rfl
theorem get_left (h : SrcAt (some (p, q)) W H) : DGet H p (.str "left") (some (.int W.left)) := get_of h rfl
theorem get_mixed (h : SrcAt (some (p, q)) W H) : DGet H p (.str "mixed") (some (.int W.mixed)) := get_of h rfl
theorem get_turn (h : SrcAt (some (p, q)) W H) : DGet H p (.str "turn") (some (.int W.turn)) := get_of h rfl
theorem put_of (h : SrcAt (some (p, q)) W H) {x : Str} {v : V} {W' : Src} (e : putK (srcDict q W) (.inr x) v = srcDict q W') : DPut H p (.str x) v (upd H p (.dK (srcDict q W'))) := by
  have := DPut.k (k := (Sum.inr x : Key)) (v := v) (src_get h).1 (by show 4 < sizeLine; rw [sizeLine_eq]; omega)
  rw [e] at this
  exact this
theorem put_left (h : SrcAt (some (p, q)) W H) (i : Int) : DPut H p (.str "left") (.int i) (upd H p (.dK (srcDict q { W with left := i }))) := put_of h rfl
theorem put_mixed (h : SrcAt (some (p, q)) W H) (i : Int) : DPut H p (.str "mixed") (.int i) (upd H p (.dK (srcDict q { W with mixed := i }))) := put_of h rfl
theorem put_turn (h : SrcAt (some (p, q)) W H) (i : Int) : DPut H p (.str "turn") (.int i) (upd H p (.dK (srcDict q { W with turn := i }))) := put_of h rfl
end
/-- as the source stands, all else as it was -/
structure Sv (p q : Addr) (H0 : Hp) (W : Src) (H : Hp) : Prop where
  s : SrcAt (some (p, q)) W H
  k : ∀ a o, H0 a = some o → a ≠ p → a ≠ q → H a = some o
theorem Sv.put {p q : Addr} {H0 H : Hp} {W W' : Src} (h : Sv p q H0 W H) (hc : W'.cells = W.cells) : Sv p q H0 W' (upd H p (.dK (srcDict q W'))) := by
  obtain ⟨a, b, c⟩ := h.s (p, q) rfl
  refine ⟨fun pp hp => ?_, fun b' o e n1 n2 => by rw [upd_ne n1]; exact h.k b' o e n1 n2⟩
  cases hp
  exact ⟨a, upd_same, by rw [upd_ne a.symm, hc]; exact c⟩
theorem Sv.cells {p q : Addr} {H0 H : Hp} {W : Src} (h : Sv p q H0 W H) (cs : List Int) : Sv p q H0 { W with cells := cs } (upd H q (.lst (cs.map V.int))) := by
  obtain ⟨a, b, c⟩ := h.s (p, q) rfl
  refine ⟨fun pp hp => ?_, fun b' o e n1 n2 => by rw [upd_ne n2]; exact h.k b' o e n1 n2⟩
  cases hp
  exact ⟨a, by rw [upd_ne a]; exact b, upd_same⟩
def spPick : Sp := fun vs H Q _ => ∃ (p q : Addr) (W : Src) (many : Int), vs = [.ref p, .int many] ∧ SrcAt (some (p, q)) W H ∧ many < 1000000000 ∧ ∀ H', Sv p q H (pickF many W).2 H' → Q (.int (pickF many W).1) H'
theorem pickL_go {many : Int} {cs : List Int} {left : Int} (c : 1 < many ∧ left < 2) {x : Int} (h : cs.getLast? = some x) : pickL many cs left = pickL many cs.dropLast x := by
  rw [pickL, if_pos c]
  split
  · rename_i c' e
    rw [h] at e
    cases e
    rfl
  · rename_i e
    rw [h] at e; cases e
theorem pickL_stop {many : Int} {cs : List Int} {left : Int} (c : ¬ (1 < many ∧ left < 2) ∨ cs = []) : pickL many cs left = (cs, left) := by
  rcases c with c | rfl
  · rw [pickL, if_neg c]
  · rw [pickL]
    split
    · rfl
    · rfl
theorem fg_pick (F : Fun K "_law_pick" "_law_pick" sPick f fd) (ml : mg "len" = none) (mi : mg "int" = none) (mm : mg "max" = none) : FG P w K mg base CX0 (k + 1) f fd ["source", "many"] spPick := by
  refine FG.of F scPick (fun vs H Q E h => ?_) (fun cdv A out s H vs Q E hr hg h => ?_)
  · obtain ⟨p, q, W, many, rfl, _⟩ := h
    rfl
  · obtain ⟨p, q, W, many, rfl, hs, hm, fin⟩ := h
    have hu := hu_of hr
    refine ⟨_, PSs.nox (pss_cons (ps_while PassesOwn.never (PW.pt (pw_and (pt_cmpR op_gt (pv 1) pe_int (nomark _)) (pw_and (pt_cmpR op_lt (pe_dget hu (pv 0) pe_str (fun _ _ => rfl)) pe_int (nomark _)) (pw_and1 (pt_cmpR op_gt (pe_callB call_len_seq (by rfl) ml PySem.boot_len (pa_cons (pe_dget hu (pv 0) pe_str (fun _ _ => rfl)) pa_nil)) pe_int (nomark _))))))
        (pss_one (ps_dput hu (pv 0) pe_str (pe_bm0 PySem.F.plainAttrs_list PySem.F.slot_list_pop PySem.F.type_list_pop mt_pop (pe_dget hu (pv 0) pe_str (fun _ _ => rfl))) rfl)))
      (pss_cons (ps_set (i := 2) scPick.nd rfl (.inl rfl) (pe_dget hu (pv 0) pe_str (fun _ _ => rfl)))
      (pss_cons (ps_if (PW.pt (pw_or (pt_cmpR op_lt (pv 1) pe_int (nomark _)) (pw_or1 (pt_cmpR op_gt (pv 2) pe_int (nomark _)))))
        (pss_cons (ps_dput hu (pv 0) pe_str (pe_op op_fdiv (pv 2) (pe_callB (call_max2 rfl) (by rfl) mm (by decide +kernel) (pa_cons pe_int (pa_cons (pv 1) pa_nil)))) rfl)
          (pss_one (ps_ret (pe_op op_mod (pe_callTy call_int1 (by rfl) mi (by decide +kernel) (pa_cons (pv 2) pa_nil)) (pe_callB (call_max2 rfl) (by rfl) mm (by decide +kernel) (pa_cons pe_int (pa_cons (pv 1) pa_nil)))))))
        pss_nil)
      (pss_cons (ps_dput hu (pv 0) pe_str (pe_op op_add (pe_dget hu (pv 0) pe_str (fun _ _ => rfl)) pe_int) rfl)
      (pss_cons (ps_set (i := 3) scPick.nd rfl (.inl rfl) (pe_op op_mod (pe_callTy call_int1 (by rfl) mi (by decide +kernel) (pa_cons (pe_op op_add (pe_dget hu (pv 0) pe_str (fun _ _ => rfl)) (pe_op op_mul (pe_dget hu (pv 0) pe_str (fun _ _ => rfl)) pe_int)) pa_nil)) pe_int))
      (pss_cons (ps_set (i := 3) scPick.nd rfl (.inl rfl) (pe_op op_mod (pe_callTy call_int1 (by rfl) mi (by decide +kernel) (pa_cons (pe_op op_add (pe_op op_mul (pv 3) (pv 3)) (pe_op op_mul (pe_dget hu (pv 0) pe_str (fun _ _ => rfl)) pe_int)) pa_nil)) pe_int))
      (pss_cons (ps_dput hu (pv 0) pe_str (pv 3) rfl)
      (pss_one (ps_ret (pe_op op_mod (pe_callTy call_int1 (by rfl) mi (by decide +kernel) (pa_cons (pe_op op_fdiv (pv 3) pe_int) pa_nil)) (pv 1))))))))))), ?_⟩
    refine ⟨fun m σ H' => ∃ Wc : Src, σ = [some (.ref p), some (.int many), none, none] ∧ Sv p q H Wc H' ∧ m = Wc.cells.length ∧ pickL many Wc.cells Wc.left = pickL many W.cells W.left ∧ Wc.mixed = W.mixed ∧ Wc.turn = W.turn,
      ⟨_, W, rfl, ⟨hs, fun _ _ e _ _ => e⟩, rfl, rfl, rfl, rfl⟩, ?_⟩
    rintro m σ H1 ⟨Wc, rfl, sv, rfl, hp, hx, ht⟩
    refine ⟨_, rfl, _, _, rfl, rfl, _, rfl, ?_⟩
    by_cases c1 : 1 < many
    · rw [decide_eq_true c1]
      refine iteT ?_
      refine ⟨_, rfl, p, _, rfl, get_left sv.s, _, _, rfl, rfl, _, rfl, ?_⟩
      by_cases c2 : Wc.left < 2
      · rw [decide_eq_true c2]
        refine iteT ?_
        refine ⟨_, rfl, p, _, rfl, get_cells sv.s, q, _, rfl, .inl (SqL.of (src_get sv.s).2.1), _, _, rfl, rfl, _, rfl, ?_⟩
        by_cases c3 : (0 : Int) < ((Wc.cells.map V.int).length : Int)
        · rw [decide_eq_true c3]
          refine iteT ?_
          rw [List.length_map] at c3
          have hne : Wc.cells ≠ [] := fun e => by rw [e] at c3; simp at c3
          obtain ⟨x, hx'⟩ : ∃ x, Wc.cells.getLast? = some x := ⟨_, List.getLast?_eq_some_getLast hne⟩
          refine ⟨fun σ' H' => ∃ Wd : Src, σ' = [some (.ref p), some (.int many), none, none] ∧ Sv p q H Wd H' ∧ Wd.cells.length < Wc.cells.length ∧ pickL many Wd.cells Wd.left = pickL many W.cells W.left ∧ Wd.mixed = W.mixed ∧ Wd.turn = W.turn, fun σ' H' hN => ?_, ?_⟩
          · obtain ⟨Wd, e1, e2, e3, e4, e5, e6⟩ := hN
            exact ⟨_, e3, Wd, e1, e2, rfl, e4, e5, e6⟩
          · refine ⟨_, rfl, p, _, rfl, get_cells sv.s, .inl ⟨rfl, _, SqL.of (src_get sv.s).2.1⟩, q, _, .int x, rfl, rfl, (src_get sv.s).2.1, ?_, ?_⟩
            · rw [List.getElem?_map, List.length_map, ← List.getLast?_eq_getElem?, hx']
              rfl
            · have sv2 := sv.cells Wc.cells.dropLast
              rw [List.map_dropLast] at sv2
              refine ⟨_, rfl, p, _, rfl, put_left sv2.s x, { Wc with cells := Wc.cells.dropLast, left := x }, rfl, sv2.put rfl, ?_, ?_, hx, ht⟩
              · rw [List.length_dropLast]; omega
              · rw [← hp]
                exact (pickL_go ⟨c1, c2⟩ hx').symm
        · rw [decide_eq_false c3]
          refine iteF ?_
          rw [List.length_map] at c3
          have pl : pickL many W.cells W.left = (Wc.cells, Wc.left) := by
            rw [← hp]
            exact pickL_stop (by first | exact .inl (by omega) | (right; exact List.eq_nil_of_length_eq_zero (by omega)))
          have ev : pickF many W = (if many < 2 ∨ 1 < Wc.left then (Wc.left % (if many > 1 then many else 1), ⟨Wc.cells, Wc.left / (if many > 1 then many else 1), W.mixed, W.turn⟩) else (mix2 W / 16 % many, ⟨Wc.cells, Wc.left, mix2 W, W.turn + 1⟩)) := by
            unfold pickF
            rw [pl]
          rw [← hx, ← ht] at ev
          have hdiv : 0 < (if many > 1 then many else 1) ∧ (if many > 1 then many else 1) < 1073741824 := by split <;> omega
          -- left = source['left']
          refine ⟨_, rfl, p, _, rfl, get_left sv.s, ?_⟩
          by_cases c : many < 2 ∨ 1 < Wc.left
          · rw [if_pos c] at ev
            rw [ev] at fin
            have sv2 := sv.put (W' := { Wc with left := Wc.left / (if many > 1 then many else 1) }) rfl
            have go : _ := fin _ sv2
            refine ⟨_, rfl, _, _, rfl, rfl, _, rfl, ?_⟩
            refine ite2 (fun d1 => ?_) (fun d1 => ?_)
            · refine iteT ?_
              refine ⟨_, rfl, _, rfl, _, _, rfl, _, _, rfl, rfl, hdiv, _, rfl, p, _, rfl, put_left sv.s _, ?_⟩
              exact ⟨_, rfl, .inl ⟨_, rfl, _, rfl, _, _, rfl, _, _, rfl, rfl, hdiv.1, go⟩⟩
            · have d2 : 1 < Wc.left := c.resolve_left fun z => d1 (decide_eq_true z)
              refine ⟨_, rfl, _, _, rfl, rfl, _, rfl, ?_⟩
              rw [decide_eq_true d2]
              refine iteT ?_
              refine ⟨_, rfl, _, rfl, _, _, rfl, _, _, rfl, rfl, hdiv, _, rfl, p, _, rfl, put_left sv.s _, ?_⟩
              exact ⟨_, rfl, .inl ⟨_, rfl, _, rfl, _, _, rfl, _, _, rfl, rfl, hdiv.1, go⟩⟩
          · rw [if_neg c] at ev
            rw [ev] at fin
            have n1 : ¬ many < 2 := fun z => c (.inl z)
            have n2 : ¬ 1 < Wc.left := fun z => c (.inr z)
            refine ⟨_, rfl, _, _, rfl, rfl, _, rfl, ?_⟩
            rw [decide_eq_false n1]
            refine iteF ?_
            refine ⟨_, rfl, _, _, rfl, rfl, _, rfl, ?_⟩
            rw [decide_eq_false n2]
            refine iteF ?_
            have s1 := sv.put (W' := { Wc with turn := Wc.turn + 1 }) rfl
            have s2 := s1.put (W' := { Wc with turn := Wc.turn + 1, mixed := mix2 W }) rfl
            refine ⟨_, rfl, p, _, rfl, get_turn sv.s, _, _, rfl, rfl, _, rfl, p, _, rfl, put_turn sv.s _, ?_⟩
            refine ⟨_, rfl, p, _, rfl, get_mixed s1.s, _, rfl, p, _, rfl, get_turn s1.s, _, _, rfl, rfl, .inr (by decide), _, _, rfl, rfl, .inl ⟨_, rfl, _, _, rfl, rfl, (show (0 : Int) < 998244353 by decide), ?_⟩⟩
            have m1 : mix1 W = (Wc.mixed + (Wc.turn + 1) * 104729) % 998244353 := by rw [hx, ht]; rfl
            have m2 : mix2 W = (mix1 W * mix1 W + (Wc.turn + 1) * 17) % 2147483647 := by rw [ht]; rfl
            have b1 : 0 ≤ mix1 W ∧ mix1 W < 998244353 := ⟨Int.emod_nonneg _ (by decide), Int.emod_lt_of_pos _ (by decide)⟩
            refine ⟨_, rfl, _, rfl, mix1 W, mix1 W, by rw [m1], by rw [m1], .inl ⟨by omega, by omega⟩, _, rfl, p, _, rfl, get_turn s1.s, _, _, rfl, rfl, .inr (by decide), _, _, rfl, rfl, .inl ⟨_, rfl, _, _, rfl, rfl, (show (0 : Int) < 2147483647 by decide), ?_⟩⟩
            refine ⟨_, rfl, _, rfl, p, _, rfl, put_mixed s1.s _, ?_⟩
            refine ⟨_, rfl, _, _, rfl, rfl, ⟨by decide, by decide⟩, .inl ⟨_, rfl, _, rfl, _, _, rfl, rfl, (show 0 < many by omega), ?_⟩⟩
            rw [← m2]
            exact fin _ s2
      · rw [decide_eq_false c2]
        refine iteF ?_
        have pl : pickL many W.cells W.left = (Wc.cells, Wc.left) := by
          rw [← hp]
          exact pickL_stop (by first | exact .inl (by omega) | (right; exact List.eq_nil_of_length_eq_zero (by omega)))
        have ev : pickF many W = (if many < 2 ∨ 1 < Wc.left then (Wc.left % (if many > 1 then many else 1), ⟨Wc.cells, Wc.left / (if many > 1 then many else 1), W.mixed, W.turn⟩) else (mix2 W / 16 % many, ⟨Wc.cells, Wc.left, mix2 W, W.turn + 1⟩)) := by
          unfold pickF
          rw [pl]
        rw [← hx, ← ht] at ev
        have hdiv : 0 < (if many > 1 then many else 1) ∧ (if many > 1 then many else 1) < 1073741824 := by split <;> omega
        -- left = source['left']
        refine ⟨_, rfl, p, _, rfl, get_left sv.s, ?_⟩
        by_cases c : many < 2 ∨ 1 < Wc.left
        · rw [if_pos c] at ev
          rw [ev] at fin
          have sv2 := sv.put (W' := { Wc with left := Wc.left / (if many > 1 then many else 1) }) rfl
          have go : _ := fin _ sv2
          refine ⟨_, rfl, _, _, rfl, rfl, _, rfl, ?_⟩
          refine ite2 (fun d1 => ?_) (fun d1 => ?_)
          · refine iteT ?_
            refine ⟨_, rfl, _, rfl, _, _, rfl, _, _, rfl, rfl, hdiv, _, rfl, p, _, rfl, put_left sv.s _, ?_⟩
            exact ⟨_, rfl, .inl ⟨_, rfl, _, rfl, _, _, rfl, _, _, rfl, rfl, hdiv.1, go⟩⟩
          · have d2 : 1 < Wc.left := c.resolve_left fun z => d1 (decide_eq_true z)
            refine ⟨_, rfl, _, _, rfl, rfl, _, rfl, ?_⟩
            rw [decide_eq_true d2]
            refine iteT ?_
            refine ⟨_, rfl, _, rfl, _, _, rfl, _, _, rfl, rfl, hdiv, _, rfl, p, _, rfl, put_left sv.s _, ?_⟩
            exact ⟨_, rfl, .inl ⟨_, rfl, _, rfl, _, _, rfl, _, _, rfl, rfl, hdiv.1, go⟩⟩
        · rw [if_neg c] at ev
          rw [ev] at fin
          have n1 : ¬ many < 2 := fun z => c (.inl z)
          have n2 : ¬ 1 < Wc.left := fun z => c (.inr z)
          refine ⟨_, rfl, _, _, rfl, rfl, _, rfl, ?_⟩
          rw [decide_eq_false n1]
          refine iteF ?_
          refine ⟨_, rfl, _, _, rfl, rfl, _, rfl, ?_⟩
          rw [decide_eq_false n2]
          refine iteF ?_
          have s1 := sv.put (W' := { Wc with turn := Wc.turn + 1 }) rfl
          have s2 := s1.put (W' := { Wc with turn := Wc.turn + 1, mixed := mix2 W }) rfl
          refine ⟨_, rfl, p, _, rfl, get_turn sv.s, _, _, rfl, rfl, _, rfl, p, _, rfl, put_turn sv.s _, ?_⟩
          refine ⟨_, rfl, p, _, rfl, get_mixed s1.s, _, rfl, p, _, rfl, get_turn s1.s, _, _, rfl, rfl, .inr (by decide), _, _, rfl, rfl, .inl ⟨_, rfl, _, _, rfl, rfl, (show (0 : Int) < 998244353 by decide), ?_⟩⟩
          have m1 : mix1 W = (Wc.mixed + (Wc.turn + 1) * 104729) % 998244353 := by rw [hx, ht]; rfl
          have m2 : mix2 W = (mix1 W * mix1 W + (Wc.turn + 1) * 17) % 2147483647 := by rw [ht]; rfl
          have b1 : 0 ≤ mix1 W ∧ mix1 W < 998244353 := ⟨Int.emod_nonneg _ (by decide), Int.emod_lt_of_pos _ (by decide)⟩
          refine ⟨_, rfl, _, rfl, mix1 W, mix1 W, by rw [m1], by rw [m1], .inl ⟨by omega, by omega⟩, _, rfl, p, _, rfl, get_turn s1.s, _, _, rfl, rfl, .inr (by decide), _, _, rfl, rfl, .inl ⟨_, rfl, _, _, rfl, rfl, (show (0 : Int) < 2147483647 by decide), ?_⟩⟩
          refine ⟨_, rfl, _, rfl, p, _, rfl, put_mixed s1.s _, ?_⟩
          refine ⟨_, rfl, _, _, rfl, rfl, ⟨by decide, by decide⟩, .inl ⟨_, rfl, _, rfl, _, _, rfl, rfl, (show 0 < many by omega), ?_⟩⟩
          rw [← m2]
          exact fin _ s2
    · rw [decide_eq_false c1]
      refine iteF ?_
      have pl : pickL many W.cells W.left = (Wc.cells, Wc.left) := by
        rw [← hp]
        exact pickL_stop (by first | exact .inl (by omega) | (right; exact List.eq_nil_of_length_eq_zero (by omega)))
      have ev : pickF many W = (if many < 2 ∨ 1 < Wc.left then (Wc.left % (if many > 1 then many else 1), ⟨Wc.cells, Wc.left / (if many > 1 then many else 1), W.mixed, W.turn⟩) else (mix2 W / 16 % many, ⟨Wc.cells, Wc.left, mix2 W, W.turn + 1⟩)) := by
        unfold pickF
        rw [pl]
      rw [← hx, ← ht] at ev
      have hdiv : 0 < (if many > 1 then many else 1) ∧ (if many > 1 then many else 1) < 1073741824 := by split <;> omega
      -- left = source['left']
      refine ⟨_, rfl, p, _, rfl, get_left sv.s, ?_⟩
      by_cases c : many < 2 ∨ 1 < Wc.left
      · rw [if_pos c] at ev
        rw [ev] at fin
        have sv2 := sv.put (W' := { Wc with left := Wc.left / (if many > 1 then many else 1) }) rfl
        have go : _ := fin _ sv2
        refine ⟨_, rfl, _, _, rfl, rfl, _, rfl, ?_⟩
        refine ite2 (fun d1 => ?_) (fun d1 => ?_)
        · refine iteT ?_
          refine ⟨_, rfl, _, rfl, _, _, rfl, _, _, rfl, rfl, hdiv, _, rfl, p, _, rfl, put_left sv.s _, ?_⟩
          exact ⟨_, rfl, .inl ⟨_, rfl, _, rfl, _, _, rfl, _, _, rfl, rfl, hdiv.1, go⟩⟩
        · have d2 : 1 < Wc.left := c.resolve_left fun z => d1 (decide_eq_true z)
          refine ⟨_, rfl, _, _, rfl, rfl, _, rfl, ?_⟩
          rw [decide_eq_true d2]
          refine iteT ?_
          refine ⟨_, rfl, _, rfl, _, _, rfl, _, _, rfl, rfl, hdiv, _, rfl, p, _, rfl, put_left sv.s _, ?_⟩
          exact ⟨_, rfl, .inl ⟨_, rfl, _, rfl, _, _, rfl, _, _, rfl, rfl, hdiv.1, go⟩⟩
      · rw [if_neg c] at ev
        rw [ev] at fin
        have n1 : ¬ many < 2 := fun z => c (.inl z)
        have n2 : ¬ 1 < Wc.left := fun z => c (.inr z)
        refine ⟨_, rfl, _, _, rfl, rfl, _, rfl, ?_⟩
        rw [decide_eq_false n1]
        refine iteF ?_
        refine ⟨_, rfl, _, _, rfl, rfl, _, rfl, ?_⟩
        rw [decide_eq_false n2]
        refine iteF ?_
        have s1 := sv.put (W' := { Wc with turn := Wc.turn + 1 }) rfl
        have s2 := s1.put (W' := { Wc with turn := Wc.turn + 1, mixed := mix2 W }) rfl
        refine ⟨_, rfl, p, _, rfl, get_turn sv.s, _, _, rfl, rfl, _, rfl, p, _, rfl, put_turn sv.s _, ?_⟩
        refine ⟨_, rfl, p, _, rfl, get_mixed s1.s, _, rfl, p, _, rfl, get_turn s1.s, _, _, rfl, rfl, .inr (by decide), _, _, rfl, rfl, .inl ⟨_, rfl, _, _, rfl, rfl, (show (0 : Int) < 998244353 by decide), ?_⟩⟩
        have m1 : mix1 W = (Wc.mixed + (Wc.turn + 1) * 104729) % 998244353 := by rw [hx, ht]; rfl
        have m2 : mix2 W = (mix1 W * mix1 W + (Wc.turn + 1) * 17) % 2147483647 := by rw [ht]; rfl
        have b1 : 0 ≤ mix1 W ∧ mix1 W < 998244353 := ⟨Int.emod_nonneg _ (by decide), Int.emod_lt_of_pos _ (by decide)⟩
        refine ⟨_, rfl, _, rfl, mix1 W, mix1 W, by rw [m1], by rw [m1], .inl ⟨by omega, by omega⟩, _, rfl, p, _, rfl, get_turn s1.s, _, _, rfl, rfl, .inr (by decide), _, _, rfl, rfl, .inl ⟨_, rfl, _, _, rfl, rfl, (show (0 : Int) < 2147483647 by decide), ?_⟩⟩
        refine ⟨_, rfl, _, rfl, p, _, rfl, put_mixed s1.s _, ?_⟩
        refine ⟨_, rfl, _, _, rfl, rfl, ⟨by decide, by decide⟩, .inl ⟨_, rfl, _, rfl, _, _, rfl, rfl, (show 0 < many by omega), ?_⟩⟩
        rw [← m2]
        exact fin _ s2
end

def gm_fraction_low : Gm := ⟨["top", "bottom", "rest", "part"], defScope (topS 7), defScope (topS 7), [], [], [("gcd", "math.gcd")], "source", 1000, []⟩
theorem sc_fraction_low : FnScope gm_fraction_low.N ["top", "bottom"] (defScope (topS 7)) := ⟨rfl, rfl, rfl, by decide +kernel, rfl, by decide +kernel, by decide +kernel⟩
theorem d_fraction_low : den gm_fraction_low (topS 7) = some g_fraction_low := by kernel_rfl!
def gm_moved : Gm := ⟨["point"], defScope (topS 8), defScope (topS 8), [("fraction_low", 2, φ_fraction_low)], [], [], "source", 1000, []⟩
theorem sc_moved : FnScope gm_moved.N ["point"] (defScope (topS 8)) := ⟨rfl, rfl, rfl, by decide +kernel, rfl, by decide +kernel, by decide +kernel⟩
theorem d_moved : den gm_moved (topS 8) = some g_moved := by kernel_rfl!
def gm_opposite : Gm := ⟨["point"], defScope (topS 9), defScope (topS 9), [("fraction_low", 2, φ_fraction_low)], [], [], "source", 1000, []⟩
theorem sc_opposite : FnScope gm_opposite.N ["point"] (defScope (topS 9)) := ⟨rfl, rfl, rfl, by decide +kernel, rfl, by decide +kernel, by decide +kernel⟩
theorem d_opposite : den gm_opposite (topS 9) = some g_opposite := by kernel_rfl!
def gm_way_told : Gm := ⟨["point", "odd", "ahead", "power", "many"], defScope (topS 10), defScope (topS 10), [], [("MOST_LETTERS_roundpoints", (.int 400)), ("LONG_roundpoints", (.int 0))], [], "source", 1000, []⟩
theorem sc_way_told : FnScope gm_way_told.N ["point"] (defScope (topS 10)) := ⟨rfl, rfl, rfl, by decide +kernel, rfl, by decide +kernel, by decide +kernel⟩
theorem d_way_told : den gm_way_told (topS 10) = some g_way_told := by kernel_rfl!
def gm_is_between : Gm := ⟨["one", "point", "other", "a", "b", "c", "d", "e", "f", "far", "near"], defScope (topS 11), defScope (topS 11), [], [], [], "source", 1000, []⟩
theorem sc_is_between : FnScope gm_is_between.N ["one", "point", "other"] (defScope (topS 11)) := ⟨rfl, rfl, rfl, by decide +kernel, rfl, by decide +kernel, by decide +kernel⟩
theorem d_is_between : den gm_is_between (topS 11) = some g_is_between := by kernel_rfl!
def gm_round_root : Gm := ⟨["letters", "many", "length"], defScope (topS 15), defScope (topS 15), [], [], [], "source", 1000, []⟩
theorem sc_round_root : FnScope gm_round_root.N ["letters"] (defScope (topS 15)) := ⟨rfl, rfl, rfl, by decide +kernel, rfl, by decide +kernel, by decide +kernel⟩
theorem d_round_root : den gm_round_root (topS 15) = some g_round_root := by kernel_rfl!
def gm_row_low : Gm := ⟨["ahead", "letters"], defScope (topS 16), defScope (topS 16), [("round_root", 1, φ_round_root)], [], [], "source", 1000, []⟩
theorem sc_row_low : FnScope gm_row_low.N ["ahead", "letters"] (defScope (topS 16)) := ⟨rfl, rfl, rfl, by decide +kernel, rfl, by decide +kernel, by decide +kernel⟩
theorem d_row_low : den gm_row_low (topS 16) = some g_row_low := by kernel_rfl!
def gm_not_long_rows : Gm := ⟨["row"], defScope (topS 17), defScope (topS 17), [], [("MOST_LETTERS_rows", (.int 400)), ("LONG_rows", (.int 0))], [], "source", 1000, []⟩
theorem sc_not_long_rows : FnScope gm_not_long_rows.N ["row"] (defScope (topS 17)) := ⟨rfl, rfl, rfl, by decide +kernel, rfl, by decide +kernel, by decide +kernel⟩
theorem d_not_long_rows : den gm_not_long_rows (topS 17) = some g_not_long_rows := by kernel_rfl!
def gm_row_letters : Gm := ⟨["row", "many", "ahead", "letters", "times"], defScope (topS 19), defScope (topS 19), [], [], [], "source", 1000, []⟩
theorem sc_row_letters : FnScope gm_row_letters.N ["row", "many"] (defScope (topS 19)) := ⟨rfl, rfl, rfl, by decide +kernel, rfl, by decide +kernel, by decide +kernel⟩
theorem d_row_letters : den gm_row_letters (topS 19) = some g_row_letters := by kernel_rfl!
def gm_put_ahead : Gm := ⟨["letters", "row"], defScope (topS 20), defScope (topS 20), [("row_low", 2, φ_row_low), ("not_long_rows", 1, φ_not_long_rows)], [], [], "source", 1000, []⟩
theorem sc_put_ahead : FnScope gm_put_ahead.N ["letters", "row"] (defScope (topS 20)) := ⟨rfl, rfl, rfl, by decide +kernel, rfl, by decide +kernel, by decide +kernel⟩
theorem d_put_ahead : den gm_put_ahead (topS 20) = some g_put_ahead := by kernel_rfl!
def gm_first_unlike : Gm := ⟨["one", "other", "many", "first", "second", "k"], defScope (topS 21), defScope (topS 21), [("row_letters", 2, φ_row_letters)], [], [], "source", 1000, []⟩
theorem sc_first_unlike : FnScope gm_first_unlike.N ["one", "other"] (defScope (topS 21)) := ⟨rfl, rfl, rfl, by decide +kernel, rfl, by decide +kernel, by decide +kernel⟩
theorem d_first_unlike : den gm_first_unlike (topS 21) = some g_first_unlike := by kernel_rfl!
def gm_rows_order : Gm := ⟨["one", "other", "at"], defScope (topS 22), defScope (topS 22), [("row_letters", 2, φ_row_letters), ("first_unlike", 2, φ_first_unlike)], [], [], "source", 1000, []⟩
theorem sc_rows_order : FnScope gm_rows_order.N ["one", "other"] (defScope (topS 22)) := ⟨rfl, rfl, rfl, by decide +kernel, rfl, by decide +kernel, by decide +kernel⟩
theorem d_rows_order : den gm_rows_order (topS 22) = some g_rows_order := by kernel_rfl!
def gm_cut_told : Gm := ⟨["rule", "one"], defScope (topS 25), defScope (topS 25), [("fraction_low", 2, φ_fraction_low), ("opposite", 1, φ_opposite)], [], [], "source", 1000, []⟩
theorem sc_cut_told : FnScope gm_cut_told.N ["rule"] (defScope (topS 25)) := ⟨rfl, rfl, rfl, by decide +kernel, rfl, by decide +kernel, by decide +kernel⟩
theorem d_cut_told : den gm_cut_told (topS 25) = some g_cut_told := by kernel_rfl!
def gm_half_of : Gm := ⟨["rule", "point", "one", "other"], defScope (topS 26), defScope (topS 26), [("is_between", 3, φ_is_between), ("cut_told", 1, φ_cut_told)], [("ON_CUT", (.int 2))], [], "source", 1000, []⟩
theorem sc_half_of : FnScope gm_half_of.N ["rule", "point"] (defScope (topS 26)) := ⟨rfl, rfl, rfl, by decide +kernel, rfl, by decide +kernel, by decide +kernel⟩
theorem d_half_of : den gm_half_of (topS 26) = some g_half_of := by kernel_rfl!
def gm_row_told : Gm := ⟨["rule", "point", "ahead", "many", "letters", "here", "lap"], defScope (topS 27), defScope (topS 27), [("moved", 1, φ_moved), ("way_told", 1, φ_way_told), ("row_low", 2, φ_row_low), ("half_of", 2, φ_half_of)], [], [], "source", 1000, []⟩
theorem sc_row_told : FnScope gm_row_told.N ["rule", "point"] (defScope (topS 27)) := ⟨rfl, rfl, rfl, by decide +kernel, rfl, by decide +kernel, by decide +kernel⟩
theorem d_row_told : den gm_row_told (topS 27) = some g_row_told := by kernel_rfl!
def gm_rule_row : Gm := ⟨["rule"], defScope (topS 28), defScope (topS 28), [("row_told", 2, φ_row_told)], [], [], "source", 1000, []⟩
theorem sc_rule_row : FnScope gm_rule_row.N ["rule"] (defScope (topS 28)) := ⟨rfl, rfl, rfl, by decide +kernel, rfl, by decide +kernel, by decide +kernel⟩
theorem d_rule_row : den gm_rule_row (topS 28) = some g_rule_row := by kernel_rfl!
def gm_both_back : Gm := ⟨["point", "one"], defScope (topS 30), defScope (topS 30), [("fraction_low", 2, φ_fraction_low), ("opposite", 1, φ_opposite)], [], [], "source", 1000, []⟩
theorem sc_both_back : FnScope gm_both_back.N ["point"] (defScope (topS 30)) := ⟨rfl, rfl, rfl, by decide +kernel, rfl, by decide +kernel, by decide +kernel⟩
theorem d_both_back : den gm_both_back (topS 30) = some g_both_back := by kernel_rfl!
def gm_point_back : Gm := ⟨["rule", "point", "letter", "one", "other"], defScope (topS 31), defScope (topS 31), [("half_of", 2, φ_half_of), ("both_back", 1, φ_both_back)], [], [], "source", 1000, []⟩
theorem sc_point_back : FnScope gm_point_back.N ["rule", "point", "letter"] (defScope (topS 31)) := ⟨rfl, rfl, rfl, by decide +kernel, rfl, by decide +kernel, by decide +kernel⟩
theorem d_point_back : den gm_point_back (topS 31) = some g_point_back := by kernel_rfl!
def gm_not_long_lists : Gm := ⟨["point"], defScope (topS 36), defScope (topS 36), [], [("MOST_FIGURES", (.int 300)), ("LONG_lists", (.int 1))], [], "source", 1000, []⟩
theorem sc_not_long_lists : FnScope gm_not_long_lists.N ["point"] (defScope (topS 36)) := ⟨rfl, rfl, rfl, by decide +kernel, rfl, by decide +kernel, by decide +kernel⟩
theorem d_not_long_lists : den gm_not_long_lists (topS 36) = some g_not_long_lists := by kernel_rfl!
def gm_end_back : Gm := ⟨["rule", "point", "letter", "is_end", "one", "other"], defScope (topS 38), defScope (topS 38), [("cut_told", 1, φ_cut_told), ("point_back", 3, φ_point_back)], [], [], "source", 1000, []⟩
theorem sc_end_back : FnScope gm_end_back.N ["rule", "point", "letter", "is_end"] (defScope (topS 38)) := ⟨rfl, rfl, rfl, by decide +kernel, rfl, by decide +kernel, by decide +kernel⟩
theorem d_end_back : den gm_end_back (topS 38) = some g_end_back := by kernel_rfl!
def gm_arc_parted : Gm := ⟨["rule", "arc"], defScope (topS 39), defScope (topS 39), [("is_between", 3, φ_is_between)], [], [], "source", 1000, []⟩
theorem sc_arc_parted : FnScope gm_arc_parted.N ["rule", "arc"] (defScope (topS 39)) := ⟨rfl, rfl, rfl, by decide +kernel, rfl, by decide +kernel, by decide +kernel⟩
theorem d_arc_parted : den gm_arc_parted (topS 39) = some g_arc_parted := by kernel_rfl!
def gm_arcs_back : Gm := ⟨["rule", "arcs", "letter", "found", "arc", "one", "other"], defScope (topS 40), defScope (topS 40), [("end_back", 4, φ_end_back), ("arc_parted", 2, φ_arc_parted)], [], [], "source", 1000, []⟩
theorem sc_arcs_back : FnScope gm_arcs_back.N ["rule", "arcs", "letter"] (defScope (topS 40)) := ⟨rfl, rfl, rfl, by decide +kernel, rfl, by decide +kernel, by decide +kernel⟩
theorem d_arcs_back : den gm_arcs_back (topS 40) = some g_arcs_back := by kernel_rfl!
def gm_arcs_led : Gm := ⟨["rule", "arcs", "letters", "letter"], defScope (topS 41), defScope (topS 41), [("arcs_back", 3, φ_arcs_back)], [], [], "source", 1000, []⟩
theorem sc_arcs_led : FnScope gm_arcs_led.N ["rule", "arcs", "letters"] (defScope (topS 41)) := ⟨rfl, rfl, rfl, by decide +kernel, rfl, by decide +kernel, by decide +kernel⟩
theorem d_arcs_led : den gm_arcs_led (topS 41) = some g_arcs_led := by kernel_rfl!
def gm_steady_arcs : Gm := ⟨["rule", "letters", "arcs", "late"], defScope (topS 42), defScope (topS 42), [("arcs_led", 3, φ_arcs_led)], [], [], "source", 1000, []⟩
theorem sc_steady_arcs : FnScope gm_steady_arcs.N ["rule", "letters"] (defScope (topS 42)) := ⟨rfl, rfl, rfl, by decide +kernel, rfl, by decide +kernel, by decide +kernel⟩
theorem d_steady_arcs : den gm_steady_arcs (topS 42) = some g_steady_arcs := by kernel_rfl!
def gm_lifted : Gm := ⟨["rule", "top", "bottom"], defScope (topS 43), defScope (topS 43), [], [], [], "source", 1000, []⟩
theorem sc_lifted : FnScope gm_lifted.N ["rule", "top", "bottom"] (defScope (topS 43)) := ⟨rfl, rfl, rfl, by decide +kernel, rfl, by decide +kernel, by decide +kernel⟩
theorem d_lifted : den gm_lifted (topS 43) = some g_lifted := by kernel_rfl!
def gm_arc_holding : Gm := ⟨["arcs", "point", "k", "one", "other"], defScope (topS 44), defScope (topS 44), [("is_between", 3, φ_is_between)], [], [], "source", 1000, []⟩
theorem sc_arc_holding : FnScope gm_arc_holding.N ["arcs", "point"] (defScope (topS 44)) := ⟨rfl, rfl, rfl, by decide +kernel, rfl, by decide +kernel, by decide +kernel⟩
theorem d_arc_holding : den gm_arc_holding (topS 44) = some g_arc_holding := by kernel_rfl!
def gm_rounds_of : Gm := ⟨["arcs", "images", "image", "to", "found", "k", "here", "many"], defScope (topS 45), defScope (topS 45), [("arc_holding", 2, φ_arc_holding)], [], [], "source", 1000, []⟩
theorem sc_rounds_of : FnScope gm_rounds_of.N ["arcs", "images"] (defScope (topS 45)) := ⟨rfl, rfl, rfl, by decide +kernel, rfl, by decide +kernel, by decide +kernel⟩
theorem d_rounds_of : den gm_rounds_of (topS 45) = some g_rounds_of := by kernel_rfl!
def gm_point_in : Gm := ⟨["rule", "arc", "letters", "first", "top", "bottom", "letter", "power"], defScope (topS 46), defScope (topS 46), [("fraction_low", 2, φ_fraction_low), ("lifted", 3, φ_lifted)], [], [], "source", 1000, []⟩
theorem sc_point_in : FnScope gm_point_in.N ["rule", "arc", "letters"] (defScope (topS 46)) := ⟨rfl, rfl, rfl, by decide +kernel, rfl, by decide +kernel, by decide +kernel⟩
theorem d_point_in : den gm_point_in (topS 46) = some g_point_in := by kernel_rfl!
def gm_round_points : Gm := ⟨["rule", "letters", "arcs", "images", "found", "arc", "many"], defScope (topS 47), defScope (topS 47), [("steady_arcs", 2, φ_steady_arcs), ("rounds_of", 2, φ_rounds_of), ("point_in", 3, φ_point_in)], [("MOST_MOVES", (.int 990)), ("LONG_lists", (.int 1))], [], "source", 1000, []⟩
theorem sc_round_points : FnScope gm_round_points.N ["rule", "letters"] (defScope (topS 47)) := ⟨rfl, rfl, rfl, by decide +kernel, rfl, by decide +kernel, by decide +kernel⟩
theorem d_round_points : den gm_round_points (topS 47) = some g_round_points := by kernel_rfl!
def gm_halves_of : Gm := ⟨["points", "found", "point"], defScope (topS 48), defScope (topS 48), [("both_back", 1, φ_both_back)], [], [], "source", 1000, []⟩
theorem sc_halves_of : FnScope gm_halves_of.N ["points"] (defScope (topS 48)) := ⟨rfl, rfl, rfl, by decide +kernel, rfl, by decide +kernel, by decide +kernel⟩
theorem d_halves_of : den gm_halves_of (topS 48) = some g_halves_of := by kernel_rfl!
def gm_greatest_part : Gm := ⟨["one", "other"], defScope (topS 50), defScope (topS 50), [], [], [], "source", 1000, []⟩
theorem sc_greatest_part : FnScope gm_greatest_part.N ["one", "other"] (defScope (topS 50)) := ⟨rfl, rfl, rfl, by decide +kernel, rfl, by decide +kernel, by decide +kernel⟩
theorem d_greatest_part : den gm_greatest_part (topS 50) = some g_greatest_part := by kernel_rfl!
def gm_ascending : Gm := ⟨["points", "point", "whole", "one", "number", "late"], defScope (topS 49), defScope (topS 49), [("greatest_part", 2, φ_greatest_part)], [], [], "source", 1000, []⟩
theorem sc_ascending : FnScope gm_ascending.N ["points"] (defScope (topS 49)) := ⟨rfl, rfl, rfl, by decide +kernel, rfl, by decide +kernel, by decide +kernel⟩
theorem d_ascending : den gm_ascending (topS 49) = some g_ascending := by kernel_rfl!
def gm_points_told : Gm := ⟨["rule", "row", "ahead", "again", "own", "tail", "points", "letter", "point"], defScope (topS 51), defScope (topS 51), [("row_low", 2, φ_row_low), ("put_ahead", 2, φ_put_ahead), ("rule_row", 1, φ_rule_row), ("point_back", 3, φ_point_back), ("not_long_lists", 1, φ_not_long_lists), ("round_points", 2, φ_round_points), ("halves_of", 1, φ_halves_of), ("ascending", 1, φ_ascending)], [], [], "source", 1000, []⟩
theorem sc_points_told : FnScope gm_points_told.N ["rule", "row"] (defScope (topS 51)) := ⟨rfl, rfl, rfl, by decide +kernel, rfl, by decide +kernel, by decide +kernel⟩
theorem d_points_told : den gm_points_told (topS 51) = some g_points_told := by kernel_rfl!
def gm_rules_alike : Gm := ⟨["one", "other"], defScope (topS 53), defScope (topS 53), [("row_told", 2, φ_row_told), ("rule_row", 1, φ_rule_row)], [], [], "source", 1000, []⟩
theorem sc_rules_alike : FnScope gm_rules_alike.N ["one", "other"] (defScope (topS 53)) := ⟨rfl, rfl, rfl, by decide +kernel, rfl, by decide +kernel, by decide +kernel⟩
theorem d_rules_alike : den gm_rules_alike (topS 53) = some g_rules_alike := by kernel_rfl!
def gm_least_rule : Gm := ⟨["rule"], defScope (topS 54), defScope (topS 54), [("rule_row", 1, φ_rule_row), ("points_told", 2, φ_points_told)], [], [], "source", 1000, []⟩
theorem sc_least_rule : FnScope gm_least_rule.N ["rule"] (defScope (topS 54)) := ⟨rfl, rfl, rfl, by decide +kernel, rfl, by decide +kernel, by decide +kernel⟩
theorem d_least_rule : den gm_least_rule (topS 54) = some g_least_rule := by kernel_rfl!
def gm_trees_alike : Gm := ⟨["one", "other"], defScope (topS 55), defScope (topS 55), [("rule_row", 1, φ_rule_row)], [], [], "source", 1000, []⟩
theorem sc_trees_alike : FnScope gm_trees_alike.N ["one", "other"] (defScope (topS 55)) := ⟨rfl, rfl, rfl, by decide +kernel, rfl, by decide +kernel, by decide +kernel⟩
theorem d_trees_alike : den gm_trees_alike (topS 55) = some g_trees_alike := by kernel_rfl!
def gm_rule_mirrored : Gm := ⟨["rule"], defScope (topS 56), defScope (topS 56), [], [], [], "source", 1000, []⟩
theorem sc_rule_mirrored : FnScope gm_rule_mirrored.N ["rule"] (defScope (topS 56)) := ⟨rfl, rfl, rfl, by decide +kernel, rfl, by decide +kernel, by decide +kernel⟩
theorem d_rule_mirrored : den gm_rule_mirrored (topS 56) = some g_rule_mirrored := by kernel_rfl!
def gm_law_of : Gm := ⟨["source", "some"], defScope (topS 60), defScope (topS 60), [("_law_pick", 2, cPick)], [], [], "source", 1000, []⟩
theorem sc_law_of : FnScope gm_law_of.N ["source", "some"] (defScope (topS 60)) := ⟨rfl, rfl, rfl, by decide +kernel, rfl, by decide +kernel, by decide +kernel⟩
theorem d_law_of : den gm_law_of (topS 60) = some g_law_of := by kernel_rfl!
def gm_law_round : Gm := ⟨["letters", "many"], defScope (topS 61), defScope (topS 61), [], [], [], "source", 1000, []⟩
theorem sc_law_round : FnScope gm_law_round.N ["letters"] (defScope (topS 61)) := ⟨rfl, rfl, rfl, by decide +kernel, rfl, by decide +kernel, by decide +kernel⟩
theorem d_law_round : den gm_law_round (topS 61) = some g_law_round := by kernel_rfl!
def gm_law_low : Gm := ⟨["ahead", "letters"], defScope (topS 62), defScope (topS 62), [("_law_round", 1, φ_law_round)], [], [], "source", 1000, []⟩
theorem sc_law_low : FnScope gm_law_low.N ["ahead", "letters"] (defScope (topS 62)) := ⟨rfl, rfl, rfl, by decide +kernel, rfl, by decide +kernel, by decide +kernel⟩
theorem d_law_low : den gm_law_low (topS 62) = some g_law_low := by kernel_rfl!
def gm_law_part : Gm := ⟨["one", "other"], defScope (topS 63), defScope (topS 63), [], [], [], "source", 1000, []⟩
theorem sc_law_part : FnScope gm_law_part.N ["one", "other"] (defScope (topS 63)) := ⟨rfl, rfl, rfl, by decide +kernel, rfl, by decide +kernel, by decide +kernel⟩
theorem d_law_part : den gm_law_part (topS 63) = some g_law_part := by kernel_rfl!
def gm_law_rule : Gm := ⟨["source", "odd", "bottom", "top"], defScope (topS 64), defScope (topS 64), [("_law_of", 2, φ_law_of), ("_law_part", 2, φ_law_part)], [], [], "source", 1000, []⟩
theorem sc_law_rule : FnScope gm_law_rule.N ["source"] (defScope (topS 64)) := ⟨rfl, rfl, rfl, by decide +kernel, rfl, by decide +kernel, by decide +kernel⟩
theorem d_law_rule : den gm_law_rule (topS 64) = some g_law_rule := by kernel_rfl!
def gm_law_half : Gm := ⟨["rule", "point", "a", "b", "p", "q", "far"], defScope (topS 65), defScope (topS 65), [], [], [], "source", 1000, []⟩
theorem sc_law_half : FnScope gm_law_half.N ["rule", "point"] (defScope (topS 65)) := ⟨rfl, rfl, rfl, by decide +kernel, rfl, by decide +kernel, by decide +kernel⟩
theorem d_law_half : den gm_law_half (topS 65) = some g_law_half := by kernel_rfl!
def gm_law_moved : Gm := ⟨["point", "p", "q"], defScope (topS 66), defScope (topS 66), [], [], [], "source", 1000, []⟩
theorem sc_law_moved : FnScope gm_law_moved.N ["point"] (defScope (topS 66)) := ⟨rfl, rfl, rfl, by decide +kernel, rfl, by decide +kernel, by decide +kernel⟩
theorem d_law_moved : den gm_law_moved (topS 66) = some g_law_moved := by kernel_rfl!
def gm_law_point_row : Gm := ⟨["rule", "point", "letters", "met", "k"], defScope (topS 67), defScope (topS 67), [("_law_low", 2, φ_law_low), ("_law_half", 2, φ_law_half), ("_law_moved", 1, φ_law_moved)], [], [], "source", 1000, []⟩
theorem sc_law_point_row : FnScope gm_law_point_row.N ["rule", "point"] (defScope (topS 67)) := ⟨rfl, rfl, rfl, by decide +kernel, rfl, by decide +kernel, by decide +kernel⟩
theorem d_law_point_row : den gm_law_point_row (topS 67) = some g_law_point_row := by kernel_rfl!
def gm_law_below : Gm := ⟨["one", "other"], defScope (topS 68), defScope (topS 68), [], [], [], "source", 1000, []⟩
theorem sc_law_below : FnScope gm_law_below.N ["one", "other"] (defScope (topS 68)) := ⟨rfl, rfl, rfl, by decide +kernel, rfl, by decide +kernel, by decide +kernel⟩
theorem d_law_below : den gm_law_below (topS 68) = some g_law_below := by kernel_rfl!
def gm_law : Gm := ⟨["script", "source", "lap", "rule", "n", "points", "point", "one", "late", "least", "bottom", "top", "some", "turn", "other", "back", "p", "q", "turned", "told"], defScope (topS 69), defScope (topS 69), [("rows_order", 2, φ_rows_order), ("points_told", 2, φ_points_told), ("rules_alike", 2, φ_rules_alike), ("least_rule", 1, φ_least_rule), ("trees_alike", 2, φ_trees_alike), ("rule_mirrored", 1, φ_rule_mirrored), ("_law_of", 2, φ_law_of), ("_law_part", 2, φ_law_part), ("_law_rule", 1, φ_law_rule), ("_law_point_row", 2, φ_law_point_row), ("_law_below", 2, φ_law_below)], [], [], "source", 1000, [(248, [2, 3, 4, 5, 9, 10, 12, 13, 14, 15, 18]), (249, [2]), (259, [6, 9]), (262, [6]), (265, [10]), (266, [8, 12, 13, 14]), (267, [13]), (273, [8, 14]), (278, [3]), (280, [5]), (281, [4, 15, 18])]⟩
theorem sc_law : FnScope gm_law.N ["script"] (defScope (topS 69)) := ⟨rfl, rfl, rfl, by decide +kernel, rfl, by decide +kernel, by decide +kernel⟩
theorem d_law : cSs (cS (recs 40) gm_law 40) (restOf (topS 69)) = some g_law := by kernel_rfl!
theorem all_mk {l : PySem.W.OpenLaw} {w : World} {K : PySem.W.Frag} {h : Heap} {mg : Str → Option Value} {fa : Addr} (X : K.In h) (G : h.Ns mainGlobals mg) (hfa : mg "law" = some (.ref fa))
    (lawOk : ∀ W : Src, ∃ W', g_law (stL 18) W = some (.rt (.bool true) W'))
    {f7 : Addr} {oc7 : Value} {od7 an7 : Option Addr} {sl7 : Array (Option Value)} {kV7 dc7 pm7 cd7 ct7 : Value} (a7 : PySem.W.nsIn K mainGlobals "fraction_low" = some (some (.ref f7))) (l7 : K.lookup f7 = some ⟨oc7, od7, .func (PySem.W.fnOf "fraction_low" "fraction_low" (defArgs (topS 7)) (defBody (topS 7)) (defScope (topS 7)) .none kV7 dc7 pm7 an7 cd7 ct7), sl7⟩) (c7 : PySem.W.codeIn K cd7 "fraction_low" = true) (k7 : PySem.W.keepIn K (.ref f7) = true)
    {f8 : Addr} {oc8 : Value} {od8 an8 : Option Addr} {sl8 : Array (Option Value)} {kV8 dc8 pm8 cd8 ct8 : Value} (a8 : PySem.W.nsIn K mainGlobals "moved" = some (some (.ref f8))) (l8 : K.lookup f8 = some ⟨oc8, od8, .func (PySem.W.fnOf "moved" "moved" (defArgs (topS 8)) (defBody (topS 8)) (defScope (topS 8)) .none kV8 dc8 pm8 an8 cd8 ct8), sl8⟩) (c8 : PySem.W.codeIn K cd8 "moved" = true) (k8 : PySem.W.keepIn K (.ref f8) = true)
    {f9 : Addr} {oc9 : Value} {od9 an9 : Option Addr} {sl9 : Array (Option Value)} {kV9 dc9 pm9 cd9 ct9 : Value} (a9 : PySem.W.nsIn K mainGlobals "opposite" = some (some (.ref f9))) (l9 : K.lookup f9 = some ⟨oc9, od9, .func (PySem.W.fnOf "opposite" "opposite" (defArgs (topS 9)) (defBody (topS 9)) (defScope (topS 9)) .none kV9 dc9 pm9 an9 cd9 ct9), sl9⟩) (c9 : PySem.W.codeIn K cd9 "opposite" = true) (k9 : PySem.W.keepIn K (.ref f9) = true)
    {f10 : Addr} {oc10 : Value} {od10 an10 : Option Addr} {sl10 : Array (Option Value)} {kV10 dc10 pm10 cd10 ct10 : Value} (a10 : PySem.W.nsIn K mainGlobals "way_told" = some (some (.ref f10))) (l10 : K.lookup f10 = some ⟨oc10, od10, .func (PySem.W.fnOf "way_told" "way_told" (defArgs (topS 10)) (defBody (topS 10)) (defScope (topS 10)) .none kV10 dc10 pm10 an10 cd10 ct10), sl10⟩) (c10 : PySem.W.codeIn K cd10 "way_told" = true) (k10 : PySem.W.keepIn K (.ref f10) = true)
    {f11 : Addr} {oc11 : Value} {od11 an11 : Option Addr} {sl11 : Array (Option Value)} {kV11 dc11 pm11 cd11 ct11 : Value} (a11 : PySem.W.nsIn K mainGlobals "is_between" = some (some (.ref f11))) (l11 : K.lookup f11 = some ⟨oc11, od11, .func (PySem.W.fnOf "is_between" "is_between" (defArgs (topS 11)) (defBody (topS 11)) (defScope (topS 11)) .none kV11 dc11 pm11 an11 cd11 ct11), sl11⟩) (c11 : PySem.W.codeIn K cd11 "is_between" = true) (k11 : PySem.W.keepIn K (.ref f11) = true)
    {f15 : Addr} {oc15 : Value} {od15 an15 : Option Addr} {sl15 : Array (Option Value)} {kV15 dc15 pm15 cd15 ct15 : Value} (a15 : PySem.W.nsIn K mainGlobals "round_root" = some (some (.ref f15))) (l15 : K.lookup f15 = some ⟨oc15, od15, .func (PySem.W.fnOf "round_root" "round_root" (defArgs (topS 15)) (defBody (topS 15)) (defScope (topS 15)) .none kV15 dc15 pm15 an15 cd15 ct15), sl15⟩) (c15 : PySem.W.codeIn K cd15 "round_root" = true) (k15 : PySem.W.keepIn K (.ref f15) = true)
    {f16 : Addr} {oc16 : Value} {od16 an16 : Option Addr} {sl16 : Array (Option Value)} {kV16 dc16 pm16 cd16 ct16 : Value} (a16 : PySem.W.nsIn K mainGlobals "row_low" = some (some (.ref f16))) (l16 : K.lookup f16 = some ⟨oc16, od16, .func (PySem.W.fnOf "row_low" "row_low" (defArgs (topS 16)) (defBody (topS 16)) (defScope (topS 16)) .none kV16 dc16 pm16 an16 cd16 ct16), sl16⟩) (c16 : PySem.W.codeIn K cd16 "row_low" = true) (k16 : PySem.W.keepIn K (.ref f16) = true)
    {f17 : Addr} {oc17 : Value} {od17 an17 : Option Addr} {sl17 : Array (Option Value)} {kV17 dc17 pm17 cd17 ct17 : Value} (a17 : PySem.W.nsIn K mainGlobals "not_long_rows" = some (some (.ref f17))) (l17 : K.lookup f17 = some ⟨oc17, od17, .func (PySem.W.fnOf "not_long" "not_long" (defArgs (topS 17)) (defBody (topS 17)) (defScope (topS 17)) .none kV17 dc17 pm17 an17 cd17 ct17), sl17⟩) (c17 : PySem.W.codeIn K cd17 "not_long" = true) (k17 : PySem.W.keepIn K (.ref f17) = true)
    {f19 : Addr} {oc19 : Value} {od19 an19 : Option Addr} {sl19 : Array (Option Value)} {kV19 dc19 pm19 cd19 ct19 : Value} (a19 : PySem.W.nsIn K mainGlobals "row_letters" = some (some (.ref f19))) (l19 : K.lookup f19 = some ⟨oc19, od19, .func (PySem.W.fnOf "row_letters" "row_letters" (defArgs (topS 19)) (defBody (topS 19)) (defScope (topS 19)) .none kV19 dc19 pm19 an19 cd19 ct19), sl19⟩) (c19 : PySem.W.codeIn K cd19 "row_letters" = true) (k19 : PySem.W.keepIn K (.ref f19) = true)
    {f20 : Addr} {oc20 : Value} {od20 an20 : Option Addr} {sl20 : Array (Option Value)} {kV20 dc20 pm20 cd20 ct20 : Value} (a20 : PySem.W.nsIn K mainGlobals "put_ahead" = some (some (.ref f20))) (l20 : K.lookup f20 = some ⟨oc20, od20, .func (PySem.W.fnOf "put_ahead" "put_ahead" (defArgs (topS 20)) (defBody (topS 20)) (defScope (topS 20)) .none kV20 dc20 pm20 an20 cd20 ct20), sl20⟩) (c20 : PySem.W.codeIn K cd20 "put_ahead" = true) (k20 : PySem.W.keepIn K (.ref f20) = true)
    {f21 : Addr} {oc21 : Value} {od21 an21 : Option Addr} {sl21 : Array (Option Value)} {kV21 dc21 pm21 cd21 ct21 : Value} (a21 : PySem.W.nsIn K mainGlobals "first_unlike" = some (some (.ref f21))) (l21 : K.lookup f21 = some ⟨oc21, od21, .func (PySem.W.fnOf "first_unlike" "first_unlike" (defArgs (topS 21)) (defBody (topS 21)) (defScope (topS 21)) .none kV21 dc21 pm21 an21 cd21 ct21), sl21⟩) (c21 : PySem.W.codeIn K cd21 "first_unlike" = true) (k21 : PySem.W.keepIn K (.ref f21) = true)
    {f22 : Addr} {oc22 : Value} {od22 an22 : Option Addr} {sl22 : Array (Option Value)} {kV22 dc22 pm22 cd22 ct22 : Value} (a22 : PySem.W.nsIn K mainGlobals "rows_order" = some (some (.ref f22))) (l22 : K.lookup f22 = some ⟨oc22, od22, .func (PySem.W.fnOf "rows_order" "rows_order" (defArgs (topS 22)) (defBody (topS 22)) (defScope (topS 22)) .none kV22 dc22 pm22 an22 cd22 ct22), sl22⟩) (c22 : PySem.W.codeIn K cd22 "rows_order" = true) (k22 : PySem.W.keepIn K (.ref f22) = true)
    {f25 : Addr} {oc25 : Value} {od25 an25 : Option Addr} {sl25 : Array (Option Value)} {kV25 dc25 pm25 cd25 ct25 : Value} (a25 : PySem.W.nsIn K mainGlobals "cut_told" = some (some (.ref f25))) (l25 : K.lookup f25 = some ⟨oc25, od25, .func (PySem.W.fnOf "cut_told" "cut_told" (defArgs (topS 25)) (defBody (topS 25)) (defScope (topS 25)) .none kV25 dc25 pm25 an25 cd25 ct25), sl25⟩) (c25 : PySem.W.codeIn K cd25 "cut_told" = true) (k25 : PySem.W.keepIn K (.ref f25) = true)
    {f26 : Addr} {oc26 : Value} {od26 an26 : Option Addr} {sl26 : Array (Option Value)} {kV26 dc26 pm26 cd26 ct26 : Value} (a26 : PySem.W.nsIn K mainGlobals "half_of" = some (some (.ref f26))) (l26 : K.lookup f26 = some ⟨oc26, od26, .func (PySem.W.fnOf "half_of" "half_of" (defArgs (topS 26)) (defBody (topS 26)) (defScope (topS 26)) .none kV26 dc26 pm26 an26 cd26 ct26), sl26⟩) (c26 : PySem.W.codeIn K cd26 "half_of" = true) (k26 : PySem.W.keepIn K (.ref f26) = true)
    {f27 : Addr} {oc27 : Value} {od27 an27 : Option Addr} {sl27 : Array (Option Value)} {kV27 dc27 pm27 cd27 ct27 : Value} (a27 : PySem.W.nsIn K mainGlobals "row_told" = some (some (.ref f27))) (l27 : K.lookup f27 = some ⟨oc27, od27, .func (PySem.W.fnOf "row_told" "row_told" (defArgs (topS 27)) (defBody (topS 27)) (defScope (topS 27)) .none kV27 dc27 pm27 an27 cd27 ct27), sl27⟩) (c27 : PySem.W.codeIn K cd27 "row_told" = true) (k27 : PySem.W.keepIn K (.ref f27) = true)
    {f28 : Addr} {oc28 : Value} {od28 an28 : Option Addr} {sl28 : Array (Option Value)} {kV28 dc28 pm28 cd28 ct28 : Value} (a28 : PySem.W.nsIn K mainGlobals "rule_row" = some (some (.ref f28))) (l28 : K.lookup f28 = some ⟨oc28, od28, .func (PySem.W.fnOf "rule_row" "rule_row" (defArgs (topS 28)) (defBody (topS 28)) (defScope (topS 28)) .none kV28 dc28 pm28 an28 cd28 ct28), sl28⟩) (c28 : PySem.W.codeIn K cd28 "rule_row" = true) (k28 : PySem.W.keepIn K (.ref f28) = true)
    {f30 : Addr} {oc30 : Value} {od30 an30 : Option Addr} {sl30 : Array (Option Value)} {kV30 dc30 pm30 cd30 ct30 : Value} (a30 : PySem.W.nsIn K mainGlobals "both_back" = some (some (.ref f30))) (l30 : K.lookup f30 = some ⟨oc30, od30, .func (PySem.W.fnOf "both_back" "both_back" (defArgs (topS 30)) (defBody (topS 30)) (defScope (topS 30)) .none kV30 dc30 pm30 an30 cd30 ct30), sl30⟩) (c30 : PySem.W.codeIn K cd30 "both_back" = true) (k30 : PySem.W.keepIn K (.ref f30) = true)
    {f31 : Addr} {oc31 : Value} {od31 an31 : Option Addr} {sl31 : Array (Option Value)} {kV31 dc31 pm31 cd31 ct31 : Value} (a31 : PySem.W.nsIn K mainGlobals "point_back" = some (some (.ref f31))) (l31 : K.lookup f31 = some ⟨oc31, od31, .func (PySem.W.fnOf "point_back" "point_back" (defArgs (topS 31)) (defBody (topS 31)) (defScope (topS 31)) .none kV31 dc31 pm31 an31 cd31 ct31), sl31⟩) (c31 : PySem.W.codeIn K cd31 "point_back" = true) (k31 : PySem.W.keepIn K (.ref f31) = true)
    {f36 : Addr} {oc36 : Value} {od36 an36 : Option Addr} {sl36 : Array (Option Value)} {kV36 dc36 pm36 cd36 ct36 : Value} (a36 : PySem.W.nsIn K mainGlobals "not_long_lists" = some (some (.ref f36))) (l36 : K.lookup f36 = some ⟨oc36, od36, .func (PySem.W.fnOf "not_long" "not_long" (defArgs (topS 36)) (defBody (topS 36)) (defScope (topS 36)) .none kV36 dc36 pm36 an36 cd36 ct36), sl36⟩) (c36 : PySem.W.codeIn K cd36 "not_long" = true) (k36 : PySem.W.keepIn K (.ref f36) = true)
    {f38 : Addr} {oc38 : Value} {od38 an38 : Option Addr} {sl38 : Array (Option Value)} {kV38 dc38 pm38 cd38 ct38 : Value} (a38 : PySem.W.nsIn K mainGlobals "end_back" = some (some (.ref f38))) (l38 : K.lookup f38 = some ⟨oc38, od38, .func (PySem.W.fnOf "end_back" "end_back" (defArgs (topS 38)) (defBody (topS 38)) (defScope (topS 38)) .none kV38 dc38 pm38 an38 cd38 ct38), sl38⟩) (c38 : PySem.W.codeIn K cd38 "end_back" = true) (k38 : PySem.W.keepIn K (.ref f38) = true)
    {f39 : Addr} {oc39 : Value} {od39 an39 : Option Addr} {sl39 : Array (Option Value)} {kV39 dc39 pm39 cd39 ct39 : Value} (a39 : PySem.W.nsIn K mainGlobals "arc_parted" = some (some (.ref f39))) (l39 : K.lookup f39 = some ⟨oc39, od39, .func (PySem.W.fnOf "arc_parted" "arc_parted" (defArgs (topS 39)) (defBody (topS 39)) (defScope (topS 39)) .none kV39 dc39 pm39 an39 cd39 ct39), sl39⟩) (c39 : PySem.W.codeIn K cd39 "arc_parted" = true) (k39 : PySem.W.keepIn K (.ref f39) = true)
    {f40 : Addr} {oc40 : Value} {od40 an40 : Option Addr} {sl40 : Array (Option Value)} {kV40 dc40 pm40 cd40 ct40 : Value} (a40 : PySem.W.nsIn K mainGlobals "arcs_back" = some (some (.ref f40))) (l40 : K.lookup f40 = some ⟨oc40, od40, .func (PySem.W.fnOf "arcs_back" "arcs_back" (defArgs (topS 40)) (defBody (topS 40)) (defScope (topS 40)) .none kV40 dc40 pm40 an40 cd40 ct40), sl40⟩) (c40 : PySem.W.codeIn K cd40 "arcs_back" = true) (k40 : PySem.W.keepIn K (.ref f40) = true)
    {f41 : Addr} {oc41 : Value} {od41 an41 : Option Addr} {sl41 : Array (Option Value)} {kV41 dc41 pm41 cd41 ct41 : Value} (a41 : PySem.W.nsIn K mainGlobals "arcs_led" = some (some (.ref f41))) (l41 : K.lookup f41 = some ⟨oc41, od41, .func (PySem.W.fnOf "arcs_led" "arcs_led" (defArgs (topS 41)) (defBody (topS 41)) (defScope (topS 41)) .none kV41 dc41 pm41 an41 cd41 ct41), sl41⟩) (c41 : PySem.W.codeIn K cd41 "arcs_led" = true) (k41 : PySem.W.keepIn K (.ref f41) = true)
    {f42 : Addr} {oc42 : Value} {od42 an42 : Option Addr} {sl42 : Array (Option Value)} {kV42 dc42 pm42 cd42 ct42 : Value} (a42 : PySem.W.nsIn K mainGlobals "steady_arcs" = some (some (.ref f42))) (l42 : K.lookup f42 = some ⟨oc42, od42, .func (PySem.W.fnOf "steady_arcs" "steady_arcs" (defArgs (topS 42)) (defBody (topS 42)) (defScope (topS 42)) .none kV42 dc42 pm42 an42 cd42 ct42), sl42⟩) (c42 : PySem.W.codeIn K cd42 "steady_arcs" = true) (k42 : PySem.W.keepIn K (.ref f42) = true)
    {f43 : Addr} {oc43 : Value} {od43 an43 : Option Addr} {sl43 : Array (Option Value)} {kV43 dc43 pm43 cd43 ct43 : Value} (a43 : PySem.W.nsIn K mainGlobals "lifted" = some (some (.ref f43))) (l43 : K.lookup f43 = some ⟨oc43, od43, .func (PySem.W.fnOf "lifted" "lifted" (defArgs (topS 43)) (defBody (topS 43)) (defScope (topS 43)) .none kV43 dc43 pm43 an43 cd43 ct43), sl43⟩) (c43 : PySem.W.codeIn K cd43 "lifted" = true) (k43 : PySem.W.keepIn K (.ref f43) = true)
    {f44 : Addr} {oc44 : Value} {od44 an44 : Option Addr} {sl44 : Array (Option Value)} {kV44 dc44 pm44 cd44 ct44 : Value} (a44 : PySem.W.nsIn K mainGlobals "arc_holding" = some (some (.ref f44))) (l44 : K.lookup f44 = some ⟨oc44, od44, .func (PySem.W.fnOf "arc_holding" "arc_holding" (defArgs (topS 44)) (defBody (topS 44)) (defScope (topS 44)) .none kV44 dc44 pm44 an44 cd44 ct44), sl44⟩) (c44 : PySem.W.codeIn K cd44 "arc_holding" = true) (k44 : PySem.W.keepIn K (.ref f44) = true)
    {f45 : Addr} {oc45 : Value} {od45 an45 : Option Addr} {sl45 : Array (Option Value)} {kV45 dc45 pm45 cd45 ct45 : Value} (a45 : PySem.W.nsIn K mainGlobals "rounds_of" = some (some (.ref f45))) (l45 : K.lookup f45 = some ⟨oc45, od45, .func (PySem.W.fnOf "rounds_of" "rounds_of" (defArgs (topS 45)) (defBody (topS 45)) (defScope (topS 45)) .none kV45 dc45 pm45 an45 cd45 ct45), sl45⟩) (c45 : PySem.W.codeIn K cd45 "rounds_of" = true) (k45 : PySem.W.keepIn K (.ref f45) = true)
    {f46 : Addr} {oc46 : Value} {od46 an46 : Option Addr} {sl46 : Array (Option Value)} {kV46 dc46 pm46 cd46 ct46 : Value} (a46 : PySem.W.nsIn K mainGlobals "point_in" = some (some (.ref f46))) (l46 : K.lookup f46 = some ⟨oc46, od46, .func (PySem.W.fnOf "point_in" "point_in" (defArgs (topS 46)) (defBody (topS 46)) (defScope (topS 46)) .none kV46 dc46 pm46 an46 cd46 ct46), sl46⟩) (c46 : PySem.W.codeIn K cd46 "point_in" = true) (k46 : PySem.W.keepIn K (.ref f46) = true)
    {f47 : Addr} {oc47 : Value} {od47 an47 : Option Addr} {sl47 : Array (Option Value)} {kV47 dc47 pm47 cd47 ct47 : Value} (a47 : PySem.W.nsIn K mainGlobals "round_points" = some (some (.ref f47))) (l47 : K.lookup f47 = some ⟨oc47, od47, .func (PySem.W.fnOf "round_points" "round_points" (defArgs (topS 47)) (defBody (topS 47)) (defScope (topS 47)) .none kV47 dc47 pm47 an47 cd47 ct47), sl47⟩) (c47 : PySem.W.codeIn K cd47 "round_points" = true) (k47 : PySem.W.keepIn K (.ref f47) = true)
    {f48 : Addr} {oc48 : Value} {od48 an48 : Option Addr} {sl48 : Array (Option Value)} {kV48 dc48 pm48 cd48 ct48 : Value} (a48 : PySem.W.nsIn K mainGlobals "halves_of" = some (some (.ref f48))) (l48 : K.lookup f48 = some ⟨oc48, od48, .func (PySem.W.fnOf "halves_of" "halves_of" (defArgs (topS 48)) (defBody (topS 48)) (defScope (topS 48)) .none kV48 dc48 pm48 an48 cd48 ct48), sl48⟩) (c48 : PySem.W.codeIn K cd48 "halves_of" = true) (k48 : PySem.W.keepIn K (.ref f48) = true)
    {f49 : Addr} {oc49 : Value} {od49 an49 : Option Addr} {sl49 : Array (Option Value)} {kV49 dc49 pm49 cd49 ct49 : Value} (a49 : PySem.W.nsIn K mainGlobals "ascending" = some (some (.ref f49))) (l49 : K.lookup f49 = some ⟨oc49, od49, .func (PySem.W.fnOf "ascending" "ascending" (defArgs (topS 49)) (defBody (topS 49)) (defScope (topS 49)) .none kV49 dc49 pm49 an49 cd49 ct49), sl49⟩) (c49 : PySem.W.codeIn K cd49 "ascending" = true) (k49 : PySem.W.keepIn K (.ref f49) = true)
    {f50 : Addr} {oc50 : Value} {od50 an50 : Option Addr} {sl50 : Array (Option Value)} {kV50 dc50 pm50 cd50 ct50 : Value} (a50 : PySem.W.nsIn K mainGlobals "greatest_part" = some (some (.ref f50))) (l50 : K.lookup f50 = some ⟨oc50, od50, .func (PySem.W.fnOf "greatest_part" "greatest_part" (defArgs (topS 50)) (defBody (topS 50)) (defScope (topS 50)) .none kV50 dc50 pm50 an50 cd50 ct50), sl50⟩) (c50 : PySem.W.codeIn K cd50 "greatest_part" = true) (k50 : PySem.W.keepIn K (.ref f50) = true)
    {f51 : Addr} {oc51 : Value} {od51 an51 : Option Addr} {sl51 : Array (Option Value)} {kV51 dc51 pm51 cd51 ct51 : Value} (a51 : PySem.W.nsIn K mainGlobals "points_told" = some (some (.ref f51))) (l51 : K.lookup f51 = some ⟨oc51, od51, .func (PySem.W.fnOf "points_told" "points_told" (defArgs (topS 51)) (defBody (topS 51)) (defScope (topS 51)) .none kV51 dc51 pm51 an51 cd51 ct51), sl51⟩) (c51 : PySem.W.codeIn K cd51 "points_told" = true) (k51 : PySem.W.keepIn K (.ref f51) = true)
    {f53 : Addr} {oc53 : Value} {od53 an53 : Option Addr} {sl53 : Array (Option Value)} {kV53 dc53 pm53 cd53 ct53 : Value} (a53 : PySem.W.nsIn K mainGlobals "rules_alike" = some (some (.ref f53))) (l53 : K.lookup f53 = some ⟨oc53, od53, .func (PySem.W.fnOf "rules_alike" "rules_alike" (defArgs (topS 53)) (defBody (topS 53)) (defScope (topS 53)) .none kV53 dc53 pm53 an53 cd53 ct53), sl53⟩) (c53 : PySem.W.codeIn K cd53 "rules_alike" = true) (k53 : PySem.W.keepIn K (.ref f53) = true)
    {f54 : Addr} {oc54 : Value} {od54 an54 : Option Addr} {sl54 : Array (Option Value)} {kV54 dc54 pm54 cd54 ct54 : Value} (a54 : PySem.W.nsIn K mainGlobals "least_rule" = some (some (.ref f54))) (l54 : K.lookup f54 = some ⟨oc54, od54, .func (PySem.W.fnOf "least_rule" "least_rule" (defArgs (topS 54)) (defBody (topS 54)) (defScope (topS 54)) .none kV54 dc54 pm54 an54 cd54 ct54), sl54⟩) (c54 : PySem.W.codeIn K cd54 "least_rule" = true) (k54 : PySem.W.keepIn K (.ref f54) = true)
    {f55 : Addr} {oc55 : Value} {od55 an55 : Option Addr} {sl55 : Array (Option Value)} {kV55 dc55 pm55 cd55 ct55 : Value} (a55 : PySem.W.nsIn K mainGlobals "trees_alike" = some (some (.ref f55))) (l55 : K.lookup f55 = some ⟨oc55, od55, .func (PySem.W.fnOf "trees_alike" "trees_alike" (defArgs (topS 55)) (defBody (topS 55)) (defScope (topS 55)) .none kV55 dc55 pm55 an55 cd55 ct55), sl55⟩) (c55 : PySem.W.codeIn K cd55 "trees_alike" = true) (k55 : PySem.W.keepIn K (.ref f55) = true)
    {f56 : Addr} {oc56 : Value} {od56 an56 : Option Addr} {sl56 : Array (Option Value)} {kV56 dc56 pm56 cd56 ct56 : Value} (a56 : PySem.W.nsIn K mainGlobals "rule_mirrored" = some (some (.ref f56))) (l56 : K.lookup f56 = some ⟨oc56, od56, .func (PySem.W.fnOf "rule_mirrored" "rule_mirrored" (defArgs (topS 56)) (defBody (topS 56)) (defScope (topS 56)) .none kV56 dc56 pm56 an56 cd56 ct56), sl56⟩) (c56 : PySem.W.codeIn K cd56 "rule_mirrored" = true) (k56 : PySem.W.keepIn K (.ref f56) = true)
    {f58 : Addr} {oc58 : Value} {od58 an58 : Option Addr} {sl58 : Array (Option Value)} {kV58 dc58 pm58 cd58 ct58 : Value} (a58 : PySem.W.nsIn K mainGlobals "_law_source" = some (some (.ref f58))) (l58 : K.lookup f58 = some ⟨oc58, od58, .func (PySem.W.fnOf "_law_source" "_law_source" (defArgs (topS 58)) (defBody (topS 58)) (defScope (topS 58)) .none kV58 dc58 pm58 an58 cd58 ct58), sl58⟩) (c58 : PySem.W.codeIn K cd58 "_law_source" = true) (k58 : PySem.W.keepIn K (.ref f58) = true)
    {f59 : Addr} {oc59 : Value} {od59 an59 : Option Addr} {sl59 : Array (Option Value)} {kV59 dc59 pm59 cd59 ct59 : Value} (a59 : PySem.W.nsIn K mainGlobals "_law_pick" = some (some (.ref f59))) (l59 : K.lookup f59 = some ⟨oc59, od59, .func (PySem.W.fnOf "_law_pick" "_law_pick" (defArgs (topS 59)) (defBody (topS 59)) (defScope (topS 59)) .none kV59 dc59 pm59 an59 cd59 ct59), sl59⟩) (c59 : PySem.W.codeIn K cd59 "_law_pick" = true) (k59 : PySem.W.keepIn K (.ref f59) = true)
    {f60 : Addr} {oc60 : Value} {od60 an60 : Option Addr} {sl60 : Array (Option Value)} {kV60 dc60 pm60 cd60 ct60 : Value} (a60 : PySem.W.nsIn K mainGlobals "_law_of" = some (some (.ref f60))) (l60 : K.lookup f60 = some ⟨oc60, od60, .func (PySem.W.fnOf "_law_of" "_law_of" (defArgs (topS 60)) (defBody (topS 60)) (defScope (topS 60)) .none kV60 dc60 pm60 an60 cd60 ct60), sl60⟩) (c60 : PySem.W.codeIn K cd60 "_law_of" = true) (k60 : PySem.W.keepIn K (.ref f60) = true)
    {f61 : Addr} {oc61 : Value} {od61 an61 : Option Addr} {sl61 : Array (Option Value)} {kV61 dc61 pm61 cd61 ct61 : Value} (a61 : PySem.W.nsIn K mainGlobals "_law_round" = some (some (.ref f61))) (l61 : K.lookup f61 = some ⟨oc61, od61, .func (PySem.W.fnOf "_law_round" "_law_round" (defArgs (topS 61)) (defBody (topS 61)) (defScope (topS 61)) .none kV61 dc61 pm61 an61 cd61 ct61), sl61⟩) (c61 : PySem.W.codeIn K cd61 "_law_round" = true) (k61 : PySem.W.keepIn K (.ref f61) = true)
    {f62 : Addr} {oc62 : Value} {od62 an62 : Option Addr} {sl62 : Array (Option Value)} {kV62 dc62 pm62 cd62 ct62 : Value} (a62 : PySem.W.nsIn K mainGlobals "_law_low" = some (some (.ref f62))) (l62 : K.lookup f62 = some ⟨oc62, od62, .func (PySem.W.fnOf "_law_low" "_law_low" (defArgs (topS 62)) (defBody (topS 62)) (defScope (topS 62)) .none kV62 dc62 pm62 an62 cd62 ct62), sl62⟩) (c62 : PySem.W.codeIn K cd62 "_law_low" = true) (k62 : PySem.W.keepIn K (.ref f62) = true)
    {f63 : Addr} {oc63 : Value} {od63 an63 : Option Addr} {sl63 : Array (Option Value)} {kV63 dc63 pm63 cd63 ct63 : Value} (a63 : PySem.W.nsIn K mainGlobals "_law_part" = some (some (.ref f63))) (l63 : K.lookup f63 = some ⟨oc63, od63, .func (PySem.W.fnOf "_law_part" "_law_part" (defArgs (topS 63)) (defBody (topS 63)) (defScope (topS 63)) .none kV63 dc63 pm63 an63 cd63 ct63), sl63⟩) (c63 : PySem.W.codeIn K cd63 "_law_part" = true) (k63 : PySem.W.keepIn K (.ref f63) = true)
    {f64 : Addr} {oc64 : Value} {od64 an64 : Option Addr} {sl64 : Array (Option Value)} {kV64 dc64 pm64 cd64 ct64 : Value} (a64 : PySem.W.nsIn K mainGlobals "_law_rule" = some (some (.ref f64))) (l64 : K.lookup f64 = some ⟨oc64, od64, .func (PySem.W.fnOf "_law_rule" "_law_rule" (defArgs (topS 64)) (defBody (topS 64)) (defScope (topS 64)) .none kV64 dc64 pm64 an64 cd64 ct64), sl64⟩) (c64 : PySem.W.codeIn K cd64 "_law_rule" = true) (k64 : PySem.W.keepIn K (.ref f64) = true)
    {f65 : Addr} {oc65 : Value} {od65 an65 : Option Addr} {sl65 : Array (Option Value)} {kV65 dc65 pm65 cd65 ct65 : Value} (a65 : PySem.W.nsIn K mainGlobals "_law_half" = some (some (.ref f65))) (l65 : K.lookup f65 = some ⟨oc65, od65, .func (PySem.W.fnOf "_law_half" "_law_half" (defArgs (topS 65)) (defBody (topS 65)) (defScope (topS 65)) .none kV65 dc65 pm65 an65 cd65 ct65), sl65⟩) (c65 : PySem.W.codeIn K cd65 "_law_half" = true) (k65 : PySem.W.keepIn K (.ref f65) = true)
    {f66 : Addr} {oc66 : Value} {od66 an66 : Option Addr} {sl66 : Array (Option Value)} {kV66 dc66 pm66 cd66 ct66 : Value} (a66 : PySem.W.nsIn K mainGlobals "_law_moved" = some (some (.ref f66))) (l66 : K.lookup f66 = some ⟨oc66, od66, .func (PySem.W.fnOf "_law_moved" "_law_moved" (defArgs (topS 66)) (defBody (topS 66)) (defScope (topS 66)) .none kV66 dc66 pm66 an66 cd66 ct66), sl66⟩) (c66 : PySem.W.codeIn K cd66 "_law_moved" = true) (k66 : PySem.W.keepIn K (.ref f66) = true)
    {f67 : Addr} {oc67 : Value} {od67 an67 : Option Addr} {sl67 : Array (Option Value)} {kV67 dc67 pm67 cd67 ct67 : Value} (a67 : PySem.W.nsIn K mainGlobals "_law_point_row" = some (some (.ref f67))) (l67 : K.lookup f67 = some ⟨oc67, od67, .func (PySem.W.fnOf "_law_point_row" "_law_point_row" (defArgs (topS 67)) (defBody (topS 67)) (defScope (topS 67)) .none kV67 dc67 pm67 an67 cd67 ct67), sl67⟩) (c67 : PySem.W.codeIn K cd67 "_law_point_row" = true) (k67 : PySem.W.keepIn K (.ref f67) = true)
    {f68 : Addr} {oc68 : Value} {od68 an68 : Option Addr} {sl68 : Array (Option Value)} {kV68 dc68 pm68 cd68 ct68 : Value} (a68 : PySem.W.nsIn K mainGlobals "_law_below" = some (some (.ref f68))) (l68 : K.lookup f68 = some ⟨oc68, od68, .func (PySem.W.fnOf "_law_below" "_law_below" (defArgs (topS 68)) (defBody (topS 68)) (defScope (topS 68)) .none kV68 dc68 pm68 an68 cd68 ct68), sl68⟩) (c68 : PySem.W.codeIn K cd68 "_law_below" = true) (k68 : PySem.W.keepIn K (.ref f68) = true)
    {f69 : Addr} {oc69 : Value} {od69 an69 : Option Addr} {sl69 : Array (Option Value)} {kV69 dc69 pm69 cd69 ct69 : Value} (a69 : PySem.W.nsIn K mainGlobals "law" = some (some (.ref f69))) (l69 : K.lookup f69 = some ⟨oc69, od69, .func (PySem.W.fnOf "law" "law" (defArgs (topS 69)) (defBody (topS 69)) (defScope (topS 69)) .none kV69 dc69 pm69 an69 cd69 ct69), sl69⟩) (c69 : PySem.W.codeIn K cd69 "law" = true) (k69 : PySem.W.keepIn K (.ref f69) = true)
    {t5 : Tok} (g5 : PySem.W.nsIn K mainGlobals "MOST_LETTERS_roundpoints" = some (some (.int 400 t5)))
    {t6 : Tok} (g6 : PySem.W.nsIn K mainGlobals "LONG_roundpoints" = some (some (.int 0 t6)))
    {t13 : Tok} (g13 : PySem.W.nsIn K mainGlobals "MOST_LETTERS_rows" = some (some (.int 400 t13)))
    {t14 : Tok} (g14 : PySem.W.nsIn K mainGlobals "LONG_rows" = some (some (.int 0 t14)))
    {t24 : Tok} (g24 : PySem.W.nsIn K mainGlobals "ON_CUT" = some (some (.int 2 t24)))
    {t33 : Tok} (g33 : PySem.W.nsIn K mainGlobals "MOST_MOVES" = some (some (.int 990 t33)))
    {t34 : Tok} (g34 : PySem.W.nsIn K mainGlobals "MOST_FIGURES" = some (some (.int 300 t34)))
    {t35 : Tok} (g35 : PySem.W.nsIn K mainGlobals "LONG_lists" = some (some (.int 1 t35)))
    (z0 : PySem.W.nsIn K mainGlobals "len" = some none)
    (z1 : PySem.W.nsIn K mainGlobals "abs" = some none)
    (z2 : PySem.W.nsIn K mainGlobals "max" = some none)
    (z3 : PySem.W.nsIn K mainGlobals "repr" = some none)
    (z4 : PySem.W.nsIn K mainGlobals "isinstance" = some none)
    (z5 : PySem.W.nsIn K mainGlobals "all" = some none)
    (z6 : PySem.W.nsIn K mainGlobals "any" = some none)
    (z7 : PySem.W.nsIn K mainGlobals "range" = some none)
    (z8 : PySem.W.nsIn K mainGlobals "tuple" = some none)
    (z9 : PySem.W.nsIn K mainGlobals "list" = some none)
    (z10 : PySem.W.nsIn K mainGlobals "int" = some none)
    (z11 : PySem.W.nsIn K mainGlobals "str" = some none)
    (z12 : PySem.W.nsIn K mainGlobals "bool" = some none)
    (z13 : PySem.W.nsIn K mainGlobals "sorted" = some none)
    (z14 : PySem.W.nsIn K mainGlobals "sum" = some none)
    (z15 : PySem.W.nsIn K mainGlobals "min" = some none)
    (z16 : PySem.W.nsIn K mainGlobals "zip" = some none)
    (z17 : PySem.W.nsIn K mainGlobals "enumerate" = some none)
    (z18 : PySem.W.nsIn K mainGlobals "dict" = some none)
    (m_gcd : PySem.W.nsIn K mainGlobals "gcd" = some (some (.builtin "math.gcd"))) :
    ∃ fd : FuncData, (∀ (s : Shared) (v : Value), BindsTo s fd ⟨[v], []⟩ [("script", v)]) ∧ ∀ base : Heap, K.In base → base.Ns mainGlobals mg → FG l.prog w K mg base CX0 30 fa fd ["script"] (spLaw K) := by
  have bl : BL mg := by
    intro x hx
    simp only [bnames, List.mem_cons, List.not_mem_nil, or_false] at hx
    rcases hx with rfl | rfl | rfl | rfl | rfl | rfl | rfl | rfl | rfl | rfl | rfl | rfl | rfl | rfl | rfl | rfl | rfl | rfl | rfl
    · exact PySem.W.mg_none_of X G z0
    · exact PySem.W.mg_none_of X G z1
    · exact PySem.W.mg_none_of X G z2
    · exact PySem.W.mg_none_of X G z3
    · exact PySem.W.mg_none_of X G z4
    · exact PySem.W.mg_none_of X G z5
    · exact PySem.W.mg_none_of X G z6
    · exact PySem.W.mg_none_of X G z7
    · exact PySem.W.mg_none_of X G z8
    · exact PySem.W.mg_none_of X G z9
    · exact PySem.W.mg_none_of X G z10
    · exact PySem.W.mg_none_of X G z11
    · exact PySem.W.mg_none_of X G z12
    · exact PySem.W.mg_none_of X G z13
    · exact PySem.W.mg_none_of X G z14
    · exact PySem.W.mg_none_of X G z15
    · exact PySem.W.mg_none_of X G z16
    · exact PySem.W.mg_none_of X G z17
    · exact PySem.W.mg_none_of X G z18
  have q_MOST_LETTERS_roundpoints : CtOk K mg "MOST_LETTERS_roundpoints" (.int 400) := ct_int (PySem.W.mg_of X G g5)
  have q_LONG_roundpoints : CtOk K mg "LONG_roundpoints" (.int 0) := ct_int (PySem.W.mg_of X G g6)
  have q_MOST_LETTERS_rows : CtOk K mg "MOST_LETTERS_rows" (.int 400) := ct_int (PySem.W.mg_of X G g13)
  have q_LONG_rows : CtOk K mg "LONG_rows" (.int 0) := ct_int (PySem.W.mg_of X G g14)
  have q_ON_CUT : CtOk K mg "ON_CUT" (.int 2) := ct_int (PySem.W.mg_of X G g24)
  have q_MOST_MOVES : CtOk K mg "MOST_MOVES" (.int 990) := ct_int (PySem.W.mg_of X G g33)
  have q_MOST_FIGURES : CtOk K mg "MOST_FIGURES" (.int 300) := ct_int (PySem.W.mg_of X G g34)
  have q_LONG_lists : CtOk K mg "LONG_lists" (.int 1) := ct_int (PySem.W.mg_of X G g35)
  have F7 : Fun K "fraction_low" "fraction_low" (topS 7) f7 _ := fun_mk l7 c7 k7
  have B7 : Binds K _ ["top", "bottom"] [] := Fun.binds F7 (ps := ["top", "bottom"]) (fun _ _ _ _ _ _ us hl => match us, hl with | [_, _], _ => rfl)
  have F8 : Fun K "moved" "moved" (topS 8) f8 _ := fun_mk l8 c8 k8
  have B8 : Binds K _ ["point"] [] := Fun.binds F8 (ps := ["point"]) (fun _ _ _ _ _ _ us hl => match us, hl with | [_], _ => rfl)
  have F9 : Fun K "opposite" "opposite" (topS 9) f9 _ := fun_mk l9 c9 k9
  have B9 : Binds K _ ["point"] [] := Fun.binds F9 (ps := ["point"]) (fun _ _ _ _ _ _ us hl => match us, hl with | [_], _ => rfl)
  have F10 : Fun K "way_told" "way_told" (topS 10) f10 _ := fun_mk l10 c10 k10
  have B10 : Binds K _ ["point"] [] := Fun.binds F10 (ps := ["point"]) (fun _ _ _ _ _ _ us hl => match us, hl with | [_], _ => rfl)
  have F11 : Fun K "is_between" "is_between" (topS 11) f11 _ := fun_mk l11 c11 k11
  have B11 : Binds K _ ["one", "point", "other"] [] := Fun.binds F11 (ps := ["one", "point", "other"]) (fun _ _ _ _ _ _ us hl => match us, hl with | [_, _, _], _ => rfl)
  have F15 : Fun K "round_root" "round_root" (topS 15) f15 _ := fun_mk l15 c15 k15
  have B15 : Binds K _ ["letters"] [] := Fun.binds F15 (ps := ["letters"]) (fun _ _ _ _ _ _ us hl => match us, hl with | [_], _ => rfl)
  have F16 : Fun K "row_low" "row_low" (topS 16) f16 _ := fun_mk l16 c16 k16
  have B16 : Binds K _ ["ahead", "letters"] [] := Fun.binds F16 (ps := ["ahead", "letters"]) (fun _ _ _ _ _ _ us hl => match us, hl with | [_, _], _ => rfl)
  have F17 : Fun K "not_long" "not_long" (topS 17) f17 _ := fun_mk l17 c17 k17
  have B17 : Binds K _ ["row"] [] := Fun.binds F17 (ps := ["row"]) (fun _ _ _ _ _ _ us hl => match us, hl with | [_], _ => rfl)
  have F19 : Fun K "row_letters" "row_letters" (topS 19) f19 _ := fun_mk l19 c19 k19
  have B19 : Binds K _ ["row", "many"] [] := Fun.binds F19 (ps := ["row", "many"]) (fun _ _ _ _ _ _ us hl => match us, hl with | [_, _], _ => rfl)
  have F20 : Fun K "put_ahead" "put_ahead" (topS 20) f20 _ := fun_mk l20 c20 k20
  have B20 : Binds K _ ["letters", "row"] [] := Fun.binds F20 (ps := ["letters", "row"]) (fun _ _ _ _ _ _ us hl => match us, hl with | [_, _], _ => rfl)
  have F21 : Fun K "first_unlike" "first_unlike" (topS 21) f21 _ := fun_mk l21 c21 k21
  have B21 : Binds K _ ["one", "other"] [] := Fun.binds F21 (ps := ["one", "other"]) (fun _ _ _ _ _ _ us hl => match us, hl with | [_, _], _ => rfl)
  have F22 : Fun K "rows_order" "rows_order" (topS 22) f22 _ := fun_mk l22 c22 k22
  have B22 : Binds K _ ["one", "other"] [] := Fun.binds F22 (ps := ["one", "other"]) (fun _ _ _ _ _ _ us hl => match us, hl with | [_, _], _ => rfl)
  have F25 : Fun K "cut_told" "cut_told" (topS 25) f25 _ := fun_mk l25 c25 k25
  have B25 : Binds K _ ["rule"] [] := Fun.binds F25 (ps := ["rule"]) (fun _ _ _ _ _ _ us hl => match us, hl with | [_], _ => rfl)
  have F26 : Fun K "half_of" "half_of" (topS 26) f26 _ := fun_mk l26 c26 k26
  have B26 : Binds K _ ["rule", "point"] [] := Fun.binds F26 (ps := ["rule", "point"]) (fun _ _ _ _ _ _ us hl => match us, hl with | [_, _], _ => rfl)
  have F27 : Fun K "row_told" "row_told" (topS 27) f27 _ := fun_mk l27 c27 k27
  have B27 : Binds K _ ["rule", "point"] [] := Fun.binds F27 (ps := ["rule", "point"]) (fun _ _ _ _ _ _ us hl => match us, hl with | [_, _], _ => rfl)
  have F28 : Fun K "rule_row" "rule_row" (topS 28) f28 _ := fun_mk l28 c28 k28
  have B28 : Binds K _ ["rule"] [] := Fun.binds F28 (ps := ["rule"]) (fun _ _ _ _ _ _ us hl => match us, hl with | [_], _ => rfl)
  have F30 : Fun K "both_back" "both_back" (topS 30) f30 _ := fun_mk l30 c30 k30
  have B30 : Binds K _ ["point"] [] := Fun.binds F30 (ps := ["point"]) (fun _ _ _ _ _ _ us hl => match us, hl with | [_], _ => rfl)
  have F31 : Fun K "point_back" "point_back" (topS 31) f31 _ := fun_mk l31 c31 k31
  have B31 : Binds K _ ["rule", "point", "letter"] [] := Fun.binds F31 (ps := ["rule", "point", "letter"]) (fun _ _ _ _ _ _ us hl => match us, hl with | [_, _, _], _ => rfl)
  have F36 : Fun K "not_long" "not_long" (topS 36) f36 _ := fun_mk l36 c36 k36
  have B36 : Binds K _ ["point"] [] := Fun.binds F36 (ps := ["point"]) (fun _ _ _ _ _ _ us hl => match us, hl with | [_], _ => rfl)
  have F38 : Fun K "end_back" "end_back" (topS 38) f38 _ := fun_mk l38 c38 k38
  have B38 : Binds K _ ["rule", "point", "letter", "is_end"] [] := Fun.binds F38 (ps := ["rule", "point", "letter", "is_end"]) (fun _ _ _ _ _ _ us hl => match us, hl with | [_, _, _, _], _ => rfl)
  have F39 : Fun K "arc_parted" "arc_parted" (topS 39) f39 _ := fun_mk l39 c39 k39
  have B39 : Binds K _ ["rule", "arc"] [] := Fun.binds F39 (ps := ["rule", "arc"]) (fun _ _ _ _ _ _ us hl => match us, hl with | [_, _], _ => rfl)
  have F40 : Fun K "arcs_back" "arcs_back" (topS 40) f40 _ := fun_mk l40 c40 k40
  have B40 : Binds K _ ["rule", "arcs", "letter"] [] := Fun.binds F40 (ps := ["rule", "arcs", "letter"]) (fun _ _ _ _ _ _ us hl => match us, hl with | [_, _, _], _ => rfl)
  have F41 : Fun K "arcs_led" "arcs_led" (topS 41) f41 _ := fun_mk l41 c41 k41
  have B41 : Binds K _ ["rule", "arcs", "letters"] [] := Fun.binds F41 (ps := ["rule", "arcs", "letters"]) (fun _ _ _ _ _ _ us hl => match us, hl with | [_, _, _], _ => rfl)
  have F42 : Fun K "steady_arcs" "steady_arcs" (topS 42) f42 _ := fun_mk l42 c42 k42
  have B42 : Binds K _ ["rule", "letters"] [] := Fun.binds F42 (ps := ["rule", "letters"]) (fun _ _ _ _ _ _ us hl => match us, hl with | [_, _], _ => rfl)
  have F43 : Fun K "lifted" "lifted" (topS 43) f43 _ := fun_mk l43 c43 k43
  have B43 : Binds K _ ["rule", "top", "bottom"] [] := Fun.binds F43 (ps := ["rule", "top", "bottom"]) (fun _ _ _ _ _ _ us hl => match us, hl with | [_, _, _], _ => rfl)
  have F44 : Fun K "arc_holding" "arc_holding" (topS 44) f44 _ := fun_mk l44 c44 k44
  have B44 : Binds K _ ["arcs", "point"] [] := Fun.binds F44 (ps := ["arcs", "point"]) (fun _ _ _ _ _ _ us hl => match us, hl with | [_, _], _ => rfl)
  have F45 : Fun K "rounds_of" "rounds_of" (topS 45) f45 _ := fun_mk l45 c45 k45
  have B45 : Binds K _ ["arcs", "images"] [] := Fun.binds F45 (ps := ["arcs", "images"]) (fun _ _ _ _ _ _ us hl => match us, hl with | [_, _], _ => rfl)
  have F46 : Fun K "point_in" "point_in" (topS 46) f46 _ := fun_mk l46 c46 k46
  have B46 : Binds K _ ["rule", "arc", "letters"] [] := Fun.binds F46 (ps := ["rule", "arc", "letters"]) (fun _ _ _ _ _ _ us hl => match us, hl with | [_, _, _], _ => rfl)
  have F47 : Fun K "round_points" "round_points" (topS 47) f47 _ := fun_mk l47 c47 k47
  have B47 : Binds K _ ["rule", "letters"] [] := Fun.binds F47 (ps := ["rule", "letters"]) (fun _ _ _ _ _ _ us hl => match us, hl with | [_, _], _ => rfl)
  have F48 : Fun K "halves_of" "halves_of" (topS 48) f48 _ := fun_mk l48 c48 k48
  have B48 : Binds K _ ["points"] [] := Fun.binds F48 (ps := ["points"]) (fun _ _ _ _ _ _ us hl => match us, hl with | [_], _ => rfl)
  have F49 : Fun K "ascending" "ascending" (topS 49) f49 _ := fun_mk l49 c49 k49
  have B49 : Binds K _ ["points"] [] := Fun.binds F49 (ps := ["points"]) (fun _ _ _ _ _ _ us hl => match us, hl with | [_], _ => rfl)
  have F50 : Fun K "greatest_part" "greatest_part" (topS 50) f50 _ := fun_mk l50 c50 k50
  have B50 : Binds K _ ["one", "other"] [] := Fun.binds F50 (ps := ["one", "other"]) (fun _ _ _ _ _ _ us hl => match us, hl with | [_, _], _ => rfl)
  have F51 : Fun K "points_told" "points_told" (topS 51) f51 _ := fun_mk l51 c51 k51
  have B51 : Binds K _ ["rule", "row"] [] := Fun.binds F51 (ps := ["rule", "row"]) (fun _ _ _ _ _ _ us hl => match us, hl with | [_, _], _ => rfl)
  have F53 : Fun K "rules_alike" "rules_alike" (topS 53) f53 _ := fun_mk l53 c53 k53
  have B53 : Binds K _ ["one", "other"] [] := Fun.binds F53 (ps := ["one", "other"]) (fun _ _ _ _ _ _ us hl => match us, hl with | [_, _], _ => rfl)
  have F54 : Fun K "least_rule" "least_rule" (topS 54) f54 _ := fun_mk l54 c54 k54
  have B54 : Binds K _ ["rule"] [] := Fun.binds F54 (ps := ["rule"]) (fun _ _ _ _ _ _ us hl => match us, hl with | [_], _ => rfl)
  have F55 : Fun K "trees_alike" "trees_alike" (topS 55) f55 _ := fun_mk l55 c55 k55
  have B55 : Binds K _ ["one", "other"] [] := Fun.binds F55 (ps := ["one", "other"]) (fun _ _ _ _ _ _ us hl => match us, hl with | [_, _], _ => rfl)
  have F56 : Fun K "rule_mirrored" "rule_mirrored" (topS 56) f56 _ := fun_mk l56 c56 k56
  have B56 : Binds K _ ["rule"] [] := Fun.binds F56 (ps := ["rule"]) (fun _ _ _ _ _ _ us hl => match us, hl with | [_], _ => rfl)
  have F58 : Fun K "_law_source" "_law_source" (topS 58) f58 _ := fun_mk l58 c58 k58
  have B58 : Binds K _ ["script"] [] := Fun.binds F58 (ps := ["script"]) (fun _ _ _ _ _ _ us hl => match us, hl with | [_], _ => rfl)
  have F59 : Fun K "_law_pick" "_law_pick" (topS 59) f59 _ := fun_mk l59 c59 k59
  have B59 : Binds K _ ["source", "many"] [] := Fun.binds F59 (ps := ["source", "many"]) (fun _ _ _ _ _ _ us hl => match us, hl with | [_, _], _ => rfl)
  have F60 : Fun K "_law_of" "_law_of" (topS 60) f60 _ := fun_mk l60 c60 k60
  have B60 : Binds K _ ["source", "some"] [] := Fun.binds F60 (ps := ["source", "some"]) (fun _ _ _ _ _ _ us hl => match us, hl with | [_, _], _ => rfl)
  have F61 : Fun K "_law_round" "_law_round" (topS 61) f61 _ := fun_mk l61 c61 k61
  have B61 : Binds K _ ["letters"] [] := Fun.binds F61 (ps := ["letters"]) (fun _ _ _ _ _ _ us hl => match us, hl with | [_], _ => rfl)
  have F62 : Fun K "_law_low" "_law_low" (topS 62) f62 _ := fun_mk l62 c62 k62
  have B62 : Binds K _ ["ahead", "letters"] [] := Fun.binds F62 (ps := ["ahead", "letters"]) (fun _ _ _ _ _ _ us hl => match us, hl with | [_, _], _ => rfl)
  have F63 : Fun K "_law_part" "_law_part" (topS 63) f63 _ := fun_mk l63 c63 k63
  have B63 : Binds K _ ["one", "other"] [] := Fun.binds F63 (ps := ["one", "other"]) (fun _ _ _ _ _ _ us hl => match us, hl with | [_, _], _ => rfl)
  have F64 : Fun K "_law_rule" "_law_rule" (topS 64) f64 _ := fun_mk l64 c64 k64
  have B64 : Binds K _ ["source"] [] := Fun.binds F64 (ps := ["source"]) (fun _ _ _ _ _ _ us hl => match us, hl with | [_], _ => rfl)
  have F65 : Fun K "_law_half" "_law_half" (topS 65) f65 _ := fun_mk l65 c65 k65
  have B65 : Binds K _ ["rule", "point"] [] := Fun.binds F65 (ps := ["rule", "point"]) (fun _ _ _ _ _ _ us hl => match us, hl with | [_, _], _ => rfl)
  have F66 : Fun K "_law_moved" "_law_moved" (topS 66) f66 _ := fun_mk l66 c66 k66
  have B66 : Binds K _ ["point"] [] := Fun.binds F66 (ps := ["point"]) (fun _ _ _ _ _ _ us hl => match us, hl with | [_], _ => rfl)
  have F67 : Fun K "_law_point_row" "_law_point_row" (topS 67) f67 _ := fun_mk l67 c67 k67
  have B67 : Binds K _ ["rule", "point"] [] := Fun.binds F67 (ps := ["rule", "point"]) (fun _ _ _ _ _ _ us hl => match us, hl with | [_, _], _ => rfl)
  have F68 : Fun K "_law_below" "_law_below" (topS 68) f68 _ := fun_mk l68 c68 k68
  have B68 : Binds K _ ["one", "other"] [] := Fun.binds F68 (ps := ["one", "other"]) (fun _ _ _ _ _ _ us hl => match us, hl with | [_, _], _ => rfl)
  have F69 : Fun K "law" "law" (topS 69) f69 _ := fun_mk l69 c69 k69
  have B69 : Binds K _ ["script"] [] := Fun.binds F69 (ps := ["script"]) (fun _ _ _ _ _ _ us hl => match us, hl with | [_], _ => rfl)
  refine ⟨PySem.W.fnOf "law" "law" (defArgs (topS 69)) (defBody (topS 69)) (defScope (topS 69)) .none kV69 dc69 pm69 an69 cd69 ct69, fun s v => BindsTo.of_eq rfl, fun base KB GB => ?_⟩
  have hfe : fa = f69 := by have z := (PySem.W.mg_of X G a69).symm.trans hfa; cases z; rfl
  subst hfe
  have w_law_pick : Wk l.prog w K mg base "_law_pick" 2 cPick 1 := wk_pick (fg_pick F59 (bl "len" (by decide)) (bl "int" (by decide)) (bl "max" (by decide))) (PySem.W.mg_of X G a59) k59 B59 rfl fun p q W many H Q E s hm hq => ⟨p, q, W, many, rfl, s, hm, fun H' sv => hq H' sv.s sv.k⟩
  have w_fraction_low : Wk l.prog w K mg base "fraction_low" 2 φ_fraction_low 1 := wk_as F7 (PySem.W.mg_of X G a7) B7 gm_fraction_low g_fraction_low rfl rfl sc_fraction_low rfl rfl (k := 0) aw_nil ac_nil bl (am_cons (PySem.W.mg_of X G m_gcd) am_nil) d_fraction_low
  have w_moved : Wk l.prog w K mg base "moved" 1 φ_moved 2 := wk_as F8 (PySem.W.mg_of X G a8) B8 gm_moved g_moved rfl rfl sc_moved rfl rfl (k := 1) (aw_cons w_fraction_low (by decide) aw_nil) ac_nil bl am_nil d_moved
  have w_opposite : Wk l.prog w K mg base "opposite" 1 φ_opposite 2 := wk_as F9 (PySem.W.mg_of X G a9) B9 gm_opposite g_opposite rfl rfl sc_opposite rfl rfl (k := 1) (aw_cons w_fraction_low (by decide) aw_nil) ac_nil bl am_nil d_opposite
  have w_way_told : Wk l.prog w K mg base "way_told" 1 φ_way_told 1 := wk_as F10 (PySem.W.mg_of X G a10) B10 gm_way_told g_way_told rfl rfl sc_way_told rfl rfl (k := 0) aw_nil (ac_cons q_MOST_LETTERS_roundpoints (ac_cons q_LONG_roundpoints ac_nil)) bl am_nil d_way_told
  have w_is_between : Wk l.prog w K mg base "is_between" 3 φ_is_between 1 := wk_as F11 (PySem.W.mg_of X G a11) B11 gm_is_between g_is_between rfl rfl sc_is_between rfl rfl (k := 0) aw_nil ac_nil bl am_nil d_is_between
  have w_round_root : Wk l.prog w K mg base "round_root" 1 φ_round_root 1 := wk_as F15 (PySem.W.mg_of X G a15) B15 gm_round_root g_round_root rfl rfl sc_round_root rfl rfl (k := 0) aw_nil ac_nil bl am_nil d_round_root
  have w_row_low : Wk l.prog w K mg base "row_low" 2 φ_row_low 2 := wk_as F16 (PySem.W.mg_of X G a16) B16 gm_row_low g_row_low rfl rfl sc_row_low rfl rfl (k := 1) (aw_cons w_round_root (by decide) aw_nil) ac_nil bl am_nil d_row_low
  have w_not_long_rows : Wk l.prog w K mg base "not_long_rows" 1 φ_not_long_rows 1 := wk_as F17 (PySem.W.mg_of X G a17) B17 gm_not_long_rows g_not_long_rows rfl rfl sc_not_long_rows rfl rfl (k := 0) aw_nil (ac_cons q_MOST_LETTERS_rows (ac_cons q_LONG_rows ac_nil)) bl am_nil d_not_long_rows
  have w_row_letters : Wk l.prog w K mg base "row_letters" 2 φ_row_letters 1 := wk_as F19 (PySem.W.mg_of X G a19) B19 gm_row_letters g_row_letters rfl rfl sc_row_letters rfl rfl (k := 0) aw_nil ac_nil bl am_nil d_row_letters
  have w_put_ahead : Wk l.prog w K mg base "put_ahead" 2 φ_put_ahead 3 := wk_as F20 (PySem.W.mg_of X G a20) B20 gm_put_ahead g_put_ahead rfl rfl sc_put_ahead rfl rfl (k := 2) (aw_cons w_row_low (by decide) (aw_cons w_not_long_rows (by decide) aw_nil)) ac_nil bl am_nil d_put_ahead
  have w_first_unlike : Wk l.prog w K mg base "first_unlike" 2 φ_first_unlike 2 := wk_as F21 (PySem.W.mg_of X G a21) B21 gm_first_unlike g_first_unlike rfl rfl sc_first_unlike rfl rfl (k := 1) (aw_cons w_row_letters (by decide) aw_nil) ac_nil bl am_nil d_first_unlike
  have w_rows_order : Wk l.prog w K mg base "rows_order" 2 φ_rows_order 3 := wk_as F22 (PySem.W.mg_of X G a22) B22 gm_rows_order g_rows_order rfl rfl sc_rows_order rfl rfl (k := 2) (aw_cons w_row_letters (by decide) (aw_cons w_first_unlike (by decide) aw_nil)) ac_nil bl am_nil d_rows_order
  have w_cut_told : Wk l.prog w K mg base "cut_told" 1 φ_cut_told 3 := wk_as F25 (PySem.W.mg_of X G a25) B25 gm_cut_told g_cut_told rfl rfl sc_cut_told rfl rfl (k := 2) (aw_cons w_fraction_low (by decide) (aw_cons w_opposite (by decide) aw_nil)) ac_nil bl am_nil d_cut_told
  have w_half_of : Wk l.prog w K mg base "half_of" 2 φ_half_of 4 := wk_as F26 (PySem.W.mg_of X G a26) B26 gm_half_of g_half_of rfl rfl sc_half_of rfl rfl (k := 3) (aw_cons w_is_between (by decide) (aw_cons w_cut_told (by decide) aw_nil)) (ac_cons q_ON_CUT ac_nil) bl am_nil d_half_of
  have w_row_told : Wk l.prog w K mg base "row_told" 2 φ_row_told 5 := wk_as F27 (PySem.W.mg_of X G a27) B27 gm_row_told g_row_told rfl rfl sc_row_told rfl rfl (k := 4) (aw_cons w_moved (by decide) (aw_cons w_way_told (by decide) (aw_cons w_row_low (by decide) (aw_cons w_half_of (by decide) aw_nil)))) ac_nil bl am_nil d_row_told
  have w_rule_row : Wk l.prog w K mg base "rule_row" 1 φ_rule_row 6 := wk_as F28 (PySem.W.mg_of X G a28) B28 gm_rule_row g_rule_row rfl rfl sc_rule_row rfl rfl (k := 5) (aw_cons w_row_told (by decide) aw_nil) ac_nil bl am_nil d_rule_row
  have w_both_back : Wk l.prog w K mg base "both_back" 1 φ_both_back 3 := wk_as F30 (PySem.W.mg_of X G a30) B30 gm_both_back g_both_back rfl rfl sc_both_back rfl rfl (k := 2) (aw_cons w_fraction_low (by decide) (aw_cons w_opposite (by decide) aw_nil)) ac_nil bl am_nil d_both_back
  have w_point_back : Wk l.prog w K mg base "point_back" 3 φ_point_back 5 := wk_as F31 (PySem.W.mg_of X G a31) B31 gm_point_back g_point_back rfl rfl sc_point_back rfl rfl (k := 4) (aw_cons w_half_of (by decide) (aw_cons w_both_back (by decide) aw_nil)) ac_nil bl am_nil d_point_back
  have w_not_long_lists : Wk l.prog w K mg base "not_long_lists" 1 φ_not_long_lists 1 := wk_as F36 (PySem.W.mg_of X G a36) B36 gm_not_long_lists g_not_long_lists rfl rfl sc_not_long_lists rfl rfl (k := 0) aw_nil (ac_cons q_MOST_FIGURES (ac_cons q_LONG_lists ac_nil)) bl am_nil d_not_long_lists
  have w_end_back : Wk l.prog w K mg base "end_back" 4 φ_end_back 6 := wk_as F38 (PySem.W.mg_of X G a38) B38 gm_end_back g_end_back rfl rfl sc_end_back rfl rfl (k := 5) (aw_cons w_cut_told (by decide) (aw_cons w_point_back (by decide) aw_nil)) ac_nil bl am_nil d_end_back
  have w_arc_parted : Wk l.prog w K mg base "arc_parted" 2 φ_arc_parted 2 := wk_as F39 (PySem.W.mg_of X G a39) B39 gm_arc_parted g_arc_parted rfl rfl sc_arc_parted rfl rfl (k := 1) (aw_cons w_is_between (by decide) aw_nil) ac_nil bl am_nil d_arc_parted
  have w_arcs_back : Wk l.prog w K mg base "arcs_back" 3 φ_arcs_back 7 := wk_as F40 (PySem.W.mg_of X G a40) B40 gm_arcs_back g_arcs_back rfl rfl sc_arcs_back rfl rfl (k := 6) (aw_cons w_end_back (by decide) (aw_cons w_arc_parted (by decide) aw_nil)) ac_nil bl am_nil d_arcs_back
  have w_arcs_led : Wk l.prog w K mg base "arcs_led" 3 φ_arcs_led 8 := wk_as F41 (PySem.W.mg_of X G a41) B41 gm_arcs_led g_arcs_led rfl rfl sc_arcs_led rfl rfl (k := 7) (aw_cons w_arcs_back (by decide) aw_nil) ac_nil bl am_nil d_arcs_led
  have w_steady_arcs : Wk l.prog w K mg base "steady_arcs" 2 φ_steady_arcs 9 := wk_as F42 (PySem.W.mg_of X G a42) B42 gm_steady_arcs g_steady_arcs rfl rfl sc_steady_arcs rfl rfl (k := 8) (aw_cons w_arcs_led (by decide) aw_nil) ac_nil bl am_nil d_steady_arcs
  have w_lifted : Wk l.prog w K mg base "lifted" 3 φ_lifted 1 := wk_as F43 (PySem.W.mg_of X G a43) B43 gm_lifted g_lifted rfl rfl sc_lifted rfl rfl (k := 0) aw_nil ac_nil bl am_nil d_lifted
  have w_arc_holding : Wk l.prog w K mg base "arc_holding" 2 φ_arc_holding 2 := wk_as F44 (PySem.W.mg_of X G a44) B44 gm_arc_holding g_arc_holding rfl rfl sc_arc_holding rfl rfl (k := 1) (aw_cons w_is_between (by decide) aw_nil) ac_nil bl am_nil d_arc_holding
  have w_rounds_of : Wk l.prog w K mg base "rounds_of" 2 φ_rounds_of 3 := wk_as F45 (PySem.W.mg_of X G a45) B45 gm_rounds_of g_rounds_of rfl rfl sc_rounds_of rfl rfl (k := 2) (aw_cons w_arc_holding (by decide) aw_nil) ac_nil bl am_nil d_rounds_of
  have w_point_in : Wk l.prog w K mg base "point_in" 3 φ_point_in 2 := wk_as F46 (PySem.W.mg_of X G a46) B46 gm_point_in g_point_in rfl rfl sc_point_in rfl rfl (k := 1) (aw_cons w_fraction_low (by decide) (aw_cons w_lifted (by decide) aw_nil)) ac_nil bl am_nil d_point_in
  have w_round_points : Wk l.prog w K mg base "round_points" 2 φ_round_points 10 := wk_as F47 (PySem.W.mg_of X G a47) B47 gm_round_points g_round_points rfl rfl sc_round_points rfl rfl (k := 9) (aw_cons w_steady_arcs (by decide) (aw_cons w_rounds_of (by decide) (aw_cons w_point_in (by decide) aw_nil))) (ac_cons q_MOST_MOVES (ac_cons q_LONG_lists ac_nil)) bl am_nil d_round_points
  have w_halves_of : Wk l.prog w K mg base "halves_of" 1 φ_halves_of 4 := wk_as F48 (PySem.W.mg_of X G a48) B48 gm_halves_of g_halves_of rfl rfl sc_halves_of rfl rfl (k := 3) (aw_cons w_both_back (by decide) aw_nil) ac_nil bl am_nil d_halves_of
  have w_greatest_part : Wk l.prog w K mg base "greatest_part" 2 φ_greatest_part 1 := wk_as F50 (PySem.W.mg_of X G a50) B50 gm_greatest_part g_greatest_part rfl rfl sc_greatest_part rfl rfl (k := 0) aw_nil ac_nil bl am_nil d_greatest_part
  have w_ascending : Wk l.prog w K mg base "ascending" 1 φ_ascending 2 := wk_as F49 (PySem.W.mg_of X G a49) B49 gm_ascending g_ascending rfl rfl sc_ascending rfl rfl (k := 1) (aw_cons w_greatest_part (by decide) aw_nil) ac_nil bl am_nil d_ascending
  have w_points_told : Wk l.prog w K mg base "points_told" 2 φ_points_told 11 := wk_as F51 (PySem.W.mg_of X G a51) B51 gm_points_told g_points_told rfl rfl sc_points_told rfl rfl (k := 10) (aw_cons w_row_low (by decide) (aw_cons w_put_ahead (by decide) (aw_cons w_rule_row (by decide) (aw_cons w_point_back (by decide) (aw_cons w_not_long_lists (by decide) (aw_cons w_round_points (by decide) (aw_cons w_halves_of (by decide) (aw_cons w_ascending (by decide) aw_nil)))))))) ac_nil bl am_nil d_points_told
  have w_rules_alike : Wk l.prog w K mg base "rules_alike" 2 φ_rules_alike 7 := wk_as F53 (PySem.W.mg_of X G a53) B53 gm_rules_alike g_rules_alike rfl rfl sc_rules_alike rfl rfl (k := 6) (aw_cons w_row_told (by decide) (aw_cons w_rule_row (by decide) aw_nil)) ac_nil bl am_nil d_rules_alike
  have w_least_rule : Wk l.prog w K mg base "least_rule" 1 φ_least_rule 12 := wk_as F54 (PySem.W.mg_of X G a54) B54 gm_least_rule g_least_rule rfl rfl sc_least_rule rfl rfl (k := 11) (aw_cons w_rule_row (by decide) (aw_cons w_points_told (by decide) aw_nil)) ac_nil bl am_nil d_least_rule
  have w_trees_alike : Wk l.prog w K mg base "trees_alike" 2 φ_trees_alike 7 := wk_as F55 (PySem.W.mg_of X G a55) B55 gm_trees_alike g_trees_alike rfl rfl sc_trees_alike rfl rfl (k := 6) (aw_cons w_rule_row (by decide) aw_nil) ac_nil bl am_nil d_trees_alike
  have w_rule_mirrored : Wk l.prog w K mg base "rule_mirrored" 1 φ_rule_mirrored 1 := wk_as F56 (PySem.W.mg_of X G a56) B56 gm_rule_mirrored g_rule_mirrored rfl rfl sc_rule_mirrored rfl rfl (k := 0) aw_nil ac_nil bl am_nil d_rule_mirrored
  have w_law_of : Wk l.prog w K mg base "_law_of" 2 φ_law_of 2 := wk_as F60 (PySem.W.mg_of X G a60) B60 gm_law_of g_law_of rfl rfl sc_law_of rfl rfl (k := 1) (aw_cons w_law_pick (by decide) aw_nil) ac_nil bl am_nil d_law_of
  have w_law_round : Wk l.prog w K mg base "_law_round" 1 φ_law_round 1 := wk_as F61 (PySem.W.mg_of X G a61) B61 gm_law_round g_law_round rfl rfl sc_law_round rfl rfl (k := 0) aw_nil ac_nil bl am_nil d_law_round
  have w_law_low : Wk l.prog w K mg base "_law_low" 2 φ_law_low 2 := wk_as F62 (PySem.W.mg_of X G a62) B62 gm_law_low g_law_low rfl rfl sc_law_low rfl rfl (k := 1) (aw_cons w_law_round (by decide) aw_nil) ac_nil bl am_nil d_law_low
  have w_law_part : Wk l.prog w K mg base "_law_part" 2 φ_law_part 1 := wk_as F63 (PySem.W.mg_of X G a63) B63 gm_law_part g_law_part rfl rfl sc_law_part rfl rfl (k := 0) aw_nil ac_nil bl am_nil d_law_part
  have w_law_rule : Wk l.prog w K mg base "_law_rule" 1 φ_law_rule 3 := wk_as F64 (PySem.W.mg_of X G a64) B64 gm_law_rule g_law_rule rfl rfl sc_law_rule rfl rfl (k := 2) (aw_cons w_law_of (by decide) (aw_cons w_law_part (by decide) aw_nil)) ac_nil bl am_nil d_law_rule
  have w_law_half : Wk l.prog w K mg base "_law_half" 2 φ_law_half 1 := wk_as F65 (PySem.W.mg_of X G a65) B65 gm_law_half g_law_half rfl rfl sc_law_half rfl rfl (k := 0) aw_nil ac_nil bl am_nil d_law_half
  have w_law_moved : Wk l.prog w K mg base "_law_moved" 1 φ_law_moved 1 := wk_as F66 (PySem.W.mg_of X G a66) B66 gm_law_moved g_law_moved rfl rfl sc_law_moved rfl rfl (k := 0) aw_nil ac_nil bl am_nil d_law_moved
  have w_law_point_row : Wk l.prog w K mg base "_law_point_row" 2 φ_law_point_row 3 := wk_as F67 (PySem.W.mg_of X G a67) B67 gm_law_point_row g_law_point_row rfl rfl sc_law_point_row rfl rfl (k := 2) (aw_cons w_law_low (by decide) (aw_cons w_law_half (by decide) (aw_cons w_law_moved (by decide) aw_nil))) ac_nil bl am_nil d_law_point_row
  have w_law_below : Wk l.prog w K mg base "_law_below" 2 φ_law_below 1 := wk_as F68 (PySem.W.mg_of X G a68) B68 gm_law_below g_law_below rfl rfl sc_law_below rfl rfl (k := 0) aw_nil ac_nil bl am_nil d_law_below
  have fin := fg_law (P := l.prog) (w := w) (K := K) (mg := mg) (base := base) (k := 12) F69 gm_law g_law (n := 18) rfl sc_law rfl rfl (aw_cons w_rows_order (by decide) (aw_cons w_points_told (by decide) (aw_cons w_rules_alike (by decide) (aw_cons w_least_rule (by decide) (aw_cons w_trees_alike (by decide) (aw_cons w_rule_mirrored (by decide) (aw_cons w_law_of (by decide) (aw_cons w_law_part (by decide) (aw_cons w_law_rule (by decide) (aw_cons w_law_point_row (by decide) (aw_cons w_law_below (by decide) aw_nil))))))))))) ac_nil bl am_nil (a1 := (defBody (topS 69)).getD 0 (.Pass ⟨0, 0, 0, 0⟩)) (rest := restOf (topS 69)) rfl ?_ d_law lawOk
  · exact fin.mono (by decide)
  · intro Y e1 e2 e3 e4 e5 eN eS eF eG hr
    have hm : Y.mg "_law_source" = some (.ref f58) := by rw [e4]; exact PySem.W.mg_of X G a58
    have FS : FG Y.prog Y.w Y.K Y.mg Y.base CX0 12 f58 (PySem.W.fnOf "_law_source" "_law_source" (defArgs (topS 58)) (defBody (topS 58)) (defScope (topS 58)) .none kV58 dc58 pm58 an58 cd58 ct58) ["script"] (spSrc Y.K) := by
      rw [e1, e2, e3, e4, e5]
      exact fg_source (k := 11) F58 (bl "int" (by decide)) (bl "abs" (by decide))
    exact h1_mk (X := Y) e3 (j := 12) FS hr eG (by rw [eN]; exact sc_law.nd) (by rw [eN]; rfl) (by rw [eN]; rfl) (by rw [eS]; exact isLoc_ok (by decide +kernel)) (by rw [eS]; exact visB_ok (by decide +kernel)) (by show Y.env.scope.names.lookup _ = _; rw [eS]; rfl) hm (by rw [e3]; exact k58) (by rw [e3]; exact B58) (by rw [eF])
end Lw
open PySem PySem.W PyProof.Rows
set_option maxHeartbeats 0 in
theorem PySem.Challenge.cw_pinchedround_k52_whole_least_rules_holds : PySem.Challenge.rw_pinchedround_k52_whole_least_rules.Holds := by
  w_on; o_law; k_head; (case hw => w_witness2)
  k_fill
  refine Dv.walk_g (l := PySem.Challenge.rw_pinchedround_k52_whole_least_rules) (n := 63) (k := 30) (x := "script") (CX := fun _ => L2.CX0) (sp := fun w => Dv.spLaw _) rfl (by decide) rfl ⟨rfl, by decide, by decide⟩ (fun w h Y => PySem.W.kIn_of Y) ?F (fun _ _ a ns hl _ hS => ⟨a, ns, rfl, hS, hl, fun _ => rfl⟩) (fun _ _ _ _ _ h => h)
  case F =>
    intro w mg fa h KX G hmg
    refine' Lw.all_mk KX G hmg Lw.law_ok ?a7 ?l7 ?c7 ?k7 ?a8 ?l8 ?c8 ?k8 ?a9 ?l9 ?c9 ?k9 ?a10 ?l10 ?c10 ?k10 ?a11 ?l11 ?c11 ?k11 ?a15 ?l15 ?c15 ?k15 ?a16 ?l16 ?c16 ?k16 ?a17 ?l17 ?c17 ?k17 ?a19 ?l19 ?c19 ?k19 ?a20 ?l20 ?c20 ?k20 ?a21 ?l21 ?c21 ?k21 ?a22 ?l22 ?c22 ?k22 ?a25 ?l25 ?c25 ?k25 ?a26 ?l26 ?c26 ?k26 ?a27 ?l27 ?c27 ?k27 ?a28 ?l28 ?c28 ?k28 ?a30 ?l30 ?c30 ?k30 ?a31 ?l31 ?c31 ?k31 ?a36 ?l36 ?c36 ?k36 ?a38 ?l38 ?c38 ?k38 ?a39 ?l39 ?c39 ?k39 ?a40 ?l40 ?c40 ?k40 ?a41 ?l41 ?c41 ?k41 ?a42 ?l42 ?c42 ?k42 ?a43 ?l43 ?c43 ?k43 ?a44 ?l44 ?c44 ?k44 ?a45 ?l45 ?c45 ?k45 ?a46 ?l46 ?c46 ?k46 ?a47 ?l47 ?c47 ?k47 ?a48 ?l48 ?c48 ?k48 ?a49 ?l49 ?c49 ?k49 ?a50 ?l50 ?c50 ?k50 ?a51 ?l51 ?c51 ?k51 ?a53 ?l53 ?c53 ?k53 ?a54 ?l54 ?c54 ?k54 ?a55 ?l55 ?c55 ?k55 ?a56 ?l56 ?c56 ?k56 ?a58 ?l58 ?c58 ?k58 ?a59 ?l59 ?c59 ?k59 ?a60 ?l60 ?c60 ?k60 ?a61 ?l61 ?c61 ?k61 ?a62 ?l62 ?c62 ?k62 ?a63 ?l63 ?c63 ?k63 ?a64 ?l64 ?c64 ?k64 ?a65 ?l65 ?c65 ?k65 ?a66 ?l66 ?c66 ?k66 ?a67 ?l67 ?c67 ?k67 ?a68 ?l68 ?c68 ?k68 ?a69 ?l69 ?c69 ?k69 ?g5 ?g6 ?g13 ?g14 ?g24 ?g33 ?g34 ?g35 ?z0 ?z1 ?z2 ?z3 ?z4 ?z5 ?z6 ?z7 ?z8 ?z9 ?z10 ?z11 ?z12 ?z13 ?z14 ?z15 ?z16 ?z17 ?z18 ?m_gcd
    (case a7 => k_is); (case l7 => k_is); (case c7 => k_is); (case k7 => k_is); (case a8 => k_is); (case l8 => k_is); (case c8 => k_is); (case k8 => k_is); (case a9 => k_is); (case l9 => k_is); (case c9 => k_is); (case k9 => k_is); (case a10 => k_is); (case l10 => k_is); (case c10 => k_is); (case k10 => k_is); (case a11 => k_is); (case l11 => k_is); (case c11 => k_is); (case k11 => k_is); (case a15 => k_is); (case l15 => k_is); (case c15 => k_is); (case k15 => k_is); (case a16 => k_is); (case l16 => k_is); (case c16 => k_is); (case k16 => k_is); (case a17 => k_is); (case l17 => k_is); (case c17 => k_is); (case k17 => k_is); (case a19 => k_is); (case l19 => k_is); (case c19 => k_is); (case k19 => k_is); (case a20 => k_is); (case l20 => k_is); (case c20 => k_is); (case k20 => k_is); (case a21 => k_is); (case l21 => k_is); (case c21 => k_is); (case k21 => k_is); (case a22 => k_is); (case l22 => k_is); (case c22 => k_is); (case k22 => k_is); (case a25 => k_is); (case l25 => k_is); (case c25 => k_is); (case k25 => k_is); (case a26 => k_is); (case l26 => k_is); (case c26 => k_is); (case k26 => k_is); (case a27 => k_is); (case l27 => k_is); (case c27 => k_is); (case k27 => k_is); (case a28 => k_is); (case l28 => k_is); (case c28 => k_is); (case k28 => k_is); (case a30 => k_is); (case l30 => k_is); (case c30 => k_is); (case k30 => k_is); (case a31 => k_is); (case l31 => k_is); (case c31 => k_is); (case k31 => k_is); (case a36 => k_is); (case l36 => k_is); (case c36 => k_is); (case k36 => k_is); (case a38 => k_is); (case l38 => k_is); (case c38 => k_is); (case k38 => k_is); (case a39 => k_is); (case l39 => k_is); (case c39 => k_is); (case k39 => k_is); (case a40 => k_is); (case l40 => k_is); (case c40 => k_is); (case k40 => k_is); (case a41 => k_is); (case l41 => k_is); (case c41 => k_is); (case k41 => k_is); (case a42 => k_is); (case l42 => k_is); (case c42 => k_is); (case k42 => k_is); (case a43 => k_is); (case l43 => k_is); (case c43 => k_is); (case k43 => k_is); (case a44 => k_is); (case l44 => k_is); (case c44 => k_is); (case k44 => k_is); (case a45 => k_is); (case l45 => k_is); (case c45 => k_is); (case k45 => k_is); (case a46 => k_is); (case l46 => k_is); (case c46 => k_is); (case k46 => k_is); (case a47 => k_is); (case l47 => k_is); (case c47 => k_is); (case k47 => k_is); (case a48 => k_is); (case l48 => k_is); (case c48 => k_is); (case k48 => k_is); (case a49 => k_is); (case l49 => k_is); (case c49 => k_is); (case k49 => k_is); (case a50 => k_is); (case l50 => k_is); (case c50 => k_is); (case k50 => k_is); (case a51 => k_is); (case l51 => k_is); (case c51 => k_is); (case k51 => k_is); (case a53 => k_is); (case l53 => k_is); (case c53 => k_is); (case k53 => k_is); (case a54 => k_is); (case l54 => k_is); (case c54 => k_is); (case k54 => k_is); (case a55 => k_is); (case l55 => k_is); (case c55 => k_is); (case k55 => k_is); (case a56 => k_is); (case l56 => k_is); (case c56 => k_is); (case k56 => k_is); (case a58 => k_is); (case l58 => k_is); (case c58 => k_is); (case k58 => k_is); (case a59 => k_is); (case l59 => k_is); (case c59 => k_is); (case k59 => k_is); (case a60 => k_is); (case l60 => k_is); (case c60 => k_is); (case k60 => k_is); (case a61 => k_is); (case l61 => k_is); (case c61 => k_is); (case k61 => k_is); (case a62 => k_is); (case l62 => k_is); (case c62 => k_is); (case k62 => k_is); (case a63 => k_is); (case l63 => k_is); (case c63 => k_is); (case k63 => k_is); (case a64 => k_is); (case l64 => k_is); (case c64 => k_is); (case k64 => k_is); (case a65 => k_is); (case l65 => k_is); (case c65 => k_is); (case k65 => k_is); (case a66 => k_is); (case l66 => k_is); (case c66 => k_is); (case k66 => k_is); (case a67 => k_is); (case l67 => k_is); (case c67 => k_is); (case k67 => k_is); (case a68 => k_is); (case l68 => k_is); (case c68 => k_is); (case k68 => k_is); (case a69 => k_is); (case l69 => k_is); (case c69 => k_is); (case k69 => k_is); (case g5 => k_is); (case g6 => k_is); (case g13 => k_is); (case g14 => k_is); (case g24 => k_is); (case g33 => k_is); (case g34 => k_is); (case g35 => k_is); (case z0 => k_is); (case z1 => k_is); (case z2 => k_is); (case z3 => k_is); (case z4 => k_is); (case z5 => k_is); (case z6 => k_is); (case z7 => k_is); (case z8 => k_is); (case z9 => k_is); (case z10 => k_is); (case z11 => k_is); (case z12 => k_is); (case z13 => k_is); (case z14 => k_is); (case z15 => k_is); (case z16 => k_is); (case z17 => k_is); (case z18 => k_is); (case m_gcd => k_is)
