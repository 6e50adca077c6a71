import PyProof.Rows.All
import Wide.All
import OpenK.AllK
import Wide.FinOn
import KE.KStateDown
import HandS.ForMost
import HandS.ForExc
import HandS.IsInst
import HandS.Defaults
import HandS.HeadEnd
import HandS.EndBits
import PyProof.ReprRoads
import PyProof.ReprLen
import HandS.Flow
import HandS.Style
import HandS.Walk
import HandS.Head0
import HandS.Head1
import HandS.Head2
import HandS.HeadHook1
import HandS.HeadHook2
import KE.KExcSuper
import HandS.HeadWalk
import PyProof.InstStoreFacts
import PyProof.ExcBaseAll.LookupError
import HandS.TryMany
import HandS.ExcField
import KE.IntTextLaws
import PyProof.StrOps2
import PySem.Challenge.RW_eventdeliveries_k02_integers_parsed
set_option Elab.async false
set_option linter.all false
set_option maxRecDepth 100000
set_option maxHeartbeats 4000000
/-! # LA: defs that are called where no repr is under way (G), their calls, the law's end -/
namespace G
open PySem PySem.Spec PyProof.Rows L2
/-- no repr (or another guarded call) runs around -/
abbrev Clear (A : Around) : Prop := A.guards = some []
/-- as L2.FnOk, at clear surroundings alone -/
structure FnG (P : Program) (w : World) (K : PySem.W.Frag) (mg : Str → Option Value) (base : Heap) (cx : CXT) (k : Nat) (f : Addr) (fd : FuncData) (ps : List Str) (sp : Sp) : Prop where
  len : ∀ vs H Q E, sp vs H Q E → vs.length = ps.length
  run : ∀ (A : Around) (outer : List Env) (s : Shared) (H : Hp) (args : Args) (us : List Value) (vs : List V) (Q : VK) (E : XK), Clear A → Room k A → Env0 P w K mg base A outer s H → BindsTo s fd args (ps.zip us) → Vals vs us → sp vs H Q E →
    codeAny (model P w) A (.call (.ref f) args) (CR cx outer P w H s Q E) s
theorem FnG.of {P : Program} {w : World} {K : PySem.W.Frag} {mg : Str → Option Value} {base : Heap} {cx : CXT} {k : Nat} {f : Addr} {fd : FuncData} {ps : List Str} {sp : Sp} (F : FnOk P w K mg base cx k f fd ps sp) : FnG P w K mg base cx k f fd ps sp :=
  ⟨F.len, fun A outer s H args us vs Q E _ => F.run A outer s H args us vs Q E⟩
theorem FnG.mono {P : Program} {w : World} {K : PySem.W.Frag} {mg : Str → Option Value} {base : Heap} {cx : CXT} {j k : Nat} {f : Addr} {fd : FuncData} {ps : List Str} {sp : Sp} (F : FnG P w K mg base cx j f fd ps sp) (h : j ≤ k) : FnG P w K mg base cx k f fd ps sp :=
  ⟨F.len, fun A outer s H args us vs Q E c r => F.run A outer s H args us vs Q E c (r.mono h)⟩
section
variable {X : Cx} {cx : CXT} {k : Nat} {f : Addr} {fd : FuncData} {ps : List Str} {sp : Sp} {dvs : List V} {ds : List Value} {E : XK} {x : Str} {p pos : Pos} {e : Expr} {es : List Expr} {t : TA}
theorem run_fnG {pins : List (Addr × Obj)} {σ : L2.St} {H : Hp} {s : Shared} {Q : VK} {us : List Value} {vs : List V} (F : FnG X.prog X.w X.K X.mg X.base cx k f fd ps sp) (cl : Clear X.A) (hr : Room k X.A) (hb : Binds X.K fd ps ds) (hd : Vals dvs ds) (hx : Passes cx X E)
    (I : Inv X pins σ H s) (r : Vals vs us) (h : sp (vs ++ dvs) H Q E) : wpAny (model X.prog X.w) X.A (call (.ref f) us) (EP X pins σ Q) X.xe s := by
  have rr : Vals (vs ++ dvs) (us ++ ds) := r.append hd
  have ll : (us ++ ds).length = ps.length := rr.length ▸ F.len _ _ _ _ h
  refine wpAny_call (codeAny_mono (F.run X.A X.stack s H ⟨us, []⟩ (us ++ ds) (vs ++ dvs) Q E cl hr I.env0 (hb s us I.kIn ll) rr h) fun res s' z => ?_)
  rcases res with e | fl
  · exact hx pins σ H s e s' I z
  · cases fl <;> first | exact I.after z | exact False.elim z
theorem pe_callG (F : FnG X.prog X.w X.K X.mg X.base cx k f fd ps sp) (cl : Clear X.A) (hr : Room k X.A) (hg : Gl X x) (hm : X.mg x = some (.ref f)) (hk : PySem.W.keepIn X.K (.ref f) = true) (hb : Binds X.K fd ps ds) (hd : Vals dvs ds) (hx : Passes cx X E) (ha : PA X (e :: es) t)
    (q1 : (x == ("__debug__" : Str)) = false := by decide) (q2 : starEach (e :: es) X.env = (false, eval e X.env) :: starEach es X.env := by rfl) (q3 : (backTo pos (starEach es X.env)).any (·.1) = false := by rfl) : PE X (.Call (.Name x p) (e :: es) [] pos) (tCall sp dvs E t) :=
  ⟨fun pins s σ H Q I h => wpAny_Call_Name_kw (ld_glob I hg hm (PySem.W.callWith_K (h₀ := X.base) I.ok.mod.kin hk (thn (ha.run pos pins s σ H _ I h) fun us s1 ⟨vs, H1, I1, r, q⟩ => ⟨I1.kIn, run_fnG F cl hr hb hd hx I1 r q⟩) q2 q3) q1)⟩
end
/-- the rule for a def, at clear surroundings -/
theorem fnG {cx : CXT} {P : Program} {w : World} {K : PySem.W.Frag} {mg : Str → Option Value} {base : Heap} {k : Nat} {f : Addr} {fd : FuncData} {name qual : Str} {params : Arguments} {body : List Stmt} {scope : Scope} {dvs : List V} {kws : List (Str × V)} {N ps : List Str} {sp : Sp}
    (F : FunD K name qual params body scope dvs kws f fd) (S : FnScope N ps scope) (len : ∀ vs H Q E, sp vs H Q E → vs.length = ps.length)
    (hbody : ∀ (cdv : Value) (A : Around) (outer : List Env) (s : Shared) (H : Hp) (vs : List V) (Q : VK) (E : XK), Clear (A.deeper (envOfC qual scope s.heap.objs.size f cdv)) → Room k (A.deeper (envOfC qual scope s.heap.objs.size f cdv)) → sp vs H Q E →
      ∃ t, PSs (cxOf cx P w K mg base N qual scope f cdv A outer s H E) body t ∧ t { nx := fun _ H' => Q .non H', rt := Q } (start N vs) H) : FnG P w K mg base cx (k + 1) f fd ps sp := by
  obtain ⟨oc, od, dV, kV, doc, pm, an, cdv, ct, osl, rfl, lk, hcd, _, _⟩ := F.ex
  refine ⟨len, fun A outer s H args us vs Q E cl hr e0 hb r hsp => ?_⟩
  have KX : K.In s.heap := PySem.W.Frag.In.keeps e0.mod.kin fun b o q => And.left (e0.bs b o q)
  have lim : s.heap.NoLimit := Heap.NoLimit.keeps e0.mod.nolimit fun b o q => And.left (e0.bs b o q)
  refine codeAny_call_function hr.depth (KX _ _ lk) rfl S.co S.gen rfl (PySem.W.codeRec_of KX hcd) (hb _ _ _ _ (wpAny_newFunctionEnv_cells S.kind (fun y hy => ?_) fun env he s1 x => ?_))
  · exact (S.par y.1 (List.of_mem_zip hy).1).imp id fun q => ⟨q, PySem.W.cellsFrom_some _ _ _ (.inl q)⟩
  · subst he
    obtain ⟨t, ht, hq⟩ := hbody cdv A outer s H vs Q E cl (hr.deeper _) hsp
    refine ⟨lim.keeps x.toInCall.keep, codeAny_func (wpAny_mono (ht.run [] s1 (start N vs) H _ (inv_start S hr.hd e0 (len _ _ _ _ hsp) r x) hq) (fun fl s' hs => ?_) fun e s' hs => hs)⟩
    cases fl with
    | ret u => exact let ⟨v, _, H', J, rv, q⟩ := hs; ⟨v, H', J.os, J.bare, J.base, J.hok, rv, q⟩
    | next => exact let ⟨_, H', J, q⟩ := hs; ⟨V.non, H', J.os, J.bare, J.base, J.hok, rfl, q⟩
    | brk => exact let ⟨_, _, _, q⟩ := hs; False.elim q
    | cont => exact let ⟨_, _, _, q⟩ := hs; False.elim q
/-- the law's call -/
theorem lawG {P : Program} {w : World} {K : PySem.W.Frag} {mg mb : Str → Option Value} {cx : CXT} {k : Nat} {fa a : Addr} {fd : FuncData} {x : Str} {sp : Sp} {s₁ : Shared} {vs : List Value} {ns : List Int}
    (KX : K.In s₁.heap) (hns : s₁.heap.Ns mainGlobals mg) (hb : s₁.heap.Ns builtinsNs mb) (hbb : ∀ x : Str, x ≠ "__name__" → mb x = bootBuiltins x) (hlim : s₁.heap.NoLimit) (hg : s₁.gens = #[])
    (ha : s₁.heap.get? a = some { cls := .type "list", data := .seq vs.toArray }) (hi : IntsAre vs ns) (hl : ns.length ≤ sizeLine) (hr : Room k callerA)
    (F : ∀ base : Heap, K.In base → base.Ns mainGlobals mg → FnG P w K mg base cx k fa fd [x] sp) (hbind : ∀ (s : Shared) (u : Value), BindsTo s fd ⟨[u], []⟩ [(x, u)])
    (hsp : ∀ H : Hp, Only H → SqL K H a (ns.map V.int) → sp [.ref a] H (fun v _ => v = .bl true) fun _ _ _ => False) (hcx : ∀ H e s', cx [] H s₁ (fun _ _ _ => False) e s' → False) :
    codeAny (model P w) callerA (.call (.ref fa) ⟨[.ref a], []⟩) (fun r s' => r = .ok (.ret (.bool true)) ∧ OldK s₁.heap s'.heap ∧ s'.os = s₁.os ∧ AllBare s'.gens) s₁ := by
  have core : ∀ H : Hp, Only H → SqL K H a (ns.map V.int) → HOk P w H s₁.heap → (∀ b u, H b = some u → b = a) → (∀ u, H a = some u → K.lookup a = none) →
      codeAny (model P w) callerA (.call (.ref fa) ⟨[.ref a], []⟩) (fun r s' => r = .ok (.ret (.bool true)) ∧ OldK s₁.heap s'.heap ∧ s'.os = s₁.os ∧ AllBare s'.gens) s₁ := by
    intro H hO hS hok hA hK
    have nodict : ∀ {b : Addr} {o : Obj} {es : Array DictEntry} {n : Nat}, s₁.heap.get? b = some o → o.data = .dict es n → H b = none := by
      intro b o es n q d
      rcases Option.eq_none_or_eq_some (H b) with z | ⟨u, z⟩
      · exact z
      · have eb := hA b u z
        rw [eb, ha] at q
        cases q
        exact nomatch d
    have nsK : ∀ {b : Addr} {m : Str → Option Value}, s₁.heap.Ns b m → (hidT s₁.heap H).Ns b m := fun ⟨o, es, n, q, d, r⟩ => ⟨o, es, n, hidT_get q (nodict q d), d, r⟩
    have hKb : K.In (hidT s₁.heap H) := by
      intro b o q
      refine hidT_get (KX b o q) ?_
      rcases Option.eq_none_or_eq_some (H b) with z | ⟨u, z⟩
      · exact z
      · have eb := hA b u z
        subst eb
        rw [hK u z] at q
        cases q
    have hM : Mod K mg (hidT s₁.heap H) := ⟨hKb, nsK hns, ⟨mb, nsK hb, hbb⟩, hlim.elim fun mc z => ⟨mc, nsK z.1, z.2⟩⟩
    have e0 : Env0 P w K mg (hidT s₁.heap H) callerA [] s₁ H := ⟨rfl, hM, fun b o q => of_hidT q, Nat.le_of_eq (hidT_size _ _), trivial, fun b z => absurd (show b ∈ ([] : List Addr) from z) (by simp), hok, .of_eq hg⟩
    refine codeAny_mono ((F _ hKb (nsK hns)).run callerA [] s₁ H ⟨[.ref a], []⟩ [.ref a] [.ref a] _ _ rfl hr e0 (hbind s₁ (.ref a)) (.cons rfl .nil) (hsp H hO hS)) fun r s' h => ?_
    rcases r with e | fl
    · exact False.elim (hcx H e s' h)
    · cases fl with
      | ret u =>
        obtain ⟨v, H', os, bare, un, hok', rv, qv⟩ := h
        have ev : v = .bl true := qv
        rw [ev] at rv
        have eu : u = Value.bool true := rv
        rw [eu]
        refine ⟨rfl, OldK.of_keep fun b o q => ?_, os, bare⟩
        rcases hO b with z | ⟨ob, xs, z⟩
        · exact un.keep b o q z (fun y => absurd (show b ∈ ([] : List Addr) from y) (by simp)) (by simp)
        · obtain ⟨e1, _⟩ := hok b _ z
          obtain ⟨e2, _⟩ := hok' b _ (un.frzs b ob _ z)
          exact (q.symm.trans e1) ▸ e2
      | _ => exact False.elim h
  cases hk : K.lookup a with
  | some o =>
    have q := KX a o hk
    rw [ha] at q
    cases q
    exact core (fun _ => none) (fun _ => .inl rfl) (.inr ⟨_, vs.toArray, _, hk, rfl, rfl, rfl, by rw [List.size_toArray, hi.length]; exact hl, by simpa using vals_ints hi⟩) (fun b u z => nomatch (show (none : Option HO) = some u from z)) (fun b u z => nomatch (show (none : Option HO) = some u from z)) fun u z => nomatch (show (none : Option HO) = some u from z)
  | none =>
    refine core (upd (fun _ => none) a (.frz { cls := .type "list", data := .seq vs.toArray } (.lst (ns.map V.int)))) (fun b => ?_) (.inl (.inr ⟨_, upd_same⟩)) (fun b u z => ?_) (fun b u z => ?_) fun _ _ => hk
    · by_cases hb : b = a
      · exact .inr ⟨_, _, by rw [hb]; exact upd_same⟩
      · exact .inl (upd_ne hb)
    · by_cases hb : b = a
      · rw [hb, upd_same] at z
        cases z
        rw [hb]
        exact ⟨ha, by rw [List.length_map]; exact hl, vs, _, vals_ints hi, ha⟩
      · rw [upd_ne hb] at z
        cases z
    · by_cases hb : b = a
      · exact hb
      · rw [upd_ne hb] at z
        cases z
/-- the law's end: over a head by facts, the script's bits told -/
theorem walkG {l : PySem.W.OpenLaw} {n k : Nat} {q : Program} {loose : List Str} {XP : (Str → Option Value) → Heap → Prop} {YP : World → Heap → Prop} {d : DefRec} {cx : CXT} {x : Str}
    (hn : l.most = some n) (hn2 : n ≤ sizeLine) (hdf : d.params.defaults = []) (hr : Room k callerA)
    (F : ∀ (w : World) (mg : Str → Option Value) (fa : Addr) (h : Heap), YP w h → h.Ns mainGlobals mg → mg d.name = some (.ref fa) → ∃ (K : PySem.W.Frag) (fd : FuncData) (sp : Sp), K.In h ∧ (∀ (s : Shared) (u : Value), BindsTo s fd ⟨[u], []⟩ [(x, u)]) ∧
        (∀ (H : Hp) (a : Addr) (ns : List Int), ns.length ≤ n → (∀ z ∈ ns, Builtin.Int.intBits z ≤ 1048576) → Only H → SqL K H a (ns.map V.int) → sp [.ref a] H (fun v _ => v = .bl true) fun _ _ _ => False) ∧
        ∀ base : Heap, K.In base → base.Ns mainGlobals mg → FnG l.prog w K mg base cx k fa fd [x] sp)
    (hcx : ∀ (H : Hp) (s : Shared) (e : Value) (s' : Shared), cx [] H s (fun _ _ _ => False) e s' → False) : PySem.W.WalkO q loose XP YP l.row.toRowW d [] (fun f vs => PySem.call f vs) := by
  refine Att.attach_callB hn hdf fun w s₀ s₁ mg mb fa o pm cd doc a vs ns G Y ho hd hcd hmg hobj hints hlen hbits hg => ?_
  obtain ⟨K, fd, sp, KX, hb, hsp, hF⟩ := F w mg fa _ Y G.T.g hmg
  exact lawG KX G.T.g G.T.b G.T.builtins G.T.nolimit hg hobj hints (Nat.le_trans hlen hn2) hr hF hb (fun H hO hS => hsp H a ns hlen hbits hO hS) fun H e s' => hcx H s₁ e s'
end G
/-! # LB: data of any depth that stand in the heap (lists, tuples, dicts with int and text keys), repr of them -/
namespace G
open PySem PySem.Spec PyProof.Rows L2
def kD : Key → PyData
  | .inl i => .int i
  | .inr x => .str x
/-- v is the datum d -/
inductive Dq (K : PySem.W.Frag) (H : Hp) : V → PyData → Prop
  | non : Dq K H .non .none
  | bl (b : Bool) : Dq K H (.bl b) (.bool b)
  | int (i : Int) : Dq K H (.int i) (.int i)
  | str (x : Str) : Dq K H (.str x) (.str x)
  | lst {a : Addr} {xs : List V} {ds : List PyData} : SqL K H a xs → xs.length = ds.length → (∀ (i : Nat) (x : V) (d : PyData), xs[i]? = some x → ds[i]? = some d → Dq K H x d) → Dq K H (.ref a) (.list ds)
  | tup {a : Addr} {xs : List V} {ds : List PyData} : SqT K H a xs → xs.length = ds.length → (∀ (i : Nat) (x : V) (d : PyData), xs[i]? = some x → ds[i]? = some d → Dq K H x d) → Dq K H (.ref a) (.tuple ds)
  | dct {a : Addr} {kvs : List (Key × V)} {ds : List PyData} : Rd H a (.dK kvs) → kvs.length = ds.length → (∀ (i : Nat) (q : Key × V) (d : PyData), kvs[i]? = some q → ds[i]? = some d → Dq K H q.2 d) →
      Dq K H (.ref a) (.dict ((kvs.map fun q => kD q.1).zip ds))
abbrev DqAll (K : PySem.W.Frag) (H : Hp) : List V → List PyData → Prop := Paired (Dq K H)
theorem paired_at {α β : Type} {F : α → β → Prop} : ∀ {l₁ : List α} {l₂ : List β}, Paired F l₁ l₂ → ∀ (i : Nat) (x : α) (y : β), l₁[i]? = some x → l₂[i]? = some y → F x y
  | _, _, .nil, i, x, y, h, _ => by simp at h
  | _, _, .cons r t, 0, x, y, h, h' => by
    simp at h h'
    subst h h'
    exact r
  | _, _, .cons r t, i + 1, x, y, h, h' => paired_at t i x y (by simpa using h) (by simpa using h')
theorem Dq.lstA {K : PySem.W.Frag} {H : Hp} {a : Addr} {xs : List V} {ds : List PyData} (h : SqL K H a xs) (p : DqAll K H xs ds) : Dq K H (.ref a) (.list ds) := .lst h (Paired.length p) (paired_at p)
theorem Dq.tupA {K : PySem.W.Frag} {H : Hp} {a : Addr} {xs : List V} {ds : List PyData} (h : SqT K H a xs) (p : DqAll K H xs ds) : Dq K H (.ref a) (.tuple ds) := .tup h (Paired.length p) (paired_at p)
theorem Dq.lstH {K : PySem.W.Frag} {H : Hp} {a : Addr} {xs : List V} {ds : List PyData} (h : H a = some (.lst xs)) (p : DqAll K H xs ds) : Dq K H (.ref a) (.list ds) := .lstA (SqL.of h) p
theorem Dq.tupH {K : PySem.W.Frag} {H : Hp} {a : Addr} {xs : List V} {ds : List PyData} (h : H a = some (.tup xs)) (p : DqAll K H xs ds) : Dq K H (.ref a) (.tuple ds) := .tupA (SqT.of h) p
/-- the script's module dict stands in the written part (no list, no dict of the law is it) -/
def SysIn (K : PySem.W.Frag) : Prop := ∃ o es n, K.lookup sysModules = some o ∧ o.data = .dict es n
theorem readsAll_of {h : Heap} : ∀ {us : List Value} {ds : List PyData}, us.length = ds.length → (∀ (i : Nat) (u : Value) (d : PyData), us[i]? = some u → ds[i]? = some d → ∃ as, Reads h u d as ∧ sysModules ∉ as) → ∃ as, ReadsAll h us ds as ∧ sysModules ∉ as
  | [], [], _, _ => ⟨[], .nil, by simp⟩
  | [], _ :: _, hl, _ => by simp at hl
  | _ :: _, [], hl, _ => by simp at hl
  | u :: us, d :: ds, hl, f => by
    obtain ⟨as, r1, n1⟩ := f 0 u d rfl rfl
    obtain ⟨bs, r2, n2⟩ := readsAll_of (us := us) (ds := ds) (by simpa using hl) fun i x y e1 e2 => f (i + 1) x y (by simpa using e1) (by simpa using e2)
    refine ⟨as ++ bs, .cons r1 r2, fun z => ?_⟩
    rcases List.mem_append.mp z with z | z
    · exact n1 z
    · exact n2 z
theorem pairs_keys {P : Program} {w : World} : ∀ {es : List DictEntry} {vs : List (Key × Value)}, Pairs (mixKind P w) es vs → es.length = vs.length ∧ (∀ (i : Nat) (e : DictEntry) (q : Key × Value), es[i]? = some e → vs[i]? = some q → keyIs q.1 e.key = true ∧ e.val = q.2)
  | _, _, .nil => ⟨rfl, fun i e q h => by simp at h⟩
  | _, _, .cons a b t => by
    obtain ⟨h1, h2⟩ := pairs_keys t
    refine ⟨by simp [h1], fun i e q he hq => ?_⟩
    cases i with
    | zero =>
      simp at he hq
      subst he hq
      exact ⟨a, b⟩
    | succ i => exact h2 i e q (by simpa using he) (by simpa using hq)
theorem zip_fst {α β : Type} : ∀ {l₁ : List α} {l₂ : List β}, l₁.length = l₂.length → (l₁.zip l₂).map (·.1) = l₁
  | [], [], _ => rfl
  | [], _ :: _, h => by simp at h
  | _ :: _, [], h => by simp at h
  | a :: l₁, b :: l₂, h => by
    show a :: (l₁.zip l₂).map (·.1) = a :: l₁
    rw [zip_fst (by simpa using h)]
theorem zip_snd {α β : Type} : ∀ {l₁ : List α} {l₂ : List β}, l₁.length = l₂.length → (l₁.zip l₂).map (·.2) = l₂
  | [], [], _ => rfl
  | [], _ :: _, h => by simp at h
  | _ :: _, [], h => by simp at h
  | a :: l₁, b :: l₂, h => by
    show b :: (l₁.zip l₂).map (·.2) = b :: l₂
    rw [zip_snd (by simpa using h)]
section
variable {X : Cx} {pins : List (Addr × Obj)} {σ : L2.St} {H : Hp} {s : Shared}
theorem tracked_ne (I : Inv X pins σ H s) (S : SysIn X.K) {a : Addr} {o : HO} (h : H a = some o) : a ≠ sysModules := by
  obtain ⟨ob, es, n, hk, _⟩ := S
  have z := (I.bs _ _ (I.ok.mod.kin _ _ hk)).2
  exact ne_of_none h z
theorem rd_ne (I : Inv X pins σ H s) (S : SysIn X.K) {a : Addr} {o : HO} (h : Rd H a o) : a ≠ sysModules := by
  rcases h with h | ⟨_, h⟩
  · exact tracked_ne I S h
  · exact tracked_ne I S h
theorem kv_at : ∀ {kvs : List (Key × V)} {vs : List (Key × Value)}, KV kvs vs → kvs.length = vs.length ∧ ∀ (i : Nat) (q : Key × Value), vs[i]? = some q → ∃ p, kvs[i]? = some p ∧ p.1 = q.1 ∧ RelV p.2 q.2
  | _, _, .nil => ⟨rfl, fun i q h => by simp at h⟩
  | _, _, .cons r t => by
    obtain ⟨h1, h2⟩ := kv_at t
    refine ⟨by simp [h1], fun i q hq => ?_⟩
    cases i with
    | zero =>
      simp at hq
      subst hq
      exact ⟨_, rfl, r⟩
    | succ i => exact h2 i q (by simpa using hq)
theorem Dq.reads (I : Inv X pins σ H s) (S : SysIn X.K) {v : V} {d : PyData} (h : Dq X.K H v d) : ∀ u, RelV v u → ∃ as, Reads s.heap u d as ∧ sysModules ∉ as := by
  induction h with
  | non => exact fun u r => ⟨[], (show u = Value.none from r) ▸ Reads.none, by simp⟩
  | bl b => exact fun u r => ⟨[], (show u = Value.bool b from r) ▸ Reads.bool b, by simp⟩
  | int i =>
    intro u r
    obtain ⟨t, rfl⟩ := r
    exact ⟨[], Reads.int i t, by simp⟩
  | str x =>
    intro u r
    obtain ⟨t, rfl⟩ := r
    exact ⟨[], Reads.str x t, by simp⟩
  | @lst a xs ds hs hl _ ih =>
    intro u r
    cases (show u = Value.ref a from r)
    obtain ⟨its, rv, ⟨o, n, ho, hc, _, hd⟩, _⟩ := I.list hs
    have el := rv.length
    obtain ⟨as, hr, hn⟩ := readsAll_of (h := s.heap) (us := its) (ds := ds) (by omega) fun i u d hu hd => by
      have hi : i < xs.length := by
        have := (List.getElem?_eq_some_iff.mp hu).1
        omega
      obtain ⟨u', hu', ru⟩ := rv.get (List.getElem?_eq_getElem hi)
      rw [hu] at hu'
      cases hu'
      exact ih i _ d (List.getElem?_eq_getElem hi) hd _ ru
    refine ⟨a :: as, Reads.list ho hc hd hr, fun z => ?_⟩
    rcases List.mem_cons.mp z with z | z
    · rcases hs with q | ⟨o', its', n', hk, _, _, hd', _⟩
      · exact rd_ne I S q z.symm
      · obtain ⟨ob, es, m, hk2, hd2⟩ := S
        rw [← z, hk2] at hk
        cases hk
        rw [hd2] at hd'
        cases hd'
    · exact hn z
  | @tup a xs ds hs hl _ ih =>
    intro u r
    cases (show u = Value.ref a from r)
    obtain ⟨its, rv, ⟨o, ho, hc, n, hd⟩, _⟩ := I.tuple hs
    have el := rv.length
    obtain ⟨as, hr, hn⟩ := readsAll_of (h := s.heap) (us := its) (ds := ds) (by omega) fun i u d hu hd => by
      have hi : i < xs.length := by
        have := (List.getElem?_eq_some_iff.mp hu).1
        omega
      obtain ⟨u', hu', ru⟩ := rv.get (List.getElem?_eq_getElem hi)
      rw [hu] at hu'
      cases hu'
      exact ih i _ d (List.getElem?_eq_getElem hi) hd _ ru
    exact ⟨as, Reads.tuple ho hc hd hr, hn⟩
  | @dct a kvs ds hs hl _ ih =>
    intro u r
    cases (show u = Value.ref a from r)
    obtain ⟨z, hsys, vs, rel, o, es, ep, ho, ex, hd, _, prs, _⟩ := dk_rd I.hok hs
    obtain ⟨l1, k1⟩ := pairs_keys prs
    obtain ⟨l2, k2⟩ := kv_at rel
    have lk : (kvs.map fun q => kD q.1).length = ds.length := by rw [List.length_map]; exact hl
    obtain ⟨as, r1, n1⟩ := readsAll_of (h := s.heap) (us := es.toList.map (·.key)) (ds := kvs.map fun q => kD q.1) (by rw [List.length_map, List.length_map]; omega) fun i u d hu hd => by
      rw [List.getElem?_map] at hu hd
      obtain ⟨e, he, rfl⟩ := Option.map_eq_some_iff.mp hu
      obtain ⟨q, hq, rfl⟩ := Option.map_eq_some_iff.mp hd
      have hi : i < vs.length := by
        have := (List.getElem?_eq_some_iff.mp hq).1
        omega
      obtain ⟨p, hp, e1, _⟩ := k2 i _ (List.getElem?_eq_getElem hi)
      rw [hq] at hp
      cases hp
      have kk := (k1 i e _ he (List.getElem?_eq_getElem hi)).1
      rw [← e1] at kk
      rcases keyIs_shape kk with ⟨j, t, e2, e3⟩ | ⟨y, t, e2, e3⟩
      · rw [e2, e3]
        exact ⟨[], Reads.int j t, by simp⟩
      · rw [e2, e3]
        exact ⟨[], Reads.str y t, by simp⟩
    obtain ⟨bs, r2, n2⟩ := readsAll_of (h := s.heap) (us := es.toList.map (·.val)) (ds := ds) (by rw [List.length_map]; omega) fun i u d hu hd => by
      rw [List.getElem?_map] at hu
      obtain ⟨e, he, rfl⟩ := Option.map_eq_some_iff.mp hu
      have hi : i < vs.length := by
        have := (List.getElem?_eq_some_iff.mp he).1
        omega
      obtain ⟨p, hp, e1, rp⟩ := k2 i _ (List.getElem?_eq_getElem hi)
      have vv := (k1 i e _ he (List.getElem?_eq_getElem hi)).2
      rw [vv]
      exact ih i p d hp hd _ rp
    refine ⟨a :: as ++ bs, Reads.dict ho ex.1 hd (by rw [zip_fst lk]; exact r1) (by rw [zip_snd lk]; exact r2), fun z => ?_⟩
    rcases List.mem_append.mp z with z | z
    · rcases List.mem_cons.mp z with z | z
      · exact rd_ne I S hs z.symm
      · exact n1 z
    · exact n2 z
end
/-- what may be shown: at most n signs, at most k levels -/
structure Okd (n k : Nat) (d : PyData) : Prop where
  sh : d.showable = true
  dp : d.depth ≤ k
  ln : d.shown.length ≤ n
theorem Okd.mono {n k n' k' : Nat} {d : PyData} (h : Okd n k d) (hn : n ≤ n') (hk : k ≤ k') : Okd n' k' d := ⟨h.sh, Nat.le_trans h.dp hk, Nat.le_trans h.ln hn⟩
theorem Okd.none : Okd 5 0 .none := ⟨rfl, Nat.le_refl _, by decide⟩
theorem Okd.bool (b : Bool) : Okd 5 0 (.bool b) := by cases b <;> exact ⟨rfl, Nat.le_refl _, by decide⟩
theorem Okd.int {i : Int} (h : i.natAbs < 10 ^ 40) : Okd 41 0 (.int i) := by
  refine ⟨?_, Nat.le_refl _, ?_⟩
  · show decide (i.natAbs.log2 < 1920) = true
    have h2 : i.natAbs < 2 ^ 200 := Nat.lt_of_lt_of_le h (by decide)
    by_cases z : i.natAbs = 0
    · rw [z]; decide
    · have := (Nat.log2_lt z).mpr h2
      exact decide_eq_true (by omega)
  · have e := int_text_length_le10 (k := 40) (by decide) h
    show (Str.ofString (toString i)).length ≤ 41
    rw [PySem.ofString_length]
    exact e
/-- a text of signs that are Unicode's -/
def Signs (x : Str) : Prop := ∀ c ∈ x.cps.toList, c < 1114112
theorem Okd.str {n : Nat} {x : Str} (h : Signs x) (hl : x.length ≤ n) : Okd (10 * n + 2) 0 (.str x) := by
  refine ⟨rfl, Nat.le_refl _, ?_⟩
  have e := StrLaws.reprText_len x fun c hc => Nat.lt_trans (h c hc) (by decide)
  show (reprText x).length ≤ _
  omega
theorem sum_le {n : Nat} : ∀ {l : List Nat}, (∀ x ∈ l, x ≤ n) → l.sum ≤ l.length * n
  | [], _ => by simp
  | a :: l, h => by
    have h1 := h a List.mem_cons_self
    have h2 := sum_le (l := l) fun x hx => h x (List.mem_cons_of_mem _ hx)
    simp only [List.sum_cons, List.length_cons, Nat.add_mul, Nat.one_mul]
    omega
theorem shownAll_map : ∀ ds : List PyData, PyData.shownAll ds = ds.map PyData.shown
  | [] => rfl
  | d :: ds => by simp only [PyData.shownAll, List.map_cons, shownAll_map ds]
theorem showableAll_of : ∀ {ds : List PyData}, (∀ d ∈ ds, d.showable = true) → PyData.showableAll ds = true
  | [], _ => rfl
  | d :: ds, h => by simp only [PyData.showableAll, h d List.mem_cons_self, showableAll_of (ds := ds) fun x hx => h x (List.mem_cons_of_mem _ hx), Bool.and_self]
theorem depthAll_of {k : Nat} : ∀ {ds : List PyData}, (∀ d ∈ ds, d.depth ≤ k) → PyData.depthAll ds ≤ k
  | [], _ => Nat.zero_le _
  | d :: ds, h => by
    have h1 := h d List.mem_cons_self
    have h2 := depthAll_of (k := k) (ds := ds) fun x hx => h x (List.mem_cons_of_mem _ hx)
    simp only [PyData.depthAll]
    omega
theorem shownAll_sum {n : Nat} {ds : List PyData} (h : ∀ d ∈ ds, d.shown.length ≤ n) : ((PyData.shownAll ds).map (·.length)).sum ≤ ds.length * n := by
  have e := sum_le (n := n) (l := (PyData.shownAll ds).map (·.length)) fun x hx => by
    rw [shownAll_map, List.map_map] at hx
    obtain ⟨d, hd, rfl⟩ := List.mem_map.mp hx
    exact h d hd
  rw [List.length_map, PyData.shownAll_length] at e
  exact e
theorem Okd.list {n k : Nat} {ds : List PyData} (h : ∀ d ∈ ds, Okd n k d) : Okd (ds.length * (n + 2) + 3) (k + 1) (.list ds) := by
  refine ⟨by simp only [PyData.showable]; exact showableAll_of fun d hd => (h d hd).sh, by simp only [PyData.depth]; exact Nat.succ_le_succ (depthAll_of fun d hd => (h d hd).dp), ?_⟩
  have e := listText_len_le (PyData.shownAll ds)
  have e2 := shownAll_sum (n := n) fun d hd => (h d hd).ln
  have e3 := PyData.shownAll_length ds
  simp only [PyData.shown]
  rw [Nat.mul_add]
  omega
theorem Okd.tuple {n k : Nat} {ds : List PyData} (h : ∀ d ∈ ds, Okd n k d) : Okd (ds.length * (n + 2) + 3) (k + 1) (.tuple ds) := by
  refine ⟨by simp only [PyData.showable]; exact showableAll_of fun d hd => (h d hd).sh, by simp only [PyData.depth]; exact Nat.succ_le_succ (depthAll_of fun d hd => (h d hd).dp), ?_⟩
  have e := tupleText_len_le (PyData.shownAll ds)
  have e2 := shownAll_sum (n := n) fun d hd => (h d hd).ln
  have e3 := PyData.shownAll_length ds
  simp only [PyData.shown]
  rw [Nat.mul_add]
  omega
theorem showableKv_of : ∀ {kvs : List (PyData × PyData)}, (∀ q ∈ kvs, q.1.showable = true ∧ q.2.showable = true) → PyData.showableKv kvs = true
  | [], _ => rfl
  | (a, b) :: r, h => by
    obtain ⟨h1, h2⟩ := h (a, b) List.mem_cons_self
    simp only [PyData.showableKv, h1, h2, showableKv_of (kvs := r) fun x hx => h x (List.mem_cons_of_mem _ hx), Bool.and_self]
theorem depthKv_of {k : Nat} : ∀ {kvs : List (PyData × PyData)}, (∀ q ∈ kvs, q.1.depth ≤ k ∧ q.2.depth ≤ k) → PyData.depthKv kvs ≤ k
  | [], _ => Nat.zero_le _
  | (a, b) :: r, h => by
    obtain ⟨h1, h2⟩ := h (a, b) List.mem_cons_self
    have h3 := depthKv_of (k := k) (kvs := r) fun x hx => h x (List.mem_cons_of_mem _ hx)
    simp only [PyData.depthKv]
    simp only at h1 h2
    omega
theorem shownKv_sum {n : Nat} : ∀ {kvs : List (PyData × PyData)}, (∀ q ∈ kvs, q.1.shown.length ≤ n ∧ q.2.shown.length ≤ n) → ((PyData.shownKv kvs).map (·.length)).sum ≤ kvs.length * (2 * n + 2)
  | [], _ => by simp [PyData.shownKv]
  | (a, b) :: r, h => by
    obtain ⟨h1, h2⟩ := h (a, b) List.mem_cons_self
    have h3 := shownKv_sum (n := n) (kvs := r) fun x hx => h x (List.mem_cons_of_mem _ hx)
    have e2 : (a.shown ++ ": " ++ b.shown).length = a.shown.length + 2 + b.shown.length := by
      rw [strLen_append, strLen_append]; rfl
    simp only [PyData.shownKv, List.map_cons, List.sum_cons, List.length_cons, e2, Nat.add_mul, Nat.one_mul]
    simp only at h1 h2
    omega
theorem Okd.dict {n k : Nat} {kvs : List (PyData × PyData)} (h : ∀ q ∈ kvs, Okd n k q.1 ∧ Okd n k q.2) : Okd (kvs.length * (2 * n + 4) + 3) (k + 1) (.dict kvs) := by
  refine ⟨by simp only [PyData.showable]; exact showableKv_of fun d hd => ⟨(h d hd).1.sh, (h d hd).2.sh⟩, by simp only [PyData.depth]; exact Nat.succ_le_succ (depthKv_of fun d hd => ⟨(h d hd).1.dp, (h d hd).2.dp⟩), ?_⟩
  have e := dictText_len_le (PyData.shownKv kvs)
  have e2 := shownKv_sum (n := n) fun d hd => ⟨(h d hd).1.ln, (h d hd).2.ln⟩
  have e3 := PyData.shownKv_length kvs
  simp only [PyData.shown]
  rw [show 2 * n + 4 = (2 * n + 2) + 2 from by omega, Nat.mul_add]
  omega
/-- repr(v) -/
def rRepr (K : PySem.W.Frag) : List V → Hp → VK → Prop := fun xs H Q => ∃ v d, xs = [v] ∧ Dq K H v d ∧ Okd 16000000 60 d ∧ Q (.str d.shown) H
theorem call_reprD {X : Cx} {k : Nat} (cl : Clear X.A) (hr : Room k X.A) (S : SysIn X.K) : CallR X (.builtin "repr") (rRepr X.K) := by
  intro pins s σ H xs us Q I r h
  obtain ⟨v, d, rfl, hd, ok, q⟩ := h
  obtain ⟨u, us', ru, rn, rfl⟩ : ∃ u us', RelV v u ∧ Vals [] us' ∧ us = u :: us' := by
    cases r with
    | cons a b => exact ⟨_, _, a, b, rfl⟩
  cases rn
  have sz : d.shown.length ≤ sizeLine := Nat.le_trans ok.ln (by rw [sizeLine_eq]; decide)
  have un := hr.un
  obtain ⟨as, rd, ns⟩ := hd.reads I S u ru
  cases rd with
  | none => exact PySem.P.repr_of_none ⟨.str _, H, I.tok _, ⟨_, rfl⟩, q⟩
  | bool b => exact PySem.P.repr_of_bool ⟨.str _, H, I.tok _, ⟨_, rfl⟩, q⟩
  | int i t => exact PySem.P.repr_of_int (by have z := ok.sh; simpa [PyData.showable] using z) ⟨.str _, H, I.tok _, ⟨_, rfl⟩, q⟩
  | str x t => exact PySem.P.repr_of_str ⟨.str _, H, I.tok _, ⟨_, rfl⟩, q⟩ sz
  | list h1 h2 h3 h4 => exact repr_of_reads' (.list h1 h2 h3 h4) ok.sh (fun _ => ns) cl (by have := ok.dp; omega) (fun _ _ z => z) (fun h' u tk kp => ⟨.str _, H, I.kept kp, ⟨_, rfl⟩, q⟩) sz
  | tuple h1 h2 h3 h4 => exact repr_of_reads' (.tuple h1 h2 h3 h4) ok.sh (fun _ => ns) cl (by have := ok.dp; omega) (fun _ _ z => z) (fun h' u tk kp => ⟨.str _, H, I.kept kp, ⟨_, rfl⟩, q⟩) sz
  | dict h1 h2 h3 h4 h5 => exact repr_of_reads' (.dict h1 h2 h3 h4 h5) ok.sh (fun _ => ns) cl (by have := ok.dp; omega) (fun _ _ z => z) (fun h' u tk kp => ⟨.str _, H, I.kept kp, ⟨_, rfl⟩, q⟩) sz
end G
/-! # LC: the head's facts -/
namespace G
open PySem PySem.Spec PyProof.Rows L2
def sysB (K : PySem.W.Frag) : Bool := match K.lookup sysModules with
  | some ⟨_, _, .dict _ _, _⟩ => true
  | _ => false
theorem sysB_ok {K : PySem.W.Frag} (h : sysB K = true) : SysIn K := by
  unfold sysB at h
  split at h
  · exact ⟨_, _, _, by assumption, rfl⟩
  · cases h
/-- an exception class of the top and its __init__ -/
structure XD where
  cls : Str
  st : Stmt
abbrev FnX : Type := Option (Str × Str × Arguments × FuncBody × Scope × Addr × List Str × Addr × Value × Value)
def fnX (K : PySem.W.Frag) (x : Str) : FnX := match K.lookup (He.ma K (He.ga K x) "__init__") with
  | some ⟨_, _, .func fd, _⟩ => some (fd.name, fd.qualname, fd.params, fd.body, fd.scope, fd.globals, fd.closure.map (·.1), fd.builtins, fd.defaults, fd.kwdefaults)
  | _ => none
def XD.val (d : XD) : FnX := some ("__init__", d.cls ++ ".__init__", defArgs d.st, .stmts (defBody d.st), defScope d.st, mainGlobals, ["__class__"], builtinsNs, .none, .none)
abbrev AlG : Type := He.AlD × Bool × List FnX
def frK (n : Nat) (g : Addr → Option Obj) : PySem.W.Frag := He.frG g (sysModules :: cStatics :: He.asD g n)
def obsG (n : Nat) (fa : List He.Fa) (fn : List He.DefD) (ex : PySem.W.Frag → Bool) (xs : List XD) (g : Addr → Option Obj) : AlG := (He.obsD fa fn (frK n g), ex (frK n g) && sysB (frK n g), xs.map fun d => fnX (frK n g) d.cls)
structure SaysG (fa : List He.Fa) (fn : List He.DefD) (ex : PySem.W.Frag → Bool) (xs : List XD) (K : PySem.W.Frag) : Prop where
  d : He.SaysD fa fn K
  more : ex K = true
  sys : SysIn K
  xs : xs.map (fun d => fnX K d.cls) = xs.map XD.val
theorem saysG_of {n : Nat} {fa : List He.Fa} {fn : List He.DefD} {ex : PySem.W.Frag → Bool} {xs : List XD} {g : Addr → Option Obj} (e : obsG n fa fn ex xs g = (He.valD fn, true, xs.map XD.val)) : SaysG fa fn ex xs (frK n g) := by
  have e1 : He.obsD fa fn (frK n g) = He.valD fn := congrArg (fun z : AlG => z.1) e
  have e2 : (ex (frK n g) && sysB (frK n g)) = true := congrArg (fun z : AlG => z.2.1) e
  have e3 : xs.map (fun d => fnX (frK n g) d.cls) = xs.map XD.val := congrArg (fun z : AlG => z.2.2) e
  obtain ⟨h1, h2⟩ := He.ba e2
  exact ⟨e1, h1, sysB_ok h2, e3⟩
def hookG (n : Nat) (fa : List He.Fa) (fn : List He.DefD) (ex : PySem.W.Frag → Bool) (xs : List XD) : PySem.W.Hook where
  α := AlG
  obs := fun s => obsG n fa fn ex xs s.heap.get?
  val := fun _ => (He.valD fn, true, xs.map XD.val)
  says := fun _ h => ∃ K : PySem.W.Frag, K.In h ∧ SaysG fa fn ex xs K
  of := fun _ _ e => ⟨_, He.frG_in, saysG_of e⟩
  keeps := fun _ _ _ ⟨K, hK, c⟩ k => ⟨K, PySem.W.Frag.In.keeps hK k, c⟩
theorem obsG_eq {n : Nat} {fa : List He.Fa} {fn : List He.DefD} {ex : PySem.W.Frag → Bool} {xs : List XD} {g : Addr → Option Obj} {s : Shared} (h : ∀ a, g a = s.heap.get? a) : obsG n fa fn ex xs g = (hookG n fa fn ex xs).obs s := by
  rw [show g = s.heap.get? from funext h] <;> rfl
/-- the function object at f -/
def fdOf (K : PySem.W.Frag) (f : Addr) : FuncData := match K.lookup f with
  | some ⟨_, _, .func fd, _⟩ => fd
  | _ => PySem.W.fnOf Str.empty Str.empty { posonlyargs := [], args := [], vararg := none, kwonlyargs := [], kw_defaults := [], kwarg := none, defaults := [] } [] { kind := .function, names := [], isGenerator := false, isCoroutine := false } .none .none .none .none none .none .none
theorem fdOf_eq {K : PySem.W.Frag} {x qual : Str} {params : Arguments} {body : List Stmt} {scope : Scope} {dvs : List V} {kws : List (Str × V)} {f : Addr} {fd : FuncData} (F : FunD K x qual params body scope dvs kws f fd) : fdOf K f = fd := by
  obtain ⟨oc, od, dV, kV, doc, pm, an, cdv, ct, osl, rfl, lk, _⟩ := F.ex
  unfold fdOf
  rw [lk]
/-- what the head has said of the written part, and that the module's names are read off it -/
structure Hd (fa : List He.Fa) (fn : List He.DefD) (ex : PySem.W.Frag → Bool) (xs : List XD) (K : PySem.W.Frag) (mg : Str → Option Value) : Prop where
  s : SaysG fa fn ex xs K
  at_ : ∃ h : Heap, K.In h ∧ h.Ns mainGlobals mg
section
variable {fa : List He.Fa} {fn : List He.DefD} {ex : PySem.W.Frag → Bool} {xs : List XD} {K : PySem.W.Frag} {mg : Str → Option Value}
theorem Hd.sys (c : Hd fa fn ex xs K mg) : SysIn K := c.s.sys
theorem Hd.fun_ (c : Hd fa fn ex xs K mg) (i : Nat) {d : He.DefD} (h : fn[i]? = some d := by rfl) : FunD K d.name d.qual d.params d.body d.scope (d.dvs K) (d.kws K) (He.fAd K d.at_) (fdOf K (He.fAd K d.at_)) := by
  obtain ⟨fd, F⟩ := c.s.d.def_ i h
  rw [fdOf_eq F]
  exact F
theorem Hd.free (c : Hd fa fn ex xs K mg) (i : Nat) {x : Str} (h : fa[i]? = some (.free x) := by rfl) : mg x = none := let ⟨_, X, N⟩ := c.at_; He.free_ok X N (c.s.d.fact i h)
theorem Hd.glo (c : Hd fa fn ex xs K mg) (i : Nat) {x : Str} (h : fa[i]? = some (.glo x) := by rfl) : mg x = some (.ref (He.ga K x)) := let ⟨_, X, N⟩ := c.at_; He.glo_ok X N (c.s.d.fact i h)
theorem Hd.int (c : Hd fa fn ex xs K mg) (i : Nat) {x : Str} {z : Int} (h : fa[i]? = some (.int x z) := by rfl) : ∃ t, mg x = some (.int z t) := let ⟨_, X, N⟩ := c.at_; He.int_ok X N (c.s.d.fact i h)
theorem Hd.xd (c : Hd fa fn ex xs K mg) (i : Nat) {d : XD} (h : xs[i]? = some d := by rfl) : fnX K d.cls = d.val := by
  have e : (xs.map fun d => fnX K d.cls)[i]? = (xs.map XD.val)[i]? := by rw [c.s.xs]
  rw [List.getElem?_map, List.getElem?_map, h] at e
  exact Option.some.inj e
theorem Hd.str (c : Hd fa fn ex xs K mg) (i : Nat) {x z : Str} (h : fa[i]? = some (.str x z) := by rfl) : ∃ t, mg x = some (.str z t) := let ⟨_, X, N⟩ := c.at_; He.str_ok X N (c.s.d.fact i h)
end
section
variable {X : Cx} {x : Str} {pos : Pos}
theorem pe_gint {i : Int} (h : ∃ t, X.mg x = some (.int i t)) (hg : Gl X x := by rfl) (hd : (x == ("__debug__" : Str)) = false := by decide) (hn : x ≠ "__name__" := by decide) : PE X (.Name x pos) (tC (.int i)) := h.elim fun t e => pe_glob (v := .int i) hg e ⟨t, rfl⟩ hd
theorem pe_gstr {z : Str} (h : ∃ t, X.mg x = some (.str z t)) (hg : Gl X x := by rfl) (hd : (x == ("__debug__" : Str)) = false := by decide) (hn : x ≠ "__name__" := by decide) : PE X (.Name x pos) (tC (.str z)) := h.elim fun t e => pe_glob (v := .str z) hg e ⟨t, rfl⟩ hd
theorem pe_ty {T : String} (hm : X.mg x = none) (hv : bootBuiltins x = some (.type T)) (hg : Gl X x := by rfl) (hd : (x == ("__debug__" : Str)) = false := by decide) (hn : x ≠ "__name__" := by decide) : PE X (.Name x pos) (tC (.ty T)) := pe_bltn (v := .ty T) hg hm hv rfl hn hd
end
end G
/-! # LD: readings, step by step; heaps; the drawing box -/
namespace G
open PySem PySem.Spec PyProof.Rows L2
section
variable {σ : L2.St} {H : Hp} {Q : VK} {K : PySem.W.Frag}
theorem i_var {i : Nat} {v : V} (h : σ[i]? = some (some v)) (q : Q v H) : tVar i σ H Q := ⟨v, h, q⟩
theorem i_c {v : V} (q : Q v H) : tC v σ H Q := q
theorem i_op {r : R2} {ta tb : TE} (q : ta σ H fun x H1 => tb σ H1 fun y H2 => r x y H2 Q) : tOp r ta tb σ H Q := q
theorem i_un {r : V → Hp → VK → Prop} {ta : TE} (q : ta σ H fun x H1 => r x H1 Q) : tUn r ta σ H Q := q
theorem i_I0 {g : Int → Int → V} {i j : Int} (q : Q (g i j) H) : rI0 g (.int i) (.int j) H Q := ⟨i, j, rfl, rfl, q⟩
theorem i_I {C : Int → Int → Prop} {g : Int → Int → V} {i j : Int} (c : C i j) (q : Q (g i j) H) : rI C g (.int i) (.int j) H Q := ⟨i, j, rfl, rfl, c, q⟩
theorem i_U {g : Int → V} {i : Int} (q : Q (g i) H) : rU g (.int i) H Q := ⟨i, rfl, q⟩
theorem i_eq {x y : V} (s : scal x y = true) (q : Q (.bl (decide (x = y))) H) : rEq x y H Q := ⟨s, q⟩
theorem i_ne {x y : V} (s : scal x y = true) (q : Q (.bl (!decide (x = y))) H) : rNe x y H Q := ⟨s, q⟩
theorem i_test {t : TE} {R : Bool → Hp → Prop} (q : t σ H fun x H' => ∃ k, x = .bl k ∧ R k H') : tTest t σ H R := q
theorem i_B {t : TE} {R : Bool → Hp → Prop} (q : t σ H fun x H' => ∃ k, x = .bl k ∧ R k H') : tB t σ H R := q
theorem i_bl {b : Bool} {R : Bool → Prop} (q : R b) : ∃ k, V.bl b = V.bl k ∧ R k := ⟨b, rfl, q⟩
theorem i_not {t : TT} {R : Bool → Hp → Prop} (q : t σ H fun c H1 => R (!c) H1) : tNot t σ H R := q
theorem i_notV {t : TE} (q : t σ H fun x H1 => ∃ c, x = .bl c ∧ Q (.bl (!c)) H1) : tNotV t σ H Q := q
theorem i_andV {ta tb : TE} (q : ta σ H fun x H1 => ∃ c, x = .bl c ∧ if c = true then tb σ H1 Q else Q (.bl false) H1) : tAndV ta tb σ H Q := q
theorem i_orV {ta tb : TE} (q : ta σ H fun x H1 => ∃ c, x = .bl c ∧ if c = true then Q (.bl true) H1 else tb σ H1 Q) : tOrV ta tb σ H Q := q
theorem i_and {t u : TT} {R : Bool → Hp → Prop} (q : t σ H fun c H1 => if c = true then u σ H1 R else R false H1) : tAnd t u σ H R := q
theorem i_or {t u : TT} {R : Bool → Hp → Prop} (q : t σ H fun c H1 => if c = true then R true H1 else u σ H1 R) : tOr t u σ H R := q
theorem i_if {t : TT} {ta tb : TE} (q : t σ H fun c H1 => if c = true then ta σ H1 Q else tb σ H1 Q) : tIf t ta tb σ H Q := q
theorem i_chain {r r' : R2} {ta tb tc : TE} (q : ta σ H fun x H1 => tb σ H1 fun y H2 => r x y H2 fun z H3 => ∃ k, z = .bl k ∧ (if k = true then tc σ H3 fun w' H4 => r' y w' H4 Q else Q (.bl false) H3)) : tChain r r' ta tb tc σ H Q := q
theorem i_cons {ta : TE} {tr : TA} {R : List V → Hp → Prop} (q : ta σ H fun x H1 => tr σ H1 fun xs H2 => R (x :: xs) H2) : tCons ta tr σ H R := q
theorem i_nil {R : List V → Hp → Prop} (q : R [] H) : tNil σ H R := q
theorem i_lst {t : TA} (q : t σ H fun xs H1 => xs.length ≤ sizeLine ∧ ∀ p, H1 p = none → Q (.ref p) (upd H1 p (.lst xs))) : tLst t σ H Q := q
theorem i_tup {t : TA} (q : t σ H fun xs H1 => xs.length ≤ sizeLine ∧ ∀ p, H1 p = none → Q (.ref p) (upd H1 p (.tup xs))) : tTup t σ H Q := q
theorem i_cb {r : List V → Hp → VK → Prop} {t : TA} (q : t σ H fun vs H1 => r vs H1 Q) : tCB r t σ H Q := q
theorem i_call {sp : Sp} {E : XK} {t : TA} (q : t σ H fun vs H1 => sp (vs ++ []) H1 Q E) : tCall sp [] E t σ H Q := q
theorem i_ii {i j : Int} {R : Int → Int → Prop} (q : R i j) : ∃ i' j', [V.int i, V.int j] = [V.int i', V.int j'] ∧ R i' j' := ⟨i, j, rfl, q⟩
theorem i_ss {i j : Str} {R : Str → Str → Prop} (q : R i j) : ∃ i' j', V.str i = V.str i' ∧ V.str j = V.str j' ∧ R i' j' := ⟨i, j, rfl, rfl, q⟩
theorem i_ixL {p : Addr} {xs : List V} {i : Int} {v : V} (h : SqL K H p xs) (e : atI xs i = some v) (q : Q v H) : rIxL K (.ref p) (.int i) H Q := ⟨p, xs, i, v, rfl, rfl, h, e, q⟩
theorem i_ixT {p : Addr} {xs : List V} {i : Int} {v : V} (h : SqT K H p xs) (e : atI xs i = some v) (q : Q v H) : rIxT K (.ref p) (.int i) H Q := ⟨p, xs, i, v, rfl, rfl, h, e, q⟩
theorem i_ixS {z : Str} {i : Int} {c : Nat} (l : z.length ≤ sizeLine) (e : atI z.cps.toList i = some c) (q : Q (.str ⟨#[c]⟩) H) : rIxS (.str z) (.int i) H Q := ⟨z, i, c, rfl, rfl, l, e, q⟩
theorem i_sl {r : V → Option Int → Option Int → Hp → VK → Prop} {te : TE} {tl th : TO} (q : te σ H fun x H1 => tl σ H1 fun l H2 => th σ H2 fun u H3 => r x l u H3 Q) : tSl r te tl th σ H Q := q
theorem i_noPart {R : Option Int → Hp → Prop} (q : R none H) : tNoPart σ H R := q
theorem i_part {t : TE} {R : Option Int → Hp → Prop} (q : t σ H fun x H1 => ∃ i, x = .int i ∧ R (some i) H1) : tPart t σ H R := q
theorem i_int {i : Int} {R : Int → Prop} (q : R i) : ∃ j, V.int i = V.int j ∧ R j := ⟨i, rfl, q⟩
end
section
variable {σ : L2.St} {H : Hp} {D : Ends} {K : PySem.W.Frag}
theorem i_seq {t u : TS} (q : t { D with nx := u D } σ H) : tSeq t u D σ H := q
theorem i_asg {te : TE} {g : TG} (q : te σ H fun x H1 => g x σ H1 D.nx) : tAsg te g D σ H := q
theorem i_name {i : Nat} {v : V} {R : L2.St → Hp → Prop} (q : R (σ.set i (some v)) H) : gName i v σ H R := q
theorem i_ret {te : TE} (q : te σ H D.rt) : tRet te D σ H := q
theorem i_retN (q : D.rt .non H) : tRetN D σ H := q
theorem i_next (q : D.nx σ H) : tNext D σ H := q
theorem i_ifs {c : TT} {t u : TS} (q : c σ H fun b H1 => if b = true then t D σ H1 else u D σ H1) : tIfS c t u D σ H := q
theorem i_drop {te : TE} (q : te σ H fun _ H1 => D.nx σ H1) : tDrop te D σ H := q
theorem i_par {i j : Nat} {ta : TA} (q : ta σ H fun vs H1 => ∃ v w, vs = [v, w] ∧ D.nx ((σ.set i (some v)).set j (some w)) H1) : tPar i j ta D σ H := q
theorem i_two {v w : V} {R : V → V → Prop} (q : R v w) : ∃ v' w', [v, w] = [v', w'] ∧ R v' w' := ⟨v, w, rfl, q⟩
theorem i_gsub {to ti : TE} {t : TSet} {v : V} {R : L2.St → Hp → Prop} (q : to σ H fun o H1 => ti σ H1 fun i H2 => t o i v H2 fun H3 => R σ H3) : gSub to ti t v σ H R := q
theorem i_setL {p : Addr} {xs : List V} {k : Int} {j : Nat} {v : V} {R : Hp → Prop} (h : H p = some (.lst xs)) (e : ixN xs.length k = some j) (q : R (upd H p (.lst (xs.set j v)))) : rSetL (.ref p) (.int k) v H R := ⟨p, xs, k, j, rfl, rfl, h, e, q⟩
theorem i_for {wi : TI} {g : TG} {tb : TS} (q : wi σ H fun J H1 => ∃ W : Nat → Nat → L2.St → Hp → Prop, (∃ m, W 0 m σ H1) ∧ ∀ i m σ H, W i m σ H →
    (J.stop i H ∧ D.nx σ H) ∨ (J.go i H ∧ ∃ N : L2.St → Hp → Prop, (∀ σ' H', N σ' H' → ∃ m', m' < m ∧ W (i + 1) m' σ' H') ∧ ∀ x H', J.yld i H x H' → g x σ H' fun σ2 H2 => tb { D with nx := N, ct := N, bk := D.nx } σ2 H2)) : tFor wi g tb D σ H := q
theorem i_rng1 {ta : TA} {R : It → Hp → Prop} (q : ta σ H fun vs H1 => ∃ j : Int, vs = [.int j] ∧ -(2 ^ 62) ≤ j ∧ j < 2 ^ 62 ∧ R (Itr 0 j.toNat) H1) : iRng1 ta σ H R := q
end
theorem i_ite {b : Bool} {A B : Prop} (h1 : b = true → A) (h2 : b = false → B) : if b = true then A else B := by
  cases b with
  | true => rw [if_pos rfl]; exact h1 rfl
  | false => rw [if_neg Bool.false_ne_true]; exact h2 rfl
theorem i_dec {p : Prop} [Decidable p] {A B : Prop} (h1 : p → A) (h2 : ¬ p → B) : if decide p = true then A else B := i_ite (fun h => h1 (of_decide_eq_true h)) fun h => h2 (of_decide_eq_false h)
theorem i_isT {b : Bool} {A B : Prop} (hb : b = true) (h : A) : if b = true then A else B := by rw [if_pos hb]; exact h
theorem i_isF {b : Bool} {A B : Prop} (hb : b = false) (h : B) : if b = true then A else B := by rw [if_neg (by rw [hb]; exact Bool.false_ne_true)]; exact h
/-! ### heaps -/
theorem old {H : Hp} {a p : Addr} {o u : HO} (h : H a = some o) (hp : H p = none) : upd H p u a = some o := by rw [upd_ne (ne_of_none h hp)]; exact h
theorem oldw {H : Hp} {a p : Addr} {o u : HO} (n : a ≠ p) (h : H a = some o) : upd H p u a = some o := by rw [upd_ne n]; exact h
theorem none_of {H : Hp} {p q : Addr} {o : HO} (h : upd H p o q = none) : H q = none := by
  by_cases e : q = p
  · rw [e, upd_same] at h; cases h
  · rw [upd_ne e] at h; exact h
theorem ne_new {H : Hp} {p q : Addr} {o : HO} (h : upd H p o q = none) : q ≠ p := by
  intro e
  rw [e, upd_same] at h
  cases h
/-- all that is tracked but a stays as it is -/
def Kp (a : Addr) (H H' : Hp) : Prop := ∀ b o, b ≠ a → H b = some o → H' b = some o
theorem Kp.refl {a : Addr} {H : Hp} : Kp a H H := fun _ _ _ h => h
theorem Kp.trans {a : Addr} {H H1 H2 : Hp} (k : Kp a H H1) (l : Kp a H1 H2) : Kp a H H2 := fun b o n h => l b o n (k b o n h)
theorem Kp.at {a b : Addr} {H H' : Hp} {o : HO} (k : Kp a H H') (n : b ≠ a) (h : H b = some o) : H' b = some o := k b o n h
theorem Kp.box {a : Addr} {H : Hp} {o : HO} : Kp a H (upd H a o) := fun b u n h => by rw [upd_ne n]; exact h
theorem Kp.new {a p : Addr} {H H' : Hp} {o : HO} (k : Kp a H H') (hp : H' p = none) : Kp a H (upd H' p o) := fun b u n h => old (k b u n h) hp
theorem Kp.wr {a p : Addr} {H H' : Hp} {o u : HO} (k : Kp a H H') (hp : H p = none) (hn : H' p = some u) : Kp a H (upd H' p o) := fun b v n h => oldw (ne_of_none h hp) (k b v n h)
theorem Kp.bx {a : Addr} {H H' : Hp} {o : HO} (k : Kp a H H') : Kp a H (upd H' a o) := fun b u n h => oldw n (k b u n h)
theorem Kp.sq {K : PySem.W.Frag} {a b : Addr} {H H' : Hp} {xs : List V} (k : Kp a H H') (n : b ≠ a) (h : SqL K H b xs) : SqL K H' b xs := by
  rcases h with (h | ⟨o, h⟩) | h
  · exact .inl (.inl (k _ _ n h))
  · exact .inl (.inr ⟨o, k _ _ n h⟩)
  · exact .inr h
/-! ### the drawing box -/
def BoxO (n : Nat) (o : HO) : Prop := ∃ (x y c : Int), o = .lst [.int x, .int y, .int c] ∧ 0 ≤ y ∧ y < 2147483629 ∧ 0 ≤ c ∧ c ≤ n
theorem BoxO.mono {n m : Nat} {o : HO} (h : BoxO n o) (l : n ≤ m) : BoxO m o := let ⟨x, y, c, e, h1, h2, h3, h4⟩ := h; ⟨x, y, c, e, h1, h2, h3, by omega⟩
/-- a box stands at a, at most n draws were made -/
def BoxAt (n : Nat) (H : Hp) (a : Addr) : Prop := ∃ o, H a = some o ∧ BoxO n o
theorem BoxAt.mono {n m : Nat} {H : Hp} {a : Addr} (h : BoxAt n H a) (l : n ≤ m) : BoxAt m H a := let ⟨o, h1, h2⟩ := h; ⟨o, h1, h2.mono l⟩
theorem BoxAt.of {n : Nat} {H : Hp} {a : Addr} {o : HO} (h : BoxO n o) : BoxAt n (upd H a o) a := ⟨o, upd_same, h⟩
theorem BoxAt.new {n : Nat} {H : Hp} {a p : Addr} {o : HO} (h : BoxAt n H a) (hp : H p = none) : BoxAt n (upd H p o) a := let ⟨u, h1, h2⟩ := h; ⟨u, old h1 hp, h2⟩
theorem BoxAt.wr {n : Nat} {H : Hp} {a p : Addr} {o : HO} (h : BoxAt n H a) (hp : a ≠ p) : BoxAt n (upd H p o) a := let ⟨u, h1, h2⟩ := h; ⟨u, oldw hp h1, h2⟩
theorem BoxAt.ne {n : Nat} {H : Hp} {a p : Addr} (h : BoxAt n H a) (hp : H p = none) : p ≠ a := let ⟨_, h1, _⟩ := h; (ne_of_none h1 hp).symm
theorem BoxAt.not {n : Nat} {H : Hp} {a p : Addr} {o : HO} (h : BoxAt n H a) (hp : H p = some o) (d : ∀ x y c : Int, o ≠ .lst [.int x, .int y, .int c]) : p ≠ a := by
  obtain ⟨u, h1, x, y, c, e, _⟩ := h
  intro z
  rw [z, h1, e] at hp
  exact d x y c (Option.some.inj hp).symm
/-- _law_take(box, m) -/
def sp_l_take : Sp := fun vs H Q _ => ∃ (a : Addr) (m : Int) (n : Nat), vs = [.ref a, .int m] ∧ BoxAt n H a ∧ n ≤ 1000000 ∧ 0 < m ∧ m < 1073741824 ∧ ∀ (r : Int) (o : HO), 0 ≤ r → r < m → BoxO (n + 1) o → Q (.int r) (upd H a o)
/-- _law_box(cell) -/
def sp_l_box : Sp := fun vs H Q _ => ∃ i : Int, vs = [.int i] ∧ ∀ (p : Addr) (o : HO), H p = none → BoxO 0 o → Q (.ref p) (upd H p o)
/-- _law_cell(script, k) -/
def sp_l_cell (K : PySem.W.Frag) : Sp := fun vs H Q _ => ∃ (a : Addr) (ns : List Int) (k : Int), vs = [.ref a, .int k] ∧ SqL K H a (ns.map V.int) ∧ 0 ≤ k ∧ ∀ i : Int, Q (.int i) H
theorem few {α : Type} {xs : List α} (h : Nat.ble xs.length 1000 = true := by rfl) : xs.length ≤ sizeLine := Nat.le_trans (Nat.le_of_ble_eq_true h) (by decide)
/-! ### kinds of values -/
inductive Kd (H : Hp) : V → String → Prop
  | non : Kd H .non "NoneType"
  | bl (b : Bool) : Kd H (.bl b) "bool"
  | int (i : Int) : Kd H (.int i) "int"
  | str (x : Str) : Kd H (.str x) "str"
  | lst {a : Addr} {xs : List V} (e : H a = some (.lst xs)) : Kd H (.ref a) "list"
  | tup {a : Addr} {xs : List V} (e : H a = some (.tup xs)) : Kd H (.ref a) "tuple"
  | dct {a : Addr} {kvs : List (Key × V)} (e : H a = some (.dK kvs)) : Kd H (.ref a) "dict"
theorem Kd.ty {K : PySem.W.Frag} {H : Hp} {v : V} {T : String} (k : Kd H v T) : TyX K H v (.type T) := by
  cases k with
  | non => exact .base .non
  | bl b => exact .base (.bl b)
  | int i => exact .base (.int i)
  | str x => exact .base (.str x)
  | lst e => exact .base (.lst e)
  | tup e => exact .base (.tup e)
  | dct e => exact .base (.dK e)
theorem Kd.same {H H' : Hp} {v : V} {T : String} (k : Kd H v T) (s : Same H H') : Kd H' v T := by
  cases k with
  | non => exact .non
  | bl b => exact .bl b
  | int i => exact .int i
  | str x => exact .str x
  | lst e => exact .lst (s _ _ e)
  | tup e => exact .tup (s _ _ e)
  | dct e => exact .dct (s _ _ e)
theorem Kd.kp {a : Addr} {H H' : Hp} {v : V} {T : String} (k : Kd H v T) (n : v ≠ .ref a) (s : Kp a H H') : Kd H' v T := by
  cases k with
  | non => exact .non
  | bl b => exact .bl b
  | int i => exact .int i
  | str x => exact .str x
  | lst e => exact .lst (s _ _ (fun z => n (by rw [z])) e)
  | tup e => exact .tup (s _ _ (fun z => n (by rw [z])) e)
  | dct e => exact .dct (s _ _ (fun z => n (by rw [z])) e)
theorem i_isi {K : PySem.W.Frag} {H : Hp} {Q : VK} {v : V} {T C : String} {b : Bool} (k : Kd H v T) (e : kitB T C = some b) (q : Q (.bl b) H) : rIsi K [v, .ty C] H Q := ⟨v, .ty C, .type T, .type C, b, rfl, .ty C, k.ty, kit_ty e, q⟩
theorem same_new {H : Hp} {p : Addr} {o : HO} (hp : H p = none) : Same H (upd H p o) := fun _ _ h => old h hp
theorem Same.new {H H' : Hp} {p : Addr} {o : HO} (s : Same H H') (hp : H' p = none) : Same H (upd H' p o) := fun b u h => old (s b u h) hp
theorem Same.wr {H H' : Hp} {p : Addr} {o : HO} (s : Same H H') (hp : H p = none) : Same H (upd H' p o) := fun b u h => oldw (ne_of_none h hp) (s b u h)
theorem Same.kp {a : Addr} {H H' : Hp} (s : Same H H') : Kp a H H' := fun b o _ h => s b o h
/-- is_integer(v, lo, hi) -/
def isI : V → Int → Int → Bool
  | .int i, lo, hi => decide (lo ≤ i) && decide (i ≤ hi)
  | _, _, _ => false
def sp_is_integer : Sp := fun vs H Q _ => ∃ (v : V) (lo hi : Int) (T : String), vs = [v, .int lo, .int hi] ∧ Kd H v T ∧ Q (.bl (isI v lo hi)) H
end G
/-! # LE: comprehensions over plain items -/
namespace G
open PySem PySem.Spec PyProof.Rows L2
/-- the i-th of the items, as a value, the heap as it was -/
def YI {α : Type} (items : List α) (val : α → V) : Nat → Hp → V → Hp → Prop := fun i H x H' => H' = H ∧ ∃ c, items[i]? = some c ∧ x = val c
theorem walk_strI {z : Str} : Walk (Its z) z.cps.toList.length (fun _ => True) (YI z.cps.toList fun c => .str ⟨#[c]⟩) := by
  rw [show z.cps.toList.length = z.cps.size from rfl]
  exact walk_str.mono (fun _ h => h) fun i H x H' _ _ ⟨h1, c, h2, h3⟩ => ⟨h1, c, by rw [Array.getElem?_toList]; exact h2, h3⟩
theorem walk_listI {K : PySem.W.Frag} {a : Addr} {xs : List V} : Walk (Itl K a) xs.length (fun H => SqL K H a xs) (YI xs id) :=
  walk_list.mono (fun _ h => h) fun i H x H' _ _ ⟨h1, h2⟩ => ⟨h1, x, h2, rfl⟩
theorem walk_tupI {K : PySem.W.Frag} {a : Addr} {xs : List V} : Walk (Itt K a) xs.length (fun H => SqT K H a xs) (YI xs id) :=
  walk_tup.mono (fun _ h => h) fun i H x H' _ _ ⟨h1, h2⟩ => ⟨h1, x, h2, rfl⟩
theorem take_get {α : Type} {l : List α} {i : Nat} {x : α} (h : l[i]? = some x) : l.take (i + 1) = l.take i ++ [x] := by
  rw [List.take_add_one, h]
  rfl
section
variable {α : Type} {J : It} {items : List α} {val : α → V} {Gd : Hp → Prop} {g : TG} {tt : TT} {te : TE} {vs : List Nat} {σ : L2.St} {H1 : Hp} {D : Addr} {Qd : Hp → Prop}
/-- [e for x in items if t], e and t leave the heap as it is -/
theorem lc_flt (w : Walk J items.length Gd (YI items val)) (f : α → Option V) (hG : ∀ F, Gd (upd H1 D (.lst F))) (hlen : items.length ≤ sizeLine)
    (hs : ∀ (c : α) (F : List V) (Ny : VK) (Nn : Hp → Prop), c ∈ items → (∀ y, f c = some y → Ny y (upd H1 D (.lst F))) → (f c = none → Nn (upd H1 D (.lst F))) →
      g (val c) (wipe σ vs) (upd H1 D (.lst F)) fun σ2 H2 => wipe σ2 vs = wipe σ vs ∧ tt σ2 H2 fun b H3 => if b = true then te σ2 H3 Ny else Nn H3)
    (hd : Qd (upd H1 D (.lst (items.filterMap f)))) : ∃ W : Nat → Nat → Hp → Prop, (∃ m, W 0 m (upd H1 D (.lst []))) ∧ ∀ i m H, W i m H →
      (J.stop i H ∧ Qd H) ∨ (J.go i H ∧ ∃ Nx : Hp → Prop, (∀ H', Nx H' → ∃ m', m' < m ∧ W (i + 1) m' H') ∧ ∀ x H', J.yld i H x H' → g x (wipe σ vs) H' fun σ2 H2 => wipe σ2 vs = wipe σ vs ∧ tt σ2 H2 fun b H3 =>
        if b = true then te σ2 H3 fun y H4 => ∃ acc, H4 D = some (.lst acc) ∧ acc.length < sizeLine ∧ Nx (upd H4 D (.lst (acc ++ [y]))) else Nx H3) := by
  refine lc_it w (fun i H => H = upd H1 D (.lst ((items.take i).filterMap f))) rfl (fun i H _ e => e ▸ hG _) (fun i x H H' hi e y => ?_) fun H e => ?_
  · subst e
    obtain ⟨rfl, c, hc, rfl⟩ := y
    have hm : c ∈ items := List.mem_of_getElem? hc
    refine hs c _ _ _ hm (fun y ef => ?_) fun ef => ?_
    · refine ⟨_, upd_same, ?_, ?_⟩
      · have h5 := List.length_filterMap_le f (items.take i)
        rw [List.length_take] at h5
        omega
      · rw [upd_upd, take_get hc, List.filterMap_append]
        simp [ef]
    · show _ = _
      rw [take_get hc, List.filterMap_append]
      simp [ef]
  · rw [e, List.take_length]
    exact hd
end
section
variable {σ : L2.St} {H : Hp} {Q : VK} {K : PySem.W.Frag}
theorem i_lc {wi : TI} {g : TG} {tt : TT} {te : TE} {vs : List Nat} (q : wi σ H fun J H1 => ∀ D, H1 D = none → ∃ W : Nat → Nat → Hp → Prop, (∃ m, W 0 m (upd H1 D (.lst []))) ∧ ∀ i m H, W i m H →
  (J.stop i H ∧ Q (.ref D) H) ∨ (J.go i H ∧ ∃ Nx : Hp → Prop, (∀ H', Nx H' → ∃ m', m' < m ∧ W (i + 1) m' H') ∧ ∀ x H', J.yld i H x H' → g x (wipe σ vs) H' fun σ2 H2 => wipe σ2 vs = wipe σ vs ∧ tt σ2 H2 fun b H3 =>
    if b = true then te σ2 H3 fun y H4 => ∃ acc, H4 D = some (.lst acc) ∧ acc.length < sizeLine ∧ Nx (upd H4 D (.lst (acc ++ [y]))) else Nx H3)) : tLc wi g tt te vs σ H Q := q
theorem i_iStr {te : TE} {R : It → Hp → Prop} (q : te σ H fun v H1 => ∃ x, v = .str x ∧ R (Its x) H1) : iStr te σ H R := q
theorem i_str {x : Str} {R : Str → Prop} (q : R x) : ∃ y, V.str x = V.str y ∧ R y := ⟨x, rfl, q⟩
theorem i_iList {tl : TE} {R : It → Hp → Prop} (q : tl σ H fun x H1 => ∃ a, x = .ref a ∧ (∃ xs, SqL K H1 a xs) ∧ R (Itl K a) H1) : iList K tl σ H R := q
theorem i_iTup {tl : TE} {R : It → Hp → Prop} (q : tl σ H fun x H1 => ∃ a, x = .ref a ∧ (∃ xs, SqT K H1 a xs) ∧ R (Itt K a) H1) : iTup K tl σ H R := q
theorem i_yes {R : Bool → Hp → Prop} (q : R true H) : tYes σ H R := q
theorem i_M1 {r : V → List V → Hp → VK → Prop} {to te : TE} (q : to σ H fun x H1 => (∃ a, x = .str a) ∧ te σ H1 fun y H2 => r x [y] H2 Q) : tM1 r to te σ H Q := q
theorem i_all {p : Addr} {bs : List Bool} (h : SqL K H p (bs.map V.bl)) (q : Q (.bl (bs.all id)) H) : rAll K [.ref p] H Q := ⟨p, bs, rfl, h, q⟩
theorem i_slS {z : Str} {lo hi : Option Int} (h : z.length ≤ sizeLine) (q : Q (.str (cutS z lo hi)) H) : rSlS (.str z) lo hi H Q := ⟨z, rfl, h, q⟩
theorem i_isB {a b : Bool} (q : Q (.bl (decide (a = b))) H) : rIsB (.bl a) (.bl b) H Q := ⟨a, b, rfl, rfl, q⟩
theorem i_callK {sp : Sp} {gV : List V → List V → List V} {E : XK} {t tk : TA} (q : t σ H fun vs H1 => tk σ H1 fun zs H2 => sp (gV vs zs) H2 Q E) : tCallK sp gV E t tk σ H Q := q
end
/-! ### one sign compared with another -/
theorem sing_lt (a b : Nat) : decide (([a] : List Nat) < [b]) = decide (a < b) := by
  by_cases h : a < b
  · rw [decide_eq_true h]
    exact decide_eq_true (List.cons_lt_cons_iff.mpr (.inl h))
  · rw [decide_eq_false h]
    refine decide_eq_false fun q => ?_
    rcases List.cons_lt_cons_iff.mp q with q | ⟨_, q⟩
    · exact h q
    · exact absurd q (List.not_lt_nil _)
/-! ### a list compared with an empty one: no item is looked at -/
def rEqNil (K : PySem.W.Frag) (neg : Bool) : R2 := fun x y H Q => ∃ p q xs, x = .ref p ∧ y = .ref q ∧ SqL K H p xs ∧ SqL K H q [] ∧ Q (.bl (if neg then !xs.isEmpty else xs.isEmpty)) H
theorem nil_lists {X : Cx} {pins : List (Addr × Obj)} {σ : L2.St} {H : Hp} {s : Shared} {p q : Addr} {xs : List V} (I : Inv X pins σ H s) (hp : SqL X.K H p xs) (hq : SqL X.K H q []) :
    ∃ its : List Value, its.length = xs.length ∧ s.heap.IsList p its.toArray ∧ s.heap.IsList q #[] := by
  obtain ⟨its, rv, ⟨o, n, h1, h2, _, h3⟩, _⟩ := I.list hp
  obtain ⟨its2, rv2, ⟨o2, n2, g1, g2, _, g3⟩, _⟩ := I.list hq
  have e : its2 = [] := List.eq_nil_of_length_eq_zero rv2.length.symm
  subst e
  exact ⟨its, rv.length.symm, ⟨o, h1, h2, n, h3⟩, ⟨o2, g1, g2, n2, g3⟩⟩
section
variable {X : Cx}
theorem op_eqNil (hu : X.A.units + 64 < cLine) : OpR X (compareOp .Eq) (rEqNil X.K false) := by
  intro pins s σ H x y v u Q I rx ry h
  obtain ⟨p, q, xs, rfl, rfl, hp, hq, k⟩ := h
  cases (show v = Value.ref p from rx)
  cases (show u = Value.ref q from ry)
  obtain ⟨its, hl, h1, h2⟩ := nil_lists I hp hq
  cases xs with
  | nil =>
    have e : its = [] := List.eq_nil_of_length_eq_zero hl
    subst e
    exact SeqAt.RcAt.lists (e := fun _ => true) h1 h2 rfl (by omega) (fun j j1 _ => absurd j1 (by simp)) _ _ _ _ ⟨.bl true, H, I, rfl, k⟩
  | cons a r => exact SeqAt.RcAt.lists_lengths h1 h2 (by simp [hl]) (by omega) _ _ _ _ ⟨.bl false, H, I, rfl, k⟩
theorem op_neNil (hu : X.A.units + 64 < cLine) : OpR X (compareOp .NotEq) (rEqNil X.K true) := by
  intro pins s σ H x y v u Q I rx ry h
  obtain ⟨p, q, xs, rfl, rfl, hp, hq, k⟩ := h
  cases (show v = Value.ref p from rx)
  cases (show u = Value.ref q from ry)
  obtain ⟨its, hl, h1, h2⟩ := nil_lists I hp hq
  cases xs with
  | nil =>
    have e : its = [] := List.eq_nil_of_length_eq_zero hl
    subst e
    exact SeqAt.RcNeAt.lists (e := fun _ => true) h1 h2 rfl (by omega) (fun j j1 _ => absurd j1 (by simp)) _ _ _ _ ⟨.bl false, H, I, rfl, k⟩
  | cons a r => exact SeqAt.RcNeAt.lists_lengths h1 h2 (by simp [hl]) (by omega) _ _ _ _ ⟨.bl true, H, I, rfl, k⟩
end
theorem i_eqNil {K : PySem.W.Frag} {neg : Bool} {H : Hp} {Q : VK} {p q : Addr} {xs : List V} (hp : SqL K H p xs) (hq : SqL K H q []) (k : Q (.bl (if neg then !xs.isEmpty else xs.isEmpty)) H) : rEqNil K neg (.ref p) (.ref q) H Q := ⟨p, q, xs, rfl, rfl, hp, hq, k⟩
/-! ### names and payloads -/
def plainC (c : Nat) : Bool := decide (32 ≤ c) && decide (c ≤ 126) && !decide (c = 37)
theorem plainC_t {c : Nat} (h1 : (32 : Int) ≤ (c : Int)) (h2 : (c : Int) ≤ 126) : plainC c = !decide (V.int (c : Int) = V.int 37) := by
  have a1 : 32 ≤ c := by omega
  have a2 : c ≤ 126 := by omega
  unfold plainC
  rw [decide_eq_true a1, decide_eq_true a2, Bool.true_and, Bool.true_and]
  by_cases h : c = 37
  · rw [decide_eq_true h, decide_eq_true (show V.int (c : Int) = V.int 37 by rw [h]; rfl)]
  · rw [decide_eq_false h, decide_eq_false (show ¬ V.int (c : Int) = V.int 37 from fun z => h (by injection z with z; omega))]
theorem plainC_f {c : Nat} (h : ¬ (32 : Int) ≤ (c : Int) ∨ ¬ (c : Int) ≤ 126) : plainC c = false := by
  unfold plainC
  rcases h with h | h
  · rw [decide_eq_false (show ¬ 32 ≤ c by omega)]; rfl
  · rw [decide_eq_false (show ¬ c ≤ 126 by omega), Bool.and_false]; rfl
def plainS (z : Str) : Bool := z.cps.toList.all plainC
def nameC (c : Nat) : Bool := decide (97 ≤ c) && decide (c ≤ 122)
theorem nameC_t {c : Nat} (h : (!decide (([c] : List Nat) < [97])) = true) : nameC c = !decide (([122] : List Nat) < [c]) := by
  rw [sing_lt] at h ⊢
  have h1 : ¬ c < 97 := by simpa using h
  unfold nameC
  rw [decide_eq_true (by omega), Bool.true_and]
  by_cases q : c ≤ 122
  · rw [decide_eq_true q, decide_eq_false (by omega)]; rfl
  · rw [decide_eq_false q, decide_eq_true (by omega)]; rfl
theorem nameC_f {c : Nat} (h : (!decide (([c] : List Nat) < [97])) = false) : nameC c = false := by
  rw [sing_lt] at h
  have h1 : c < 97 := by simpa using h
  unfold nameC
  rw [decide_eq_false (by omega), Bool.false_and]
def nameS (z : Str) : Bool := decide (0 < z.length) && decide (z.length ≤ 6) && z.cps.toList.all nameC
theorem nameS_len {z : Str} (h : ¬ (0 < z.length ∧ z.length ≤ 6)) : nameS z = false := by
  unfold nameS
  by_cases q : 0 < z.length
  · rw [decide_eq_false (show ¬ z.length ≤ 6 from fun r => h ⟨q, r⟩), Bool.and_false, Bool.false_and]
  · rw [decide_eq_false q, Bool.false_and, Bool.false_and]
def sp_is_plain : Sp := fun vs H Q _ => ∃ z : Str, vs = [.str z] ∧ z.length ≤ sizeLine ∧ ∀ H', Same H H' → Q (.bl (plainS z)) H'
def isName : V → Bool
  | .str z => nameS z
  | _ => false
def isPay : V → Bool
  | .str z => decide (z.length ≤ 32) && plainS z
  | _ => false
/-- a text within the line -/
def fitV : V → Prop
  | .str z => z.length ≤ sizeLine
  | _ => True
def sp_is_name : Sp := fun vs H Q _ => ∃ (v : V) (T : String), vs = [v] ∧ Kd H v T ∧ fitV v ∧ ∀ H', Same H H' → Q (.bl (isName v)) H'
def sp_is_payload : Sp := fun vs H Q _ => ∃ (v : V) (T : String), vs = [v] ∧ Kd H v T ∧ fitV v ∧ ∀ H', Same H H' → Q (.bl (isPay v)) H'
/-! ### an item of a list at a drawn place; joined texts -/
theorem menu {α : Type} {xs : List α} {r : Int} (h0 : 0 ≤ r) (h1 : r < (xs.length : Nat)) : ∃ v, v ∈ xs ∧ atI xs r = some v := by
  have hl : r.toNat < xs.length := by omega
  refine ⟨xs[r.toNat], List.getElem_mem hl, ?_⟩
  simp [atI, ixN, h0, h1, hl]
theorem joinL_nil : ∀ l : List (List Nat), TL.joinL [] l = l.flatten
  | [] => rfl
  | [p] => by simp [TL.joinL]
  | p :: q :: r => by
    show p ++ ([] ++ TL.joinL [] (q :: r)) = _
    rw [joinL_nil (q :: r)]
    rfl
theorem join_tl (ys : List Str) : (Txt.join Str.empty ys).cps.toList = (ys.map fun y => y.cps.toList).flatten := by
  rw [TL.join_eq]
  have e := TL.tl_join Str.empty ys
  rw [show TL.tl Str.empty = [] from rfl, joinL_nil] at e
  exact e
theorem str_len (z : Str) : z.length = z.cps.toList.length := rfl
theorem app_tl (x y : Str) : (x ++ y).cps.toList = x.cps.toList ++ y.cps.toList := TL.tl_append x y
theorem flat_len {l : List (List Nat)} {m : Nat} (h : ∀ p ∈ l, p.length = m) : l.flatten.length = l.length * m := by
  induction l with
  | nil => simp
  | cons a r ih =>
    rw [List.flatten_cons, List.length_append, h a List.mem_cons_self, ih fun p hp => h p (List.mem_cons_of_mem _ hp), List.length_cons, Nat.add_mul, Nat.one_mul, Nat.add_comm]
theorem cut_mem {z : Str} {lo hi : Option Int} {c : Nat} (h : c ∈ (cutS z lo hi).cps.toList) : c ∈ z.cps.toList := by
  unfold cutS at h
  simp only [List.toList_toArray] at h
  exact List.mem_of_mem_drop (List.mem_of_mem_take h)
theorem cut_len (z : Str) (lo hi : Option Int) : (cutS z lo hi).length ≤ z.length := by
  rw [str_len, str_len]
  unfold cutS
  simp only [List.toList_toArray, List.length_take, List.length_drop]
  omega
theorem i_dnew {σ : L2.St} {H : Hp} {Q : VK} (q : ∀ p, H p = none → Q (.ref p) (upd H p (.dK []))) : tDNewK σ H Q := q
theorem i_disp1 {σ : L2.St} {H : Hp} {Q : VK} {k : Key} {x y : V} (e : x = kV k) (q : ∀ p, H p = none → Q (.ref p) (upd H p (.dK [(k, y)]))) : tDisp [(tC x, tC y)] σ H Q := fun p hp => by
  subst e
  refine ⟨upd_same, [(k, y)], rfl, Nat.le_of_ble_eq_true rfl, ?_⟩
  rw [upd_upd]
  exact q p hp
theorem i_menuL {K : PySem.W.Frag} {H : Hp} {Q : VK} {p : Addr} {xs : List V} {r : Int} (h : SqL K H p xs) (h0 : 0 ≤ r) (h1 : r < (xs.length : Nat)) (q : ∀ v, v ∈ xs → Q v H) : rIxL K (.ref p) (.int r) H Q := let ⟨_, hv, e⟩ := menu h0 h1; i_ixL h e (q _ hv)
theorem i_menuS {H : Hp} {Q : VK} {z : Str} {r : Int} (l : z.length ≤ sizeLine) (h0 : 0 ≤ r) (h1 : r < (z.length : Nat)) (q : ∀ c, c ∈ z.cps.toList → Q (.str ⟨#[c]⟩) H) : rIxS (.str z) (.int r) H Q := let ⟨_, hv, e⟩ := menu (xs := z.cps.toList) h0 h1; i_ixS l e (q _ hv)
end G
/-! # LF: calls with keywords alone -/
namespace G
open PySem PySem.Spec PyProof.Rows L2
/-- the values in the parameters' order: places in (positional ++ keywords) -/
def gp (perm : List Nat) {α : Type} (us ws : List α) : List α := perm.filterMap fun i => (us ++ ws)[i]?
theorem gp_rel {perm : List Nat} : ∀ {vs : List V} {us : List Value} {zs : List V} {ws : List Value}, Vals vs us → Vals zs ws → Vals (gp perm vs zs) (gp perm us ws) := by
  intro vs us zs ws r q
  have rq := r.append q
  unfold gp
  induction perm with
  | nil => exact .nil
  | cons i p ih =>
    cases e : (vs ++ zs)[i]? with
    | none =>
      rw [List.filterMap_cons_none e, List.filterMap_cons_none (Vals.none_of rq e)]
      exact ih
    | some x =>
      obtain ⟨u, hu, ru⟩ := rq.get e
      rw [List.filterMap_cons_some e, List.filterMap_cons_some hu]
      exact .cons ru ih
theorem kbn_of {K : PySem.W.Frag} {x qual : Str} {params : Arguments} {body : List Stmt} {scope : Scope} {kws : List (Str × V)} {f : Addr} {fd : FuncData} {ps : List Str} (F : FunD K x qual params body scope [] kws f fd) (n : Nat) (ks : List Str) (perm : List Nat)
    (h : ∀ (kV doc pm : Value) (an : Option Addr) (cdv ct : Value) (us ws : List Value), us.length = n → ws.length = ks.length → bindArgs (PySem.W.fnOf x qual params body scope .none kV doc pm an cdv ct) ⟨us, ks.zip ws⟩ = pure (ps.zip (gp perm us ws))) : KBn K fd ps n ks (gp perm) (gp perm) := by
  obtain ⟨oc, od, dV, kV, doc, pm, an, cdv, ct, osl, rfl, lk, hcd, hD, hK⟩ := F.ex
  rcases hD with ⟨_, rfl⟩ | ⟨e, _⟩
  · exact ⟨fun s us ws _ h1 h2 => .of_eq (h kV doc pm an cdv ct us ws h1 h2), gp_rel⟩
  · exact absurd rfl e
def tCallN0 (m : Nat) (sp : Sp) (gV : List V → List V → List V) (E : XK) (tk : TA) : TE := fun σ H Q => tk σ H fun zs H2 => zs.length = m ∧ sp (gV [] zs) H2 Q E
section
variable {X : Cx} {cx : CXT} {k : Nat} {f : Addr} {fd : FuncData} {ps ks : List Str} {sp : Sp} {E : XK} {x : Str} {p pos : Pos} {kws : List Keyword} {tk : TA} {g : List Value → List Value → List Value} {gV : List V → List V → List V}
theorem pe_callN0 (F : FnOk X.prog X.w X.K X.mg X.base cx k f fd ps sp) (hr : Room k X.A) (hg : Gl X x) (hm : X.mg x = some (.ref f)) (hk : PySem.W.keepIn X.K (.ref f) = true) (hb : KBn X.K fd ps 0 ks g gV) (hx : Passes cx X E) (hkw : PK X kws tk)
    (q1 : (backToKw pos (keywordEach kws X.env)).all (·.1.isSome) = true := by rfl) (q2 : (backToKw pos (keywordEach kws X.env)).filterMap (·.1) = ks := by rfl) (q3 : (x == ("__debug__" : Str)) = false := by decide)
    (q4 : ((backTo pos (starEach [] X.env)).any (·.1) || (backToKw pos (keywordEach kws X.env)).any (·.1.isNone)) = false := by rfl) : PE X (.Call (.Name x p) [] kws pos) (tCallN0 ks.length sp gV E tk) := by
  refine ⟨fun pins s σ H Q I h => wpAny_Call_Name_kw (ld_glob I hg hm (PySem.W.callWith_KW0 (h₀ := X.base) I.ok.mod.kin hk q1 (thn (hkw.run pos pins s σ H _ I h) fun ws s2 ⟨zs, H2, I2, rz, l2, hs⟩ => ⟨I2.kIn, ?_⟩) q4) q3)⟩
  have lw : ws.length = ks.length := rz.length ▸ l2
  rw [q2]
  refine wpAny_call (codeAny_mono (F.run X.A X.stack s2 H2 ⟨[], ks.zip ws⟩ (g [] ws) (gV [] zs) Q E hr I2.env0 (hb.to s2 [] ws I2.kIn rfl lw) (hb.rel .nil rz) hs) fun res s' z => ?_)
  rcases res with e | fl
  · exact hx pins σ H2 s2 e s' I2 z
  · cases fl <;> first | exact I2.after z | exact False.elim z
end
theorem i_callN0 {σ : L2.St} {H : Hp} {Q : VK} {m : Nat} {sp : Sp} {gV : List V → List V → List V} {E : XK} {tk : TA} (q : tk σ H fun zs H2 => zs.length = m ∧ sp (gV [] zs) H2 Q E) : tCallN0 m sp gV E tk σ H Q := q
theorem i_notB {H : Hp} {Q : VK} {a b : Bool} (q : Q (.bl (!decide (a = b))) H) : rNotB (.bl a) (.bl b) H Q := ⟨a, b, rfl, rfl, q⟩
theorem i_repr {K : PySem.W.Frag} {H : Hp} {Q : VK} {v : V} {d : PyData} (h : Dq K H v d) (ok : Okd 16000000 60 d) (q : Q (.str d.shown) H) : rRepr K [v] H Q := ⟨v, d, rfl, h, ok, q⟩
theorem same_kp {p : Addr} {H X Y : Hp} (s : Same H X) (hp : H p = none) (k : Kp p X Y) : Same H Y := fun b o h => k b o (ne_of_none h hp) (s b o h)
theorem BoxAt.same {n : Nat} {H H' : Hp} {a : Addr} (b : BoxAt n H a) (s : Same H H') : BoxAt n H' a := let ⟨o, h1, h2⟩ := b; ⟨o, s _ _ h1, h2⟩
theorem Okd.sm {n k : Nat} {d : PyData} (h : Okd n k d) (hn : Nat.ble n 16000000 = true := by rfl) (hk : Nat.ble k 60 = true := by rfl) : Okd 16000000 60 d := h.mono (Nat.le_of_ble_eq_true hn) (Nat.le_of_ble_eq_true hk)
theorem same_kp' {p : Addr} {H X Y : Hp} (k : Kp p X Y) (hp : H p = none) (s : Same H X) : Same H Y := same_kp s hp k
theorem same_tr {H X Y : Hp} (t : Same X Y) (s : Same H X) : Same H Y := s.trans t
theorem kd_kp {a : Addr} {H H' : Hp} {v : V} {T : String} (s : Kp a H H') (n : v ≠ .ref a) (k : Kd H v T) : Kd H' v T := k.kp n s
theorem kd_same {H H' : Hp} {v : V} {T : String} (s : Same H H') (k : Kd H v T) : Kd H' v T := k.same s
theorem kd_new {H : Hp} {p : Addr} {o : HO} {v : V} {T : String} (hp : H p = none) (k : Kd H v T) : Kd (upd H p o) v T := k.same (same_new hp)
theorem take_ {H : Hp} {Q : VK} {E : XK} {a : Addr} {m : Int} {n : Nat} (bx : BoxAt n H a) (hn : n ≤ 1000000) (h1 : 0 < m) (h2 : m < 1073741824) (q : ∀ (r : Int) (H' : Hp), 0 ≤ r → r < m → BoxAt (n + 1) H' a → Kp a H H' → Q (.int r) H') : sp_l_take [.ref a, .int m] H Q E :=
  ⟨a, m, n, rfl, bx, hn, h1, h2, fun r _ h0 h1 ho => q r _ h0 h1 (.of ho) .box⟩
theorem box_same {n : Nat} {H H' : Hp} {a : Addr} (s : Same H H') (b : BoxAt n H a) : BoxAt n H' a := b.same s
theorem kp_tr {a : Addr} {H H1 H2 : Hp} (l : Kp a H1 H2) (k : Kp a H H1) : Kp a H H2 := k.trans l
theorem kp_same {a : Addr} {H H1 H2 : Hp} (l : Same H1 H2) (k : Kp a H H1) : Kp a H H2 := fun b o n h => l b o (k b o n h)
theorem old' {H : Hp} {a p : Addr} {o u : HO} (hp : H p = none) (h : H a = some o) : upd H p u a = some o := old h hp
theorem box_new {n : Nat} {H : Hp} {a p : Addr} {o : HO} (hp : H p = none) (h : BoxAt n H a) : BoxAt n (upd H p o) a := h.new hp
theorem box_wr {n : Nat} {H : Hp} {a p : Addr} {o : HO} (hp : a ≠ p) (h : BoxAt n H a) : BoxAt n (upd H p o) a := h.wr hp
theorem kp_new {a p : Addr} {H H' : Hp} {o : HO} (hp : H' p = none) (k : Kp a H H') : Kp a H (upd H' p o) := k.new hp
theorem same_nw {H H' : Hp} {p : Addr} {o : HO} (hp : H' p = none) (s : Same H H') : Same H (upd H' p o) := G.Same.new s hp
end G
/-! # LG: own exceptions whose __init__ says super().__init__(f) and self.f = f -/
namespace PySem
namespace XV
open PySem.W PySem.Calls PyProof.Rows PySem.HandSPX Builtin Builtin.ObjectAttr
def xA (f : Str) (p1 p2 : Pos) : Arguments := { posonlyargs := [], args := [{ arg := "self", annotation := none, pos := p1 }, { arg := f, annotation := none, pos := p2 }], vararg := none, kwonlyargs := [], kw_defaults := [], kwarg := none, defaults := [] }
def xB (f : Str) (s0 s1 a0 v0 c0 e0 g0 g1 g2 g3 : Pos) : List Stmt :=
  [.Expr (.Call (.Attribute (.Call (.Name "super" s0) [] [] s1) "__init__" a0) [.Name f v0] [] c0) e0, .Assign [.Attribute (.Name "self" g2) f g1] (.Name f g3) g0]
def xS (f : Str) : Scope := { kind := .function, names := [(PySem.Str.ofString "self", .local), (f, .local), (PySem.Str.ofString "__class__", .free), (PySem.Str.ofString "super", .globalImplicit)], isGenerator := false, isCoroutine := false, more := [] }
/-- what the field's name must be -/
structure FName (f : Str) : Prop where
  lf : (xS f).names.lookup f = some .local
  lc : (xS f).names.lookup ("__class__" : Str) = some .free
  ls : (xS f).names.lookup ("super" : Str) = some .globalImplicit
  ns : (("self" : Str) == f) = false
  nd : (f == ("__debug__" : Str)) = false
  bd : ∀ (qual : Str) (p1 p2 : Pos) (body : List Stmt) (doc pm : Value) (an : Option Addr) (cdv ct : Value) (cc : Addr) (x v : Value), bindArgs (ksFn "__init__" qual (xA f p1 p2) body (xS f) .none .none doc pm an cdv ct cc) ⟨[x, v], []⟩ = pure [(PySem.Str.ofString "self", x), (f, v)]
theorem fname_value : FName "value" := ⟨by decide +kernel, by decide +kernel, by decide +kernel, by decide +kernel, by decide +kernel, fun _ _ _ _ _ _ _ _ _ _ _ _ => by first | rfl | with_unfolding_all rfl⟩
theorem fname_count : FName "count" := ⟨by decide +kernel, by decide +kernel, by decide +kernel, by decide +kernel, by decide +kernel, fun _ _ _ _ _ _ _ _ _ _ _ _ => by first | rfl | with_unfolding_all rfl⟩
theorem fname_number : FName "number" := ⟨by decide +kernel, by decide +kernel, by decide +kernel, by decide +kernel, by decide +kernel, fun _ _ _ _ _ _ _ _ _ _ _ _ => by first | rfl | with_unfolding_all rfl⟩
/-- what the written part says of the class at C, over the built-in B, and of its __init__ at fI -/
structure XTxt (P : Program) (K : Frag) (f : Str) (C fI : Addr) (newId initId : String) (bmB : List Value) (B : String) : Prop where
  ini : excInitIn K C bmB newId = true
  ovr : excOver K C bmB = true
  sa : findIn K (.ref C) "__setattr__" = some (some (.builtin "object.__setattr__"))
  noF : findIn K (.ref C) f = some none
  hd : hasDictIn K C = true
  iC : findIn K (.ref C) "__init__" = some (some (.ref fI))
  tI : typeIn K (.ref fI) = some (.type "function")
  sup : ks_superIn K C C "__init__" = some (some (.builtin initId))
  subB : subIn K (.ref C) (.type B) = some true
  slf : mroIn K C (.ref C) = some true
  th : nsIn K cStatics "thirdparty.any" = some none
  sg : nsIn K mainGlobals "super" = some none
  tp : (P.main.scope.names.lookup ("super" : Str)).isSome = false
  fn : ∃ (oc : Value) (od : Option Addr) (doc pm : Value) (an : Option Addr) (cda : Addr) (ct : Value) (cc : Addr) (osl : Array (Option Value)) (cl : Value) (cld : Option Addr) (csl : Array (Option Value)) (ccl : Value) (cdd : Option Addr) (ccs : Array (Option Value)) (vs : Array Value)
      (file : Str) (tf : Tok) (qual : Str) (p1 p2 s0 s1 a0 v0 c0 e0 g0 g1 g2 g3 : Pos),
    K.lookup fI = some ⟨oc, od, .func (ksFn "__init__" qual (xA f p1 p2) (xB f s0 s1 a0 v0 c0 e0 g0 g1 g2 g3) (xS f) .none .none doc pm an (.ref cda) ct cc), osl⟩ ∧ codeIn K (.ref cda) qual = true ∧
    K.lookup cc = some ⟨cl, cld, .cell (some (.ref C)), csl⟩ ∧ K.lookup cda = some ⟨ccl, cdd, .fields vs, ccs⟩ ∧ vs[2]? = some (.str file tf) ∧ ((P.main.file : Str) == file) = true ∧ (a0.endLine == c0.line) = true
structure XInit (h h' : Heap) (x C dx : Addr) (f : Str) (v : Value) : Prop where
  keep : ∀ b o, b ≠ x → h.get? b = some o → h'.get? b = some o
  obj : ∃ t1 : Addr, h'.get? x = some { cls := .ref C, dict := some dx, data := .fields #[.ref t1, .none, .none, .none, .bool false, .none] }
  dbig : h.objs.size ≤ dx
  dne : dx ≠ x
  ns : h'.Ns1 dx (fun y => if y = f then some v else none)
section
variable {prog : Program} {w : World} {A : Around} {E : Value → Shared → Prop} {R : Result → Shared → Prop} {s : Shared} {K : Frag} {mg mb : Str → Option Value} {C fI : Addr} {f : Str} {B newId initId : String} {bmB : List Value}
theorem eval_sup {env : Env} {s0 s1 a0 v0 c0 : Pos} (hl : (a0.endLine == c0.line) = true) : eval (.Call (.Attribute (.Call (.Name "super" s0) [] [] s1) "__init__" a0) [.Name f v0] [] c0) env = (do
      let ov ← attributeBase (.Call (.Name "super" s0) [] [] s1) "__init__" env (eval (.Call (.Name "super" s0) [] [] s1) env)
      standAt a0.atName
      let (f', first) ← holding [ov] (getMethod ov "__init__" (L2.plainOf (.Call (.Name "super" s0) [] [] s1) env))
      callWith c0 f' first (backTo c0 (starEach [.Name f v0] env)) []) := by
  have e : eval (.Call (.Attribute (.Call (.Name "super" s0) [] [] s1) "__init__" a0) [.Name f v0] [] c0) env = (do
      let ov ← attributeBase (.Call (.Name "super" s0) [] [] s1) "__init__" env (eval (.Call (.Name "super" s0) [] [] s1) env)
      standAt a0.atName
      methodCall (.Call (.Name "super" s0) [] [] s1) "__init__" a0 c0 env ov 1 (backTo c0 (starEach [.Name f v0] env)) []) := by rfl
  rw [e]
  simp only [L2.mcall_line (show methodCallForm 1 (backTo c0 (starEach [.Name f v0] env)) [] = true from rfl) hl]
/-- self.f = v of an exception that has no dict yet -/
theorem x_store (SF : StoreFacts B bmB "object.__setattr__" "object") {x t : Addr} {v : Value} (X : K.In s.heap) (hx : s.heap.get? x = some (excO C t)) (hov : excOver K C bmB = true) (hd : hasDictIn K C = true) (sa : findIn K (.ref C) "__setattr__" = some (some (.builtin "object.__setattr__"))) (nf : findIn K (.ref C) f = some none) {Q : Unit → Shared → Prop}
    (hq : ∀ h' tk dx, (∀ b o, b ≠ x → s.heap.get? b = some o → h'.get? b = some o) → s.heap.objs.size ≤ dx → dx ≠ x → h'.get? x = some { cls := .ref C, dict := some dx, data := .fields #[.ref t, .none, .none, .none, .bool false, .none] } →
      h'.Ns1 dx (fun y => if y = f then some v else none) → Q () { s with heap := h', toks := tk }) : wpAny (model prog w) A (setAttr (.ref x) f v) Q E s := by
  refine set_plain X (ox := excO C t) (od := none) ⟨hx, rfl, rfl, trivial⟩ sa ?_
  have tkr : takerIn K C f = some none := by unfold takerIn; rw [nf] <;> rfl
  obtain ⟨cd, hc, hdc⟩ := any_some hd
  have hcls : W.Looks (model prog w) s.heap (classData C) cd := W.looks_clsIn X hc
  have hxs : x ≠ s.heap.objs.size := Nat.ne_of_lt (Heap.lt_size hx)
  refine osa_openX (s := { s with toks := s.toks + 1 }) (od := none) SF X ⟨hx, rfl, rfl, trivial⟩ hov tkr fun b => ?_
  obtain ⟨hp, g, d, t', os⟩ := s
  obtain ⟨nm, bs, mro, ns, qn, hdd, sn, sb, ab, col, del⟩ := cd
  dsimp only at hdc
  subst hdc
  show wpAny _ _ (storeInOwnDict (.ref x) (.ref C) _ f v b) _ _ _
  unfold storeInOwnDict ownDictForStores
  repeat (first | with_reducible refine store_in_new ?_ ?_ | with_reducible refine wpAny_loadPart_at hx ?_ | with_reducible refine hcls.at ?_ | wp_step)
  · exact ⟨_, #[], _, (Heap.get?_update_ne _ _ _ _ hxs.symm).trans (Heap.get?_push_at rfl rfl), rfl, fun e he => absurd he (by simp), fun _ => rfl⟩
  · intro h' tk' hn' hs
    have hx1 : (hp.push { cls := .type "dict", data := .dict #[] }).get? x = some (excO C t) := Heap.get?_push_of_some _ hx
    refine hq h' tk' hp.objs.size (fun b o hb ho => ?_) (Nat.le_refl _) hxs.symm ?_ hn'
    · exact (hs.2 b (Nat.ne_of_lt (Heap.lt_size ho))).trans ((Heap.get?_update_ne _ _ _ _ hb).trans (Heap.get?_push_of_some _ ho))
    · exact (hs.2 x hxs).trans (Heap.get?_update_self _ hx1 rfl)
/-- super().__init__(v), called: the wrapper at u -/
theorem x_super (FB : ExcBaseFacts B newId initId bmB) {x t u : Addr} {v : Value} {Q : Value → Shared → Prop} (X : K.In s.heap) (ini : excInitIn K C bmB newId = true) (hx : s.heap.get? x = some (excO C t)) (hu : s.heap.get? u = some (kxs_mw initId x))
    (hq : ∀ h' t1, (∀ b o, b ≠ x → s.heap.get? b = some o → h'.get? b = some o) → h'.get? x = some (excO C t1) → Q .none { s with heap := h' }) : wpAny (model prog w) A (call (.ref u) [v]) Q E s := by
  obtain ⟨nm, N', qn, bs, bm, hdct, sn, sub, ab, col, dd, k0, k1, k2, k3, k5, hC, hT⟩ := excInit_of X ini
  obtain ⟨hh, g, d, tk, os⟩ := s
  refine wpAny_call (codeAny_of_tree ?_)
  show wpAny _ A.in1 (callAny (.ref u) ⟨[v], []⟩) _ _ _
  simp only [callAny]
  refine wpAny_bind (wpAny_load hu ?_)
  simp only [kxs_mw, show (Value.type "method-wrapper" == Value.type "method" || Value.type "method-wrapper" == Value.type "builtin_function_or_method" || Value.type "method-wrapper" == Value.type "method-wrapper") = true by decide, if_true]
  refine KFB.if_so (by decide) (wpAny_bind (check_bound_init FB.toExcCallFacts hC hx rfl (wpAny_bind (wpAny_pure (wpAny_pure ⟨plainId_quiet FB.init.plain _, codeAny_builtin FB.initEntry ?_⟩)))))
  exact exc_init_tree (cls := .ref C) (t0 := t) (dv := none) (c2 := .none) (c3 := .none) (b4 := .bool false) hx (by rw [sizeLine_eq]; exact (by decide : 1 ≤ 16777216)) fun h' k e _ => hq h' _ k e
theorem x_init (FB : ExcBaseFacts B newId initId bmB) (KF : KxsFacts B initId) (SF : StoreFacts B bmB "object.__setattr__" "object") (N : FName f) (T : XTxt prog K f C fI newId initId bmB B) {x t0 : Addr} {v : Value}
    (X : K.In s.heap) (G : s.heap.Ns mainGlobals mg) (Bn : s.heap.Ns builtinsNs mb) (hbb : ∀ x : Str, x ≠ "__name__" → mb x = bootBuiltins x) (hlim : s.heap.NoLimit) (hx : s.heap.get? x = some (excO C t0)) (hnx : K.lookup x = none) (hroom : A.depth < recursionLimit)
    (hq : ∀ h' tk dx, XInit s.heap h' x C dx f v → R (.ok (.ret .none)) { s with heap := h', toks := tk }) : codeAny (model prog w) A (.call (.ref fI) ⟨[.ref x, v], []⟩) R s := by
  obtain ⟨oc, od, doc, pm, an, cda, ct, cc, osl, cl, cld, csl, ccl, cdd, ccs, vs, file, tf, qual, p1, p2, s0, s1, a0, v0, c0, e0, g0, g1, g2, g3, lk, hcd, hcell, hcode, hvs, hfile, hline⟩ := T.fn
  refine ks_codeAny_call_defAt (fd := ksFn "__init__" qual (xA f p1 p2) (xB f s0 s1 a0 v0 c0 e0 g0 g1 g2 g3) (xS f) .none .none doc pm an (.ref cda) ct cc) (body := xB f s0 s1 a0 v0 c0 e0 g0 g1 g2 g3) (binds := [("self", .ref x), (f, v)]) hroom (X _ _ lk) rfl hlim (codeRec_of X hcd) rfl
    (BindsTo.of_eq (N.bd _ _ _ _ _ _ _ _ _ _ _ _)) ?hce ?hlo (fun h1 hns hk => ?_)
  case hce =>
    intro y hy
    have hy' : y ∈ [(PySem.Str.ofString "self", NameKind.local), (f, .local), (PySem.Str.ofString "__class__", .free), (PySem.Str.ofString "super", .globalImplicit)] := hy
    simp only [List.mem_cons, List.not_mem_nil, or_false] at hy'
    rcases hy' with rfl | rfl | rfl | rfl <;> exact fun z => nomatch z
  case hlo =>
    intro y hy
    simp only [List.mem_cons, List.not_mem_nil, or_false] at hy
    rcases hy with rfl | rfl
    · rfl
    · exact N.lf
  have X1 : K.In h1 := X.keeps hk
  have hx1 := hk _ _ hx
  have lf : ([("self", .ref x), (f, v)] : List (Str × Value)).reverse.lookup f = some v := by
    show List.lookup f [(f, v), (("self" : Str), Value.ref x)] = some v
    simp [List.lookup]
  have ls : ([("self", .ref x), (f, v)] : List (Str × Value)).reverse.lookup ("self" : Str) = some (.ref x) := by
    show List.lookup ("self" : Str) [(f, v), (("self" : Str), Value.ref x)] = some (.ref x)
    simp only [List.lookup, N.ns]
    rfl
  obtain ⟨cd, hcC, _⟩ := any_some T.hd
  obtain ⟨oD, hD1, hD2⟩ : ∃ oD, h1.get? C = some oD ∧ oD.data = .cls cd := by
    unfold clsIn at hcC
    split at hcC
    · rename_i c d cd' sl ho
      cases hcC
      exact ⟨_, X1 _ _ ho, rfl⟩
    · cases hcC
  have I1 : InstAt h1 x (excO C t0) C none := ⟨hx1, rfl, rfl, trivial⟩
  have hsz : s.heap.objs.size < h1.objs.size := hns.lt
  have hxL : x ≠ s.heap.objs.size := Nat.ne_of_lt (Heap.lt_size hx)
  refine ks_wpAt_execs_cons (ks_wpAt_Expr_any (ks_wpAt_MethodCall ?_ (eval_sup hline)))
  refine ks_wpAt_super_base N.ls N.lc (by decide +kernel) rfl (X1 _ _ lk) rfl rfl rfl (X1 _ _ hcode) rfl hvs hfile T.tp ?_
  refine ks_loadName_global rfl N.ls (loadGlobal_builtin (G.keeps hk) (mg_none_of X G T.sg) (Bn.keeps hk) ((hbb _ (by decide +kernel)).trans (by decide +kernel)) ⟨rfl, ?_⟩)
  refine wpAny_loadName_free rfl N.lc rfl ⟨_, X1 _ _ hcell, rfl⟩ ?_
  refine wpAny_loadName_local rfl (show (xS f).names.lookup ("self" : Str) = some .local from rfl) hns ls ?_
  refine ks_wpAny_isType_cls hD1 hD2 ⟨rfl, ?_⟩
  refine ks_wpAny_call_super hD1 hD2 hx1 rfl (fun c => fun z => nomatch z) (looks_mroIn X1 T.slf) (fun h2 e2 k2 => ?_)
  have X2 : K.In h2 := X1.keeps k2
  have I2 : InstAt h2 x (excO C t0) C none := ⟨k2 _ _ hx1, rfl, rfl, trivial⟩
  have hm : alongIn K "__init__" ((cd.mro.dropWhile (· != .ref C)).drop 1) = some (some (.builtin initId)) := by
    have z := T.sup
    unfold ks_superIn at z
    rw [hcC] at z
    exact z
  refine kxs_getMethod KF e2 (looks_opaque X2 T.th) (l₀ := cd.mro) (fun A Q E s k q => wpAny_bind ((looks_clsIn X2 hcC) A _ E s k (wpAny_pure q))) rfl X2 hm (I2.type.andThen (looks_subIn X2 T.subB)) (ks_ne X1 I1 hcC) (by decide +kernel) ?_
  have k3 : ∀ b o, h1.get? b = some o → (h2.push (kxs_mw initId x)).get? b = some o := fun b o z => Heap.get?_push_of_some _ (k2 b o z)
  refine kxs_callWith (i := initId) (x := x) rfl ?_
  refine evalArgs_plain (x := eval (.Name f v0) _) (rest := []) (spliced_cons ?_)
  refine wpAny_Name (wpAny_loadName_local rfl ?_ (hns.keeps k3) lf ?_) N.nd
  · exact N.lf
  refine spliced_nil ⟨Heap.get?_push_at rfl rfl, ?_⟩
  show wpAny _ _ (call (.ref h2.objs.size) [v]) _ _ _
  refine x_super FB (X2.keeps fun b o z => Heap.get?_push_of_some _ z) T.ini (Heap.get?_push_of_some _ (k2 _ _ hx1)) (Heap.get?_push_at rfl rfl) (fun h4 t1 k4 hx4 => ?_)
  have k14 : ∀ b o, b ≠ x → h1.get? b = some o → h4.get? b = some o := fun b o hb z => k4 b o hb (k3 b o z)
  have X4 : K.In h4 := fun a o z => k14 a o (fun y => by rw [y, hnx] at z; cases z) (X1 a o z)
  have hns4 : h4.Ns s.heap.objs.size (fun y => ([("self", .ref x), (f, v)] : List (Str × Value)).reverse.lookup y) := let ⟨o, es, n, q, dd, r⟩ := hns; ⟨o, es, n, k14 _ _ hxL.symm q, dd, r⟩
  show wpAt _ _ _ (execs _ _) _ _ _
  refine ks_wpAt_execs_cons (ks_wpAt_Assign_Attr (wpAt_of_wpAny ?_))
  refine wpAny_Name (wpAny_loadName_local rfl ?_ hns4 lf ?_) N.nd
  · exact N.lf
  refine wpAny_Name (wpAny_loadName_local rfl (show (xS f).names.lookup ("self" : Str) = some .local from rfl) hns4 ls ?_) (by decide +kernel)
  refine x_store SF X4 hx4 T.ovr T.hd T.sa T.noF (fun h5 tk5 dx k5 db dn hx5 n5 => ?_)
  show wpAt _ _ _ (execs _ _) _ _ _
  refine wpAt_of_wpAny (wpAny_execs_nil ?_)
  have big : s.heap.objs.size ≤ dx := by
    have z : s.heap.objs.size < h4.objs.size := hns4.lt
    exact Nat.le_of_lt (Nat.lt_of_lt_of_le z db)
  exact hq h5 tk5 dx ⟨fun b o hb z => k5 b o hb (k14 b o hb (hk b o z)), ⟨t1, hx5⟩, big, dn, n5⟩
/-- C(v), made -/
structure XMade (h h' : Heap) (e C d : Addr) (f : Str) (v : Value) : Prop where
  keep : ∀ b o, h.get? b = some o → h'.get? b = some o
  new : h.objs.size ≤ e
  obj : ∃ oe vs, h'.get? e = some oe ∧ oe.cls = .ref C ∧ oe.dict = some d ∧ oe.data = .fields vs ∧ vs[1]? = some .none
  dbig : h.objs.size ≤ d
  dne : d ≠ e
  ns : h'.Ns1 d (fun y => if y = f then some v else none)
theorem x_made (FB : ExcBaseFacts B newId initId bmB) (KF : KxsFacts B initId) (SF : StoreFacts B bmB "object.__setattr__" "object") (N : FName f) (T : XTxt prog K f C fI newId initId bmB B) {v : Value}
    (X : K.In s.heap) (G : s.heap.Ns mainGlobals mg) (Bn : s.heap.Ns builtinsNs mb) (hbb : ∀ x : Str, x ≠ "__name__" → mb x = bootBuiltins x) (hlim : s.heap.NoLimit) (hroom : A.depth + 1 < recursionLimit)
    (hq : ∀ h' tk e d, XMade s.heap h' e C d f v → R (.ok (.ret (.ref e))) { s with heap := h', toks := tk }) : codeAny (model prog w) A (.call (.ref C) ⟨[v], []⟩) R s := by
  obtain ⟨nm, N', qn, bs, bm, hdct, sn, sub, ab, col, dd, k0, k1, k2, k3, k5, hC, hT⟩ := excInit_of X T.ini
  obtain ⟨hp, g, dr, tk, os⟩ := s
  have kk : ∀ b o, hp.get? b = some o → ((hp.push (kdv_tup [v])).push (excO C hp.objs.size)).get? b = some o := fun b o z => Heap.get?_push_of_some _ (Heap.get?_push_of_some _ z)
  have hget : ((hp.push (kdv_tup [v])).push (excO C hp.objs.size)).get? (hp.objs.size + 1) = some (excO C hp.objs.size) := by heap_get
  have hnx : K.lookup (hp.objs.size + 1) = none := by
    rcases Option.eq_none_or_eq_some (K.lookup (hp.objs.size + 1)) with z | ⟨o, z⟩
    · exact z
    · have q : hp.get? (hp.objs.size + 1) = some o := X _ _ z
      exact absurd (Nat.lt_of_succ_lt (Heap.lt_size q)) (Nat.lt_irrefl _)
  refine HandSPX.call_own FB hT hC (looks_findIn X T.iC) (fun self => bind_fn X self T.tI) (by rw [sizeLine_eq]; exact (by decide : 1 ≤ 16777216)) ?_
  refine x_init (s := ⟨(hp.push (kdv_tup [v])).push (excO C hp.objs.size), g, dr, tk, os⟩) FB KF SF N T (X.keeps kk) (G.keeps kk) (Bn.keeps kk) hbb (hlim.keeps kk) hget hnx ?_ (fun h' tk' dx M => ?_)
  · exact hroom
  · obtain ⟨k', ⟨t1, hx⟩, dn, dne, hns⟩ := M
    have oldk : ∀ b o, hp.get? b = some o → h'.get? b = some o := fun b o z => k' b o (Nat.ne_of_lt (Nat.lt_succ_of_lt (Heap.lt_size z))) (kk b o z)
    have z : hp.objs.size + 1 + 1 ≤ dx := by
      have q := dn
      rw [Heap.size_push, Heap.size_push] at q
      exact q
    exact ⟨rfl, hq h' tk' (hp.objs.size + 1) dx ⟨oldk, Nat.le_succ _, ⟨_, _, hx, rfl, rfl, rfl, rfl⟩, Nat.le_trans (Nat.le_trans (Nat.le_succ _) (Nat.le_succ _)) z, dne, hns⟩⟩
end
end XV
end PySem
/-! # LH: raise and try over the own exceptions of LG -/
namespace G
open PySem PySem.Spec PyProof.Rows L2
/-- the except clauses and what they wish: «X as n», «X», or clauses that are never come to -/
inductive HG (X : Cx) : List ExceptHandler → (Ends → WX) → Prop
  | stop (hds : List ExceptHandler) : HG X hds (fun _ _ _ _ _ => False)
  | as_ {x n : Str} {c : Value} {i : Nat} {ts : Addr → Value → Option Addr → TS} {b₀ : Stmt} {suite : List Stmt} {np p' : Pos} {hds : List ExceptHandler} {W : Ends → WX} (nd : X.N.Nodup) (hi : X.N[i]? = some n) (hl : X.env.kindOf n = some .local) (hc : Names X x c)
      (hsu : ∀ (a : Addr) (oe : Obj) (cls : Value) (d : Option Addr) (pn : List (Addr × Obj)), Zc cls d oe → (∃ vs, oe.data = .fields vs) → PSs (X.suite a ((a, oe) :: pn)) (b₀ :: suite) (ts a cls d)) (r : HG X hds W) :
      HG X (.ExceptHandler (some (.Name x np)) (some n) (b₀ :: suite) p' :: hds) (fun D => wAs X.K c i ts (W D) D)
  | only {x : Str} {c : Value} {ts : Addr → Value → Option Addr → TS} {b₀ : Stmt} {suite : List Stmt} {np p' : Pos} {hds : List ExceptHandler} {W : Ends → WX} (hc : Names X x c)
      (hsu : ∀ (a : Addr) (oe : Obj) (cls : Value) (d : Option Addr) (pn : List (Addr × Obj)), Zc cls d oe → (∃ vs, oe.data = .fields vs) → PSs (X.suite a ((a, oe) :: pn)) (b₀ :: suite) (ts a cls d)) (r : HG X hds W) :
      HG X (.ExceptHandler (some (.Name x np)) none (b₀ :: suite) p' :: hds) (fun D => wOnly X.K c ts (W D) D)
section
variable {X : Cx} {body : List Stmt} {hds : List ExceptHandler} {pos : Pos} {tb : WX → TS} {W : Ends → WX} {hd0 : ExceptHandler}
theorem ps_tryG (hs : X.stack = X.env :: X.outer) (hf : X.env.frame = some X.env.locals)
    (hb : ∀ (W : WX) (pn : List (Addr × Obj)) (xe : Value → Shared → Prop), Takes (X.tr pn xe) W → PassesOwn (model X.prog X.w) X.A X.env xe → PSs (X.tr pn xe) body (tb W)) (hh : HG X (hd0 :: hds) W) :
    PS X (.Try body (hd0 :: hds) [] [] pos) (fun D σ H => tb (W D) D σ H) := ⟨fun pins s σ H D I h => by
  have ok := I.ok
  have fr : X.A.frames = some (X.env :: X.outer) := hs ▸ ok.frames
  refine wpAny_Try_except (wpAny_mono ((hb (W D) (X.pn ++ pins) (fun e s₁ => wpAny (model X.prog X.w) X.A (noteFrame e X.env) (fun _ s₂ => wpAny (model X.prog X.w) X.A (setFlight e none) (fun _ s₃ => wpAny (model X.prog X.w) X.A (handleBy e X.env (hd0 :: hds)) (SP X pins D) X.xe s₃) X.xe s₂) X.xe s₁) (fun u s' xx => ?_)
    PassesOwn.looking).run [] s σ H D (I.toTry _) h) (fun fl s1 z => ?_) fun _ _ z => z)
  · obtain ⟨ea, B, sI, pins', σ', H', cls, d, rfl, J', nb, up, sky, na, os, ag, w⟩ := xx
    have J : Inv X pins σ' H' sI := J'.ofTry ok
    refine Sky.land Zc.steady fr hf (hs ▸ sky) fun h3 fl3 up3 => ?_
    have J3 : Inv X pins σ' H' { s' with heap := h3 } := J.landed nb fl3.1 (up.trans up3) os ag
    obtain ⟨oe3, vs3, he3, hz3, hd3⟩ := fl3.there
    have nfr : ea ∉ frs (X.env :: X.outer) := fun hm => by
      obtain ⟨_, o', e', hnf⟩ := fl3.2.2.1.mem hm
      rw [he3] at e'
      cases e'
      exact hnf _ hd3
    have nL : ea ≠ X.env.locals := fun z => nfr (List.mem_filterMap.mpr ⟨X.env, List.mem_cons_self, hf.trans (congrArg some z.symm)⟩)
    have nF : ea ∉ X.fs := fun hm => let ⟨e, he, q⟩ := List.mem_filterMap.mp hm; nfr (List.mem_filterMap.mpr ⟨e, List.mem_cons_of_mem _ he, q⟩)
    have S3 := J3.suite he3 hd3 na nL nF
    have LT : PySem.W.Looks (model X.prog X.w) h3 (typeOf (.ref ea)) cls := fun A Q E s k q => wpAny_typeOf_ref (k _ _ he3) (hz3.1 ▸ q)
    have test : ∀ {x : Str} {c : Value} {np : Pos} {Q : Value → Shared → Prop} {E : Value → Shared → Prop}, Names X x c → Q c { s' with heap := h3 } → wpAny (model X.prog X.w) (X.A.mark (some (.ref ea))) (eval (.Name x np) X.env) Q E { s' with heap := h3 } := fun {x c np Q E} hc q => by
      obtain ⟨g1, g2, g3 | ⟨g3, g4, g5⟩⟩ := hc
      · exact ld_glob (X := X.suite ea ((ea, oe3) :: (X.pn ++ pins))) S3 g1 g3 q g2
      · exact ld_blt (X := X.suite ea ((ea, oe3) :: (X.pn ++ pins))) S3 g1 g3 g4 q g5 g2
    have go : ∀ {hl : List ExceptHandler} {W' : Ends → WX}, HG X hl W' → W' D cls d σ' H' → wpAny (model X.prog X.w) X.A (handleBy (.ref ea) X.env hl) (SP X pins D) X.xe { s' with heap := h3 } := by
      intro hl W' hk
      induction hk with
      | stop hds => exact fun z => False.elim z
      | as_ nd hi hln hc hsu r ih =>
        rintro ⟨b, hb1, hyes, hno⟩
        refine wpAny_handleBy_cons (codeAny_handlers_test (test hc ((PySem.W.exm_one (M := model X.prog X.w) J3.kIn LT hb1).here ?_))) (fun q => nomatch q)
        cases b with
        | false => exact ih (hno rfl)
        | true =>
          refine codeAny_handlers_suite_as (HandSPX.lands_againZ fl3 fun h4 fl4 up4 => ?_)
          have J4 : Inv X pins σ' H' { s' with heap := h4 } := J.landed nb fl4.1 ((up.trans up3).trans up4) os ag
          obtain ⟨oe4, vs4, he4, hz4, hd4⟩ := fl4.there
          refine store_ok (X := X.suite ea ((ea, oe4) :: (X.pn ++ pins))) (v := .ref ea) (J4.suite he4 hd4 na nL nF) nd hi (.inl hln) rfl (fun s5 S5 => ?_) (.inr hln)
          refine wpAny_mono ((hsu ea oe4 cls d (X.pn ++ pins) hz4 ⟨_, hd4⟩).run [] s5 _ H' _ S5 (hyes rfl ea na)) (fun f6 s6 z => ?_) (fun _ _ z => False.elim z)
          cases f6 with
          | ret u => exact let ⟨_, _, _, S6, r6, q6⟩ := z; gone_ok (S6.unsuite ok) nd hi hln fun s7 J7 => ⟨_, _, _, J7, r6, q6⟩
          | next => exact let ⟨_, _, S6, q6⟩ := z; gone_ok (S6.unsuite ok) nd hi hln fun s7 J7 => ⟨_, _, J7, q6⟩
          | brk => exact let ⟨_, _, S6, q6⟩ := z; gone_ok (S6.unsuite ok) nd hi hln fun s7 J7 => ⟨_, _, J7, q6⟩
          | cont => exact let ⟨_, _, S6, q6⟩ := z; gone_ok (S6.unsuite ok) nd hi hln fun s7 J7 => ⟨_, _, J7, q6⟩
      | only hc hsu r ih =>
        rintro ⟨b, hb1, hyes, hno⟩
        refine wpAny_handleBy_cons (codeAny_handlers_test (test hc ((PySem.W.exm_one (M := model X.prog X.w) J3.kIn LT hb1).here ?_))) (fun q => nomatch q)
        cases b with
        | false => exact ih (hno rfl)
        | true =>
          refine codeAny_handlers_suite (HandSPX.lands_againZ fl3 fun h4 fl4 up4 => ?_)
          have J4 : Inv X pins σ' H' { s' with heap := h4 } := J.landed nb fl4.1 ((up.trans up3).trans up4) os ag
          obtain ⟨oe4, vs4, he4, hz4, hd4⟩ := fl4.there
          refine wpAny_mono ((hsu ea oe4 cls d (X.pn ++ pins) hz4 ⟨_, hd4⟩).run [] _ _ H' _ (J4.suite he4 hd4 na nL nF) (hyes rfl ea na)) (fun f6 s6 z => ?_) (fun _ _ z => False.elim z)
          cases f6 with
          | ret u => exact let ⟨_, _, _, S6, r6, q6⟩ := z; ⟨_, _, _, S6.unsuite ok, r6, q6⟩
          | next => exact let ⟨_, _, S6, q6⟩ := z; ⟨_, _, S6.unsuite ok, q6⟩
          | brk => exact let ⟨_, _, S6, q6⟩ := z; ⟨_, _, S6.unsuite ok, q6⟩
          | cont => exact let ⟨_, _, S6, q6⟩ := z; ⟨_, _, S6.unsuite ok, q6⟩
    exact go hh w
  · cases fl with
    | ret u => exact let ⟨v, σ', H', J', r, q⟩ := z; ⟨v, σ', H', J'.ofTry ok, r, q⟩
    | next => exact let ⟨σ', H', J', q⟩ := z; wpAny_execs_nil ⟨σ', H', J'.ofTry ok, q⟩
    | brk => exact let ⟨σ', H', J', q⟩ := z; ⟨σ', H', J'.ofTry ok, q⟩
    | cont => exact let ⟨σ', H', J', q⟩ := z; ⟨σ', H', J'.ofTry ok, q⟩⟩
end
end G
/-! # LI: an own exception class X with one field, as raise and except see it; its facts by the head -/
namespace G
open PySem PySem.Spec PyProof.Rows L2
open PySem.XV (XTxt XMade FName xA xB xS x_made)
structure XC (P : Program) (K : PySem.W.Frag) (mg : Str → Option Value) (x f : Str) (C : Addr) : Prop where
  gC : mg x = some (.ref C)
  kC : PySem.W.keepIn K (.ref C) = true
  exC : PySem.W.subIn K (.ref C) (.type "BaseException") = some true
  tyC : PySem.W.typeIn K (.ref C) = some (.type "type")
  xf : XfC K C
  noF : PySem.W.findIn K (.ref C) f = some none
  made : ∀ {w : World} {A : Around} {R : Result → Shared → Prop} {s : Shared} {v : Value} {mb : Str → Option Value}, K.In s.heap → s.heap.Ns mainGlobals mg → s.heap.Ns builtinsNs mb → (∀ x : Str, x ≠ "__name__" → mb x = bootBuiltins x) → s.heap.NoLimit → A.depth + 1 < recursionLimit →
    (∀ h' tk e d, XMade s.heap h' e C d f v → R (.ok (.ret (.ref e))) { s with heap := h', toks := tk }) → codeAny (model P w) A (.call (.ref C) ⟨[v], []⟩) R s
theorem relO_x {v : V} {v' : Value} {f : Str} (r : RelV v v') (g : Str) : RelO (List.lookup g [(f, v)]) (if g = f then some v' else none) := by
  by_cases h : g = f
  · subst h
    rw [if_pos rfl, show List.lookup g [(g, v)] = some v by simp [List.lookup]]
    exact r
  · have q : (g == f) = false := by simpa using h
    rw [if_neg h, show List.lookup g [(f, v)] = none by simp [List.lookup, q]]
    trivial
/-- X(e) -/
def tMkX (C : Addr) (f : Str) (ta : TA) : L2.St → Hp → XK → Prop := fun σ H Q => ta σ H fun vs H1 => ∃ v, vs = [v] ∧ ∀ d, H1 d = none → Q (.ref C) (some d) (upd H1 d (.xd [(f, v)]))
section
variable {X : Cx} {C : Addr} {x f : Str}
theorem pmk_x {a : Expr} {ta : TA} {p pos : Pos} {k : Nat} (T : XC X.prog X.K X.mg x f C) (hr : Room k X.A) (ha : PA X [a] ta) (hg : Gl X x := by rfl) (hd : (x == ("__debug__" : Str)) = false := by decide)
    (he : starEach (a :: []) X.env = (false, eval a X.env) :: starEach [] X.env := by rfl) (hpl : (backTo pos (starEach [] X.env)).any (·.1) = false := by rfl) : PMk X (.Call (.Name x p) [a] [] pos) (tMkX C f ta) := by
  intro pins s σ H Q I h
  refine wpAny_Call_Name_kw (ld_glob I hg T.gC ?_ hd)
  refine PySem.W.callWith_K (h₀ := X.base) I.ok.mod.kin T.kC (thn (ha.run pos pins s σ H _ I h) fun us s1 hh => ?_) he hpl
  obtain ⟨vs, H1, I1, r1, v, ev, q1⟩ := hh
  subst ev
  refine ⟨I1.kIn, ?_⟩
  cases r1 with
  | cons rv rn =>
    rename_i v' us'
    cases rn
    show wpAny _ _ (call (.ref C) [v']) _ _ _
    have hlim := I1.nolimit
    obtain ⟨mb, hmb, hbb⟩ := I1.mod.blt
    have hG := I1.mod.glob.keeps I1.bk
    have hB := hmb.keeps I1.bk
    obtain ⟨hp, g, dr, tk, os⟩ := s1
    refine wpAny_call (T.made I1.kIn hG hB hbb hlim (by have := hr.dp; omega) fun h' tk' e d M => ?_)
    show MkP X pins σ Q (.ref e) ⟨h', g, dr, tk', os⟩
    obtain ⟨oe, fv, hoe, hc, hdd, hdat, h1⟩ := M.obj
    have hns := M.ns
    obtain ⟨G', g1, g2⟩ := restrict h' fun b => decide (b ≠ e)
    have gk : ∀ b, b ≠ e → G'.get? b = h'.get? b := fun b hb => g1 b (decide_eq_true hb)
    have ge : G'.get? e = none := g2 e (by simp)
    have old : ∀ b o, hp.get? b = some o → G'.get? b = some o := fun b o q => (gk b (Nat.ne_of_lt (Nat.lt_of_lt_of_le (Heap.lt_size q) M.new))).trans (M.keep b o q)
    have ob : ObjOk X.prog X.w (upd H1 d (.xd [(f, v)])) G' d (.xd [(f, v)]) := ⟨_, hns.at (fun o q => (gk d M.dne).trans q), fun g => relO_x rv g⟩
    have J : Inv X pins σ (upd H1 d (.xd [(f, v)])) ⟨G', g, dr, tk', os⟩ := I1.laid (t' := tk') old M.dbig ob
    refine ⟨e, oe, fv, ⟨G', g, dr, tk', os⟩, _, .ref C, some d, rfl, J, fun b o q => ?_, ge, hoe, ⟨hc, hdd⟩, hdat, h1, ?_, rfl, I1.bare, raises_own T.exC T.tyC, q1 d (I1.hok.fresh M.dbig)⟩
    · by_cases hb : b = e
      · have q' : G'.get? b = some o := q
        rw [hb, ge] at q'
        cases q'
      · exact (gk b hb).symm.trans q
    · rw [upd_ne (Ne.symm M.dne)]
      exact I1.hok.fresh M.new
end
/-! ### the head's facts -/
def fileOf : Option Obj → Option Str
  | some ⟨_, _, .fields vs, _⟩ => (match (vs[2]? : Option Value) with
    | some (.str fl _) => some fl
    | _ => none)
  | _ => none
theorem fileOf_ok {o : Option Obj} {file : Str} (h : fileOf o = some file) : ∃ ccl cdd ccs vs tf, o = some ⟨ccl, cdd, .fields vs, ccs⟩ ∧ vs[2]? = some (.str file tf) := by
  unfold fileOf at h
  split at h
  · split at h
    · cases h
      exact ⟨_, _, _, _, _, rfl, by assumption⟩
    · cases h
  · cases h
def cellOf : Option Obj → Option Addr
  | some ⟨_, _, .cell (some (.ref D)), _⟩ => some D
  | _ => none
theorem cellOf_ok {o : Option Obj} {D : Addr} (h : cellOf o = some D) : ∃ cl cld csl, o = some ⟨cl, cld, .cell (some (.ref D)), csl⟩ := by
  unfold cellOf at h
  split at h
  · cases h
    exact ⟨_, _, _, rfl⟩
  · cases h
def initB (K : PySem.W.Frag) (file : Str) (C : Addr) : Option Obj → Bool
  | some ⟨_, _, .func fd, _⟩ => (match fd.code, fd.closure with
    | .ref cda, [(_, cc)] => PySem.W.codeIn K (.ref cda) fd.qualname && (decide (cellOf (K.lookup cc) = some C) && decide (fileOf (K.lookup cda) = some file))
    | _, _ => false)
  | _ => false
/-- what is looked at of the class x over a built-in (newId, initId, mro bmB, name B), its field f; file: the program's -/
def xokB (K : PySem.W.Frag) (file x f : Str) (newId initId : String) (bmB : List Value) (B : String) : Bool :=
  PySem.W.excInitIn K (He.ga K x) bmB newId && (PySem.W.excOver K (He.ga K x) bmB && (decide (PySem.W.findIn K (.ref (He.ga K x)) "__setattr__" = some (some (.builtin "object.__setattr__"))) && (decide (PySem.W.findIn K (.ref (He.ga K x)) f = some none) && (PySem.W.hasDictIn K (He.ga K x) &&
  (decide (PySem.W.findIn K (.ref (He.ga K x)) "__init__" = some (some (.ref (He.ma K (He.ga K x) "__init__")))) && (decide (PySem.W.typeIn K (.ref (He.ma K (He.ga K x) "__init__")) = some (.type "function")) && (decide (PySem.W.ks_superIn K (He.ga K x) (He.ga K x) "__init__" = some (some (.builtin initId))) &&
  (decide (PySem.W.subIn K (.ref (He.ga K x)) (.type B) = some true) && (decide (PySem.W.mroIn K (He.ga K x) (.ref (He.ga K x)) = some true) && (decide (PySem.W.nsIn K cStatics "thirdparty.any" = some none) && (decide (PySem.W.nsIn K mainGlobals "super" = some none) &&
  (PySem.W.keepIn K (.ref (He.ga K x)) && (decide (PySem.W.subIn K (.ref (He.ga K x)) (.type "BaseException") = some true) && (decide (PySem.W.typeIn K (.ref (He.ga K x)) = some (.type "type")) && (xfB K (He.ga K x) && (decide (PySem.W.nsIn K mainGlobals x = some (some (.ref (He.ga K x)))) &&
  initB K file (He.ga K x) (K.lookup (He.ma K (He.ga K x) "__init__"))))))))))))))))))
/-- the statement of the class's __init__ has the form -/
def XForm (f : Str) (st : Stmt) : Prop := ∃ p1 p2 s0 s1 a0 v0 c0 e0 g0 g1 g2 g3 : Pos, defArgs st = xA f p1 p2 ∧ defBody st = xB f s0 s1 a0 v0 c0 e0 g0 g1 g2 g3 ∧ defScope st = xS f ∧ (a0.endLine == c0.line) = true
theorem xok {P : Program} {K : PySem.W.Frag} {mg : Str → Option Value} {file x f : Str} {newId initId : String} {bmB : List Value} {B : String} {st : Stmt} (FB : ExcBaseFacts B newId initId bmB) (KF : PySem.W.KxsFacts B initId) (SF : StoreFacts B bmB "object.__setattr__" "object") (N : FName f)
    (h : xokB K file x f newId initId bmB B = true) (hf : fnX K x = XD.val ⟨x, st⟩) (hst : XForm f st) (hfile : ((P.main.file : Str) == file) = true) (htop : (P.main.scope.names.lookup ("super" : Str)).isSome = false) (hat : ∃ h : Heap, K.In h ∧ h.Ns mainGlobals mg) : XC P K mg x f (He.ga K x) := by
  obtain ⟨h1, h⟩ := He.ba h
  obtain ⟨h2, h⟩ := He.ba h
  obtain ⟨h3, h⟩ := He.ba h
  obtain ⟨h4, h⟩ := He.ba h
  obtain ⟨h5, h⟩ := He.ba h
  obtain ⟨h6, h⟩ := He.ba h
  obtain ⟨h7, h⟩ := He.ba h
  obtain ⟨h8, h⟩ := He.ba h
  obtain ⟨h9, h⟩ := He.ba h
  obtain ⟨h10, h⟩ := He.ba h
  obtain ⟨h11, h⟩ := He.ba h
  obtain ⟨h12, h⟩ := He.ba h
  obtain ⟨h13, h⟩ := He.ba h
  obtain ⟨h14, h⟩ := He.ba h
  obtain ⟨h15, h⟩ := He.ba h
  obtain ⟨h16, h⟩ := He.ba h
  obtain ⟨h17, h18⟩ := He.ba h
  obtain ⟨p1, p2, s0, s1, a0, v0, c0, e0, g0, g1, g2, g3, ea, eb, es, el⟩ := hst
  have gx : mg x = some (.ref (He.ga K x)) := let ⟨_, hK, hN⟩ := hat; PySem.W.mg_of hK hN (of_decide_eq_true h17)
  have T : XTxt P K f (He.ga K x) (He.ma K (He.ga K x) "__init__") newId initId bmB B := by
    refine ⟨h1, h2, of_decide_eq_true h3, of_decide_eq_true h4, h5, of_decide_eq_true h6, of_decide_eq_true h7, of_decide_eq_true h8, of_decide_eq_true h9, of_decide_eq_true h10, of_decide_eq_true h11, of_decide_eq_true h12, htop, ?_⟩
    unfold fnX at hf
    cases q : K.lookup (He.ma K (He.ga K x) "__init__") with
    | none =>
      rw [q] at hf
      cases hf
    | some o =>
      obtain ⟨oc, od, dt, osl⟩ := o
      rw [q] at hf h18
      cases dt with
      | func fd =>
        obtain ⟨n1, n2, n3, n4, n5, n6, n7, n8, n9, n10, n11, n12, n13, n14, n15⟩ := fd
        have e2 : (some (n1, n2, n3, n4, n5, n6, n7.map (·.1), n15, n8, n9) : FnX) = (XD.val ⟨x, st⟩ : FnX) := hf
        simp only [XD.val, Option.some.injEq, Prod.mk.injEq] at e2
        obtain ⟨k1, k2, k3, k4, k5, k6, k7, k8, k9, k10⟩ := e2
        subst k1 k2 k3 k4 k5 k6 k8 k9 k10
        rw [ea, eb, es]
        cases n13 with
        | ref cda =>
          match n7, k7, h18, q with
          | [], _, h18, _ => cases h18
          | _ :: _ :: _, _, h18, _ => cases h18
          | [(nm, cc)], k7, h18, q =>
            obtain ⟨d1, d2⟩ := He.ba (show (PySem.W.codeIn K (.ref cda) (x ++ ".__init__") && (decide (cellOf (K.lookup cc) = some (He.ga K x)) && decide (fileOf (K.lookup cda) = some file))) = true from h18)
            obtain ⟨d3, d4⟩ := He.ba d2
            obtain ⟨cl, cld, csl, w1⟩ := cellOf_ok (of_decide_eq_true d3)
            obtain ⟨ccl, cdd, ccs, vs, tf, w2, w3⟩ := fileOf_ok (of_decide_eq_true d4)
            have en : nm = Str.ofString "__class__" := by simpa using k7
            subst en
            exact ⟨oc, od, _, _, _, cda, _, cc, osl, cl, cld, csl, ccl, cdd, ccs, vs, file, tf, _, p1, p2, s0, s1, a0, v0, c0, e0, g0, g1, g2, g3, rfl, d1, w1, w2, w3, hfile, el⟩
        | _ => cases h18
      | _ => cases hf
  exact ⟨gx, h13, of_decide_eq_true h14, of_decide_eq_true h15, xfB_ok h16, of_decide_eq_true h4, fun a b c d e f g => x_made FB KF SF N T a b c d e f g⟩
/-- over ValueError, LookupError -/
abbrev veL : List Value := [.type "ValueError", .type "Exception", .type "BaseException", .type "object"]
abbrev leL : List Value := [.type "LookupError", .type "Exception", .type "BaseException", .type "object"]
abbrev xokV (K : PySem.W.Frag) (file x f : Str) : Bool := xokB K file x f "ValueError.__new__" "ValueError.__init__" veL "ValueError"
abbrev xokL (K : PySem.W.Frag) (file x f : Str) : Bool := xokB K file x f "LookupError.__new__" "LookupError.__init__" leL "LookupError"
theorem xv_ok {P : Program} {K : PySem.W.Frag} {mg : Str → Option Value} {file x f : Str} {st : Stmt} (N : FName f) (h : xokV K file x f = true) (hf : fnX K x = XD.val ⟨x, st⟩) (hst : XForm f st) (hfile : ((P.main.file : Str) == file) = true) (htop : (P.main.scope.names.lookup ("super" : Str)).isSome = false)
    (hat : ∃ h : Heap, K.In h ∧ h.Ns mainGlobals mg) : XC P K mg x f (He.ga K x) := xok F.excBase_ValueError PySem.W.kxs_ValueError F.store_ValueError N h hf hst hfile htop hat
theorem xl_ok {P : Program} {K : PySem.W.Frag} {mg : Str → Option Value} {file x f : Str} {st : Stmt} (N : FName f) (h : xokL K file x f = true) (hf : fnX K x = XD.val ⟨x, st⟩) (hst : XForm f st) (hfile : ((P.main.file : Str) == file) = true) (htop : (P.main.scope.names.lookup ("super" : Str)).isSome = false)
    (hat : ∃ h : Heap, K.In h ∧ h.Ns mainGlobals mg) : XC P K mg x f (He.ga K x) := xok F.excBase_LookupError PySem.W.kxs_LookupError F.store_LookupError N h hf hst hfile htop hat
end G
/-! # LJ: calls with positional and keyword values, defaults, exceptions; text * int -/
namespace G
open PySem PySem.Spec PyProof.Rows L2
/-- f(e, .., k = v, ..): n positional values, m keywords; E: what is wished of an exception, by the slots -/
def tCallU (n m : Nat) (sp : Sp) (gV : List V → List V → List V) (E : L2.St → XK) (t tk : TA) : TE := fun σ H Q => t σ H fun vs H1 => tk σ H1 fun zs H2 => vs.length = n ∧ zs.length = m ∧ sp (gV vs zs) H2 Q (E σ)
theorem takesN {X : Cx} : Takes X (fun _ _ _ _ => False) := fun u s' ⟨_, _, _, _, _, _, _, _, _, _, _, _, _, _, _, _, w⟩ => w.elim
theorem passN {X : Cx} : ∀ σ, PassesAt CX0 X σ ((fun _ => E0) σ) := fun _ _ _ _ _ _ _ h => h.elim
section
variable {X : Cx} {cx : CXT} {k n : Nat} {f : Addr} {fd : FuncData} {ps ks : List Str} {sp : Sp} {E : L2.St → XK} {x : Str} {p pos : Pos} {e : Expr} {es : List Expr} {kws : List Keyword} {t tk : TA} {g : List Value → List Value → List Value} {gV : List V → List V → List V}
theorem after_call {pins : List (Addr × Obj)} {σ : L2.St} {H : Hp} {s : Shared} {Q : VK} (I : Inv X pins σ H s) (hx : PassesAt cx X σ (E σ)) {us : List Value} {kw : List (Str × Value)} (h : codeAny (model X.prog X.w) X.A (.call (.ref f) ⟨us, kw⟩) (CR cx X.stack X.prog X.w H s Q (E σ)) s) :
    wpAny (model X.prog X.w) X.A (call (.ref f) us kw) (EP X pins σ Q) X.xe s := by
  refine wpAny_call (codeAny_mono h fun res s' z => ?_)
  rcases res with e | fl
  · exact hx pins H s e s' I z
  · cases fl <;> first | exact I.after z | exact False.elim z
theorem pe_callU (F : FnOk X.prog X.w X.K X.mg X.base cx k f fd ps sp) (hr : Room k X.A) (hg : Gl X x) (hm : X.mg x = some (.ref f)) (hk : PySem.W.keepIn X.K (.ref f) = true) (hb : KBn X.K fd ps n ks g gV) (hx : ∀ σ, PassesAt cx X σ (E σ)) (ha : PA X (e :: es) t) (hkw : PK X kws tk)
    (q1 : (backToKw pos (keywordEach kws X.env)).all (·.1.isSome) = true := by rfl) (q2 : (backToKw pos (keywordEach kws X.env)).filterMap (·.1) = ks := by rfl) (q3 : (x == ("__debug__" : Str)) = false := by decide) (q4 : starEach (e :: es) X.env = (false, eval e X.env) :: starEach es X.env := by rfl)
    (q5 : ((backTo pos (starEach (e :: es) X.env)).any (·.1) || (backToKw pos (keywordEach kws X.env)).any (·.1.isNone)) = false := by rfl) : PE X (.Call (.Name x p) (e :: es) kws pos) (tCallU n ks.length sp gV E t tk) := by
  refine ⟨fun pins s σ H Q I h => wpAny_Call_Name_kw (ld_glob I hg hm (PySem.W.callWith_KW (h₀ := X.base) I.ok.mod.kin hk q1 (thn (ha.run pos pins s σ H _ I h) fun us s1 ⟨vs, H1, I1, r, q⟩ => thn (hkw.run pos pins s1 σ H1 _ I1 q) fun ws s2 ⟨zs, H2, I2, rz, l1, l2, hs⟩ => ⟨I2.kIn, ?_⟩) q5 q4) q3)⟩
  rw [q2]
  exact after_call I2 (hx σ) (F.run X.A X.stack s2 H2 ⟨us, ks.zip ws⟩ (g us ws) (gV vs zs) Q (E σ) hr I2.env0 (hb.to s2 us ws I2.kIn (r.length ▸ l1) (rz.length ▸ l2)) (hb.rel r rz) hs)
theorem pe_callU0 (F : FnOk X.prog X.w X.K X.mg X.base cx k f fd ps sp) (hr : Room k X.A) (hg : Gl X x) (hm : X.mg x = some (.ref f)) (hk : PySem.W.keepIn X.K (.ref f) = true) (hb : KBn X.K fd ps 0 ks g gV) (hx : ∀ σ, PassesAt cx X σ (E σ)) (hkw : PK X kws tk)
    (q1 : (backToKw pos (keywordEach kws X.env)).all (·.1.isSome) = true := by rfl) (q2 : (backToKw pos (keywordEach kws X.env)).filterMap (·.1) = ks := by rfl) (q3 : (x == ("__debug__" : Str)) = false := by decide)
    (q4 : ((backTo pos (starEach [] X.env)).any (·.1) || (backToKw pos (keywordEach kws X.env)).any (·.1.isNone)) = false := by rfl) : PE X (.Call (.Name x p) [] kws pos) (tCallU 0 ks.length sp gV E tNil tk) := by
  refine ⟨fun pins s σ H Q I h => wpAny_Call_Name_kw (ld_glob I hg hm (PySem.W.callWith_KW0 (h₀ := X.base) I.ok.mod.kin hk q1 (thn (hkw.run pos pins s σ H _ I h) fun ws s2 ⟨zs, H2, I2, rz, l1, l2, hs⟩ => ⟨I2.kIn, ?_⟩) q4) q3)⟩
  rw [q2]
  exact after_call I2 (hx σ) (F.run X.A X.stack s2 H2 ⟨[], ks.zip ws⟩ (g [] ws) (gV [] zs) Q (E σ) hr I2.env0 (hb.to s2 [] ws I2.kIn rfl (rz.length ▸ l2)) (hb.rel .nil rz) hs)
end
theorem i_callU {σ : L2.St} {H : Hp} {Q : VK} {n m : Nat} {sp : Sp} {gV : List V → List V → List V} {E : L2.St → XK} {t tk : TA} (q : t σ H fun vs H1 => tk σ H1 fun zs H2 => vs.length = n ∧ zs.length = m ∧ sp (gV vs zs) H2 Q (E σ)) : tCallU n m sp gV E t tk σ H Q := q
theorem i_callS {σ : L2.St} {H : Hp} {Q : VK} {sp : Sp} {E : L2.St → XK} {t : TA} (q : t σ H fun vs H1 => sp vs H1 Q (E σ)) : tCallS sp E t σ H Q := q
/-! ### binding with keyword-only defaults -/
def gp3 (perm : List Nat) {α : Type} (mv us ws : List α) : List α := perm.filterMap fun i => (us ++ ws ++ mv)[i]?
theorem gp3_rel {perm : List Nat} {mz : List V} {mv : List Value} (rm : Vals mz mv) : ∀ {vs : List V} {us : List Value} {zs : List V} {ws : List Value}, Vals vs us → Vals zs ws → Vals (gp3 perm mz vs zs) (gp3 perm mv us ws) := by
  intro vs us zs ws r q
  have rq := (r.append q).append rm
  unfold gp3
  induction perm with
  | nil => exact .nil
  | cons i p ih =>
    cases e : (vs ++ zs ++ mz)[i]? with
    | none =>
      rw [List.filterMap_cons_none e, List.filterMap_cons_none (Vals.none_of rq e)]
      exact ih
    | some x =>
      obtain ⟨u, hu, ru⟩ := rq.get e
      rw [List.filterMap_cons_some e, List.filterMap_cons_some hu]
      exact .cons ru ih
theorem kbn_kw {K : PySem.W.Frag} {x qual : Str} {params : Arguments} {body : List Stmt} {scope : Scope} {kws : List (Str × V)} {f : Addr} {fd : FuncData} {ps : List Str} (F : FunD K x qual params body scope [] kws f fd) (hk : kws ≠ []) (n : Nat) (ks : List Str) (ms : List (Str × V)) (perm : List Nat) (hms : ∀ q ∈ ms, q ∈ kws)
    (h : ∀ (D : Addr) (doc pm : Value) (an : Option Addr) (cdv ct : Value) (us mv ws : List Value), us.length = n → mv.length = ms.length → ws.length = ks.length →
      KwChain D ((ms.map (·.1)).zip mv) (bindArgs (PySem.W.fnOf x qual params body scope .none (.ref D) doc pm an cdv ct) ⟨us, ks.zip ws⟩) (ps.zip (gp3 perm mv us ws))) : ∃ mv : List Value, KBn K fd ps n ks (gp3 perm mv) (gp3 perm (ms.map (·.2))) := by
  obtain ⟨oc, od, dV, kV, doc, pm, an, cdv, ct, osl, rfl, lk, hcd, hD, hK⟩ := F.ex
  rcases hD with ⟨_, rfl⟩ | ⟨e, _⟩
  · rcases hK with e | ⟨D, rfl, hq⟩
    · exact absurd e hk
    · obtain ⟨mv, hl, rk, hks⟩ := kwd_vals (ms := ms) fun q hm => hq q (hms q hm)
      exact ⟨mv, fun s us ws X l1 l2 => BindsTo.of_looks fun M => KwChain.looks X hks (h D doc pm an cdv ct us mv ws l1 hl l2), gp3_rel rk⟩
  · exact absurd rfl e
/-- the values that fill up are hidden in the binding -/
def KBx (K : PySem.W.Frag) (fd : FuncData) (ps : List Str) (n : Nat) (ks : List Str) (gV : List V → List V → List V) : Prop := ∃ g, KBn K fd ps n ks g gV
/-! ### text * int -/
def rMulS : R2 := fun x y H Q => ∃ (z : Str) (n : Int), x = .str z ∧ y = .int n ∧ 1 < n ∧ n < 1000000 ∧ 0 < z.length ∧ z.length * n.toNat ≤ sizeLine ∧ Q (.str ⟨(List.replicate n.toNat z.cps).foldl (· ++ ·) #[]⟩) H
theorem op_mul_str {X : Cx} : OpR X (binaryOp .Mult) rMulS := by
  intro pins s σ H x y v u Q I rx ry h
  obtain ⟨z, n, rfl, rfl, h1, h2, h3, h4, q⟩ := h
  obtain ⟨t, rfl⟩ := rx
  obtain ⟨t', rfl⟩ := ry
  have hz : sizeLine = 16777216 := sizeLine_eq
  have a1 : ¬ n < -(2 ^ 63 : Int) := by omega
  have a2 : ¬ n ≥ 2 ^ 63 := by omega
  have a3 : (n == 1 || z.length == 0) = false := by
    rw [beq_eq_false_iff_ne.mpr (show n ≠ 1 by omega), beq_eq_false_iff_ne.mpr (show z.length ≠ 0 by omega)]
    rfl
  refine PySem.P.mul_str (by rw [decide_eq_false a1, decide_eq_false a2]; rfl) (fun _ _ => ?_) (fun _ _ => ?_) ?_
  · have b1 : (z.length : Int) ≤ (2 ^ 63 - 1) / n := by
      refine Int.le_ediv_of_mul_le (by omega) ?_
      have b2 : (z.length : Int) * n = ((z.length * n.toNat : Nat) : Int) := by
        rw [Int.natCast_mul, Int.toNat_of_nonneg (by omega)]
      omega
    omega
  · unfold Builtin.Str.tooLong
    exact decide_eq_false (by omega)
  · rw [if_neg (show ¬ n < 1 by omega), if_neg (show ¬ (n == 1 || z.length == 0) = true by rw [a3]; exact Bool.false_ne_true)]
    have len : ((List.replicate n.toNat z.cps).foldl (· ++ ·) #[]).size = n.toNat * z.length := by
      have key : ∀ (k : Nat) (acc : Array Nat), ((List.replicate k z.cps).foldl (· ++ ·) acc).size = acc.size + k * z.length := by
        intro k
        induction k with
        | zero => intro acc; simp
        | succ k ih =>
          intro acc
          rw [List.replicate_succ, List.foldl_cons, ih, Array.size_append, Nat.add_mul, Nat.one_mul]
          have : z.cps.size = z.length := rfl
          omega
      rw [key]
      simp
    refine ⟨?_, ⟨.str _, H, I.tok _, ⟨_, rfl⟩, q⟩⟩
    show ((List.replicate n.toNat z.cps).foldl (· ++ ·) #[]).size ≤ sizeLine
    rw [len, Nat.mul_comm]
    exact h4
theorem ex_at {exl : List (PySem.W.Frag → Bool)} {K : PySem.W.Frag} (h : (exl.all fun e => e K) = true) (i : Nat) {e : PySem.W.Frag → Bool} (hi : exl[i]? = some e) : e K = true := List.all_eq_true.mp h e (List.mem_of_getElem? hi)
theorem isi_str {K : PySem.W.Frag} {H : Hp} {v : V} {T : String} (k : Kd H v T) : (∃ z, v = .str z) ∨ ((∀ z, v ≠ .str z) ∧ ∀ {Q : VK}, Q (.bl false) H → rIsi K [v, .ty "str"] H Q) := by
  cases k with
  | str z => exact .inl ⟨z, rfl⟩
  | non => exact .inr ⟨(fun _ z => nomatch z), fun q => i_isi .non (by decide +kernel) q⟩
  | bl b => exact .inr ⟨(fun _ z => nomatch z), fun q => i_isi (.bl b) (by decide +kernel) q⟩
  | int b => exact .inr ⟨(fun _ z => nomatch z), fun q => i_isi (.int b) (by decide +kernel) q⟩
  | lst e => exact .inr ⟨(fun _ z => nomatch z), fun q => i_isi (.lst e) (by decide +kernel) q⟩
  | tup e => exact .inr ⟨(fun _ z => nomatch z), fun q => i_isi (.tup e) (by decide +kernel) q⟩
  | dct e => exact .inr ⟨(fun _ z => nomatch z), fun q => i_isi (.dct e) (by decide +kernel) q⟩
theorem isi_strT {K : PySem.W.Frag} {H : Hp} {z : Str} {Q : VK} (q : Q (.bl true) H) : rIsi K [.str z, .ty "str"] H Q := i_isi (.str z) (by decide +kernel) q
theorem isi_list {K : PySem.W.Frag} {H : Hp} {v : V} {T : String} (k : Kd H v T) : (∃ a xs, v = .ref a ∧ H a = some (.lst xs)) ∨ (∀ {Q : VK}, Q (.bl false) H → rIsi K [v, .ty "list"] H Q) := by
  cases k with
  | lst e => exact .inl ⟨_, _, rfl, e⟩
  | non => exact .inr fun q => i_isi .non (by decide +kernel) q
  | bl b => exact .inr fun q => i_isi (.bl b) (by decide +kernel) q
  | int b => exact .inr fun q => i_isi (.int b) (by decide +kernel) q
  | str b => exact .inr fun q => i_isi (.str b) (by decide +kernel) q
  | tup e => exact .inr fun q => i_isi (.tup e) (by decide +kernel) q
  | dct e => exact .inr fun q => i_isi (.dct e) (by decide +kernel) q
theorem isi_listT {K : PySem.W.Frag} {H : Hp} {a : Addr} {xs : List V} {Q : VK} (e : H a = some (.lst xs)) (q : Q (.bl true) H) : rIsi K [.ref a, .ty "list"] H Q := i_isi (.lst e) (by decide +kernel) q
theorem isi_dict {K : PySem.W.Frag} {H : Hp} {v : V} {T : String} (k : Kd H v T) : (∃ a xs, v = .ref a ∧ H a = some (.dK xs)) ∨ (∀ {Q : VK}, Q (.bl false) H → rIsi K [v, .ty "dict"] H Q) := by
  cases k with
  | dct e => exact .inl ⟨_, _, rfl, e⟩
  | non => exact .inr fun q => i_isi .non (by decide +kernel) q
  | bl b => exact .inr fun q => i_isi (.bl b) (by decide +kernel) q
  | int b => exact .inr fun q => i_isi (.int b) (by decide +kernel) q
  | str b => exact .inr fun q => i_isi (.str b) (by decide +kernel) q
  | tup e => exact .inr fun q => i_isi (.tup e) (by decide +kernel) q
  | lst e => exact .inr fun q => i_isi (.lst e) (by decide +kernel) q
theorem isi_dictT {K : PySem.W.Frag} {H : Hp} {a : Addr} {xs : List (Key × V)} {Q : VK} (e : H a = some (.dK xs)) (q : Q (.bl true) H) : rIsi K [.ref a, .ty "dict"] H Q := i_isi (.dct e) (by decide +kernel) q
/-! ### need_integer, parse_integer -/
def sp_need_integer (C : Addr) : Sp := fun vs H Q E => ∃ (v : V) (lo hi : Int) (T : String), vs = [v, .int lo, .int hi] ∧ Kd H v T ∧ (isI v lo hi = true → Q .non H) ∧ (isI v lo hi = false → ∀ d, H d = none → E (.ref C) (some d) (upd H d (.xd [("value", v)])))
def dig (c : Nat) : Bool := decide (48 ≤ c) && decide (c ≤ 57)
def parseOk (z : Str) : Prop := 0 < z.length ∧ z.length ≤ 9 ∧ ¬ (z.cps.toList.head? = some 48 ∧ z ≠ Str.ofString "0") ∧ z.cps.toList.all dig = true
instance (z : Str) : Decidable (parseOk z) := by unfold parseOk; infer_instance
/-- the integer that a value represents within the limits, as a value -/
def parseV (v : V) (lo hi : Int) : V := match v with
  | .str z => if parseOk z then (if lo ≤ (NumText.digitsVal z.cps.toList : Nat) ∧ ((NumText.digitsVal z.cps.toList : Nat) : Int) ≤ hi then .int (NumText.digitsVal z.cps.toList : Nat) else .non) else .non
  | _ => .non
theorem dig_all {z : Str} (h : z.cps.toList.all dig = true) : NumText.AllDigits z.cps.toList := fun c hc => by
  have q := List.all_eq_true.mp h c hc
  unfold dig at q
  simpa using q
def sp_parse_integer (C : Addr) : Sp := fun vs H Q E => ∃ (v l h : V) (T1 T2 T3 : String), vs = [v, l, h] ∧ Kd H v T1 ∧ Kd H l T2 ∧ Kd H h T3 ∧ fitV v ∧
  (∀ lo hi, l = .int lo → h = .int hi → isI l 0 999999999 = true → isI h 0 999999999 = true → ∀ H', Same H H' → Q (parseV v lo hi) H') ∧
  (isI l 0 999999999 = false → ∀ d, H d = none → E (.ref C) (some d) (upd H d (.xd [("value", l)]))) ∧
  (isI l 0 999999999 = true → isI h 0 999999999 = false → ∀ d, H d = none → E (.ref C) (some d) (upd H d (.xd [("value", h)])))
theorem isI_int {v : V} {lo hi : Int} (h : isI v lo hi = true) : ∃ i, v = .int i ∧ lo ≤ i ∧ i ≤ hi := by
  cases v with
  | int i =>
    have q : (decide (lo ≤ i) && decide (i ≤ hi)) = true := h
    rw [Bool.and_eq_true, decide_eq_true_eq, decide_eq_true_eq] at q
    exact ⟨i, rfl, q⟩
  | _ => cases h
theorem parseV_non {v : V} {lo hi : Int} (h : ∀ z, v ≠ .str z) : parseV v lo hi = .non := by
  cases v with
  | str z => exact absurd rfl (h z)
  | _ => rfl
theorem parseV_no {z : Str} {lo hi : Int} (h : ¬ parseOk z) : parseV (.str z) lo hi = .non := if_neg h
theorem parseV_yes {z : Str} {lo hi : Int} (h : parseOk z) : parseV (.str z) lo hi = if lo ≤ (NumText.digitsVal z.cps.toList : Nat) ∧ ((NumText.digitsVal z.cps.toList : Nat) : Int) ≤ hi then .int (NumText.digitsVal z.cps.toList : Nat) else .non := if_pos h
theorem dig_t {c : Nat} (h : (!decide (([c] : List Nat) < [48])) = true) : dig c = !decide (([57] : List Nat) < [c]) := by
  rw [sing_lt] at h ⊢
  have h1 : ¬ c < 48 := by simpa using h
  unfold dig
  rw [decide_eq_true (by omega), Bool.true_and]
  by_cases q : c ≤ 57
  · rw [decide_eq_true q, decide_eq_false (by omega)]; rfl
  · rw [decide_eq_false q, decide_eq_true (by omega)]; rfl
theorem dig_f {c : Nat} (h : (!decide (([c] : List Nat) < [48])) = false) : dig c = false := by
  rw [sing_lt] at h
  have h1 : c < 48 := by simpa using h
  unfold dig
  rw [decide_eq_false (by omega), Bool.false_and]
theorem head_of {z : Str} (h : 0 < z.length) : ∃ c r, z.cps.toList = c :: r := by
  cases e : z.cps.toList with
  | nil =>
    rw [str_len, e] at h
    exact absurd h (Nat.lt_irrefl 0)
  | cons c r => exact ⟨c, r, rfl⟩
theorem sign_eq {c d : Nat} : (⟨#[c]⟩ : Str) = ⟨#[d]⟩ ↔ c = d := by
  constructor
  · intro h
    have h2 : (#[c] : Array Nat) = #[d] := by injection h
    simpa using h2
  · rintro rfl
    rfl
theorem at0 {α : Type} {c : α} {r : List α} : atI (c :: r) 0 = some c := by simp [atI, ixN]
end G
namespace K02
open PySem PySem.Spec PyProof.Rows L2 G
abbrev P : Program := PySem.Challenge.pw_eventdeliveries_k02_integers_parsed
def top (i : Nat) : Stmt := PySem.Challenge.pw_eventdeliveries_k02_integers_parsed.main.body.getD i (.Pass ⟨0, 0, 0, 0⟩)
abbrev s_is_integer : Stmt := top 8
abbrev N_is_integer : List Str := ["value", "low", "high"]
abbrev P_is_integer : List Str := ["value", "low", "high"]
theorem sc_is_integer : FnScope N_is_integer P_is_integer (defScope s_is_integer) := ⟨rfl, rfl, rfl, by decide +kernel, rfl, by decide +kernel, by decide +kernel⟩
abbrev s_need_integer : Stmt := top 10
abbrev N_need_integer : List Str := ["value", "low", "high"]
abbrev P_need_integer : List Str := ["value", "low", "high"]
theorem sc_need_integer : FnScope N_need_integer P_need_integer (defScope s_need_integer) := ⟨rfl, rfl, rfl, by decide +kernel, rfl, by decide +kernel, by decide +kernel⟩
abbrev s_parse_integer : Stmt := top 9
abbrev N_parse_integer : List Str := ["text", "low", "high", "number", "sign"]
abbrev P_parse_integer : List Str := ["text", "low", "high"]
theorem sc_parse_integer : FnScope N_parse_integer P_parse_integer (defScope s_parse_integer) := ⟨rfl, rfl, rfl, by decide +kernel, rfl, by decide +kernel, by decide +kernel⟩
abbrev s_l_cell : Stmt := top 12
abbrev N_l_cell : List Str := ["_law_script", "_law_k"]
abbrev P_l_cell : List Str := ["_law_script", "_law_k"]
theorem sc_l_cell : FnScope N_l_cell P_l_cell (defScope s_l_cell) := ⟨rfl, rfl, rfl, by decide +kernel, rfl, by decide +kernel, by decide +kernel⟩
abbrev s_l_box : Stmt := top 13
abbrev N_l_box : List Str := ["_law_cell_here"]
abbrev P_l_box : List Str := ["_law_cell_here"]
theorem sc_l_box : FnScope N_l_box P_l_box (defScope s_l_box) := ⟨rfl, rfl, rfl, by decide +kernel, rfl, by decide +kernel, by decide +kernel⟩
abbrev s_l_take : Stmt := top 14
abbrev N_l_take : List Str := ["_law_box_here", "_law_most", "_law_digit", "_law_one", "_law_two"]
abbrev P_l_take : List Str := ["_law_box_here", "_law_most"]
theorem sc_l_take : FnScope N_l_take P_l_take (defScope s_l_take) := ⟨rfl, rfl, rfl, by decide +kernel, rfl, by decide +kernel, by decide +kernel⟩
abbrev s_l_word : Stmt := top 15
abbrev N_l_word : List Str := ["_law_box_here", "_law_size", "_law_found_here", "_law_at", "_law_sign", "_law_place"]
abbrev P_l_word : List Str := ["_law_box_here"]
theorem sc_l_word : FnScope N_l_word P_l_word (defScope s_l_word) := ⟨rfl, rfl, rfl, by decide +kernel, rfl, by decide +kernel, by decide +kernel⟩
abbrev s_l_due : Stmt := top 16
abbrev N_l_due : List Str := ["_law_word_here", "_law_least", "_law_great", "_law_number", "_law_sign"]
abbrev P_l_due : List Str := ["_law_word_here", "_law_least", "_law_great"]
theorem sc_l_due : FnScope N_l_due P_l_due (defScope s_l_due) := ⟨rfl, rfl, rfl, by decide +kernel, rfl, by decide +kernel, by decide +kernel⟩
abbrev s_l_found : Stmt := top 17
abbrev N_l_found : List Str := ["_law_word_here", "_law_least", "_law_great", "e"]
abbrev P_l_found : List Str := ["_law_word_here", "_law_least", "_law_great"]
theorem sc_l_found : FnScope N_l_found P_l_found (defScope s_l_found) := ⟨rfl, rfl, rfl, by decide +kernel, rfl, by decide +kernel, by decide +kernel⟩
abbrev s_law : Stmt := top 18
abbrev N_law : List Str := ["_law_script", "_law_k", "_law_box_here", "_law_turn", "_law_word_here", "_law_due_here", "_law_number", "_law_least", "_law_great", "_law_odd", "_law_bad", "_law_some", "_law_far", "_law_found_here"]
abbrev P_law : List Str := ["_law_script"]
theorem sc_law : FnScope N_law P_law (defScope s_law) := ⟨rfl, rfl, rfl, by decide +kernel, rfl, by decide +kernel, by decide +kernel⟩
/-! what the head tells -/
def d_is_integer : He.DefD := ⟨("is_integer", none), "is_integer", "is_integer", defArgs s_is_integer, defBody s_is_integer, defScope s_is_integer, [], []⟩
def d_need_integer : He.DefD := ⟨("need_integer", none), "need_integer", "need_integer", defArgs s_need_integer, defBody s_need_integer, defScope s_need_integer, [], []⟩
def d_parse_integer : He.DefD := ⟨("parse_integer", none), "parse_integer", "parse_integer", defArgs s_parse_integer, defBody s_parse_integer, defScope s_parse_integer, [], [("low", .int 0), ("high", .int 999999)]⟩
def d_l_cell : He.DefD := ⟨("_law_cell", none), "_law_cell", "_law_cell", defArgs s_l_cell, defBody s_l_cell, defScope s_l_cell, [], []⟩
def d_l_box : He.DefD := ⟨("_law_box", none), "_law_box", "_law_box", defArgs s_l_box, defBody s_l_box, defScope s_l_box, [], []⟩
def d_l_take : He.DefD := ⟨("_law_take", none), "_law_take", "_law_take", defArgs s_l_take, defBody s_l_take, defScope s_l_take, [], []⟩
def d_l_word : He.DefD := ⟨("_law_word", none), "_law_word", "_law_word", defArgs s_l_word, defBody s_l_word, defScope s_l_word, [], []⟩
def d_l_due : He.DefD := ⟨("_law_due", none), "_law_due", "_law_due", defArgs s_l_due, defBody s_l_due, defScope s_l_due, [], []⟩
def d_l_found : He.DefD := ⟨("_law_found", none), "_law_found", "_law_found", defArgs s_l_found, defBody s_l_found, defScope s_l_found, [], []⟩
def d_law : He.DefD := ⟨("law", none), "law", "law", defArgs s_law, defBody s_law, defScope s_law, [], []⟩
def fn : List He.DefD := [d_is_integer, d_need_integer, d_parse_integer, d_l_cell, d_l_box, d_l_take, d_l_word, d_l_due, d_l_found, d_law]
def fa : List He.Fa := [.glo "is_integer", .glo "need_integer", .glo "parse_integer", .glo "_law_cell", .glo "_law_box", .glo "_law_take", .glo "_law_word", .glo "_law_due", .glo "_law_found", .glo "law", .free "len", .free "isinstance", .free "int", .free "bool", .free "str", .free "all", .free "list", .free "dict", .free "max", .free "min", .free "range", .free "repr", .int "MOST_DIGITS" 9, .int "MOST" 999999999, .exm "InvalidInteger" "InvalidInteger" true]
def exl : List (PySem.W.Frag → Bool) := [fun K => xokV K "/claim/cut.py" "InvalidInteger" "value"]
def ex : PySem.W.Frag → Bool := fun K => exl.all fun e => e K
def xs : List XD := [⟨"InvalidInteger", inClass (top 4) 0⟩]
section
variable {K : PySem.W.Frag} {mg : Str → Option Value}
theorem mg_is_integer (c : Hd fa fn ex xs K mg) : mg "is_integer" = some (.ref (He.ga K "is_integer")) := c.glo 0
theorem mg_need_integer (c : Hd fa fn ex xs K mg) : mg "need_integer" = some (.ref (He.ga K "need_integer")) := c.glo 1
theorem mg_parse_integer (c : Hd fa fn ex xs K mg) : mg "parse_integer" = some (.ref (He.ga K "parse_integer")) := c.glo 2
theorem mg_l_cell (c : Hd fa fn ex xs K mg) : mg "_law_cell" = some (.ref (He.ga K "_law_cell")) := c.glo 3
theorem mg_l_box (c : Hd fa fn ex xs K mg) : mg "_law_box" = some (.ref (He.ga K "_law_box")) := c.glo 4
theorem mg_l_take (c : Hd fa fn ex xs K mg) : mg "_law_take" = some (.ref (He.ga K "_law_take")) := c.glo 5
theorem mg_l_word (c : Hd fa fn ex xs K mg) : mg "_law_word" = some (.ref (He.ga K "_law_word")) := c.glo 6
theorem mg_l_due (c : Hd fa fn ex xs K mg) : mg "_law_due" = some (.ref (He.ga K "_law_due")) := c.glo 7
theorem mg_l_found (c : Hd fa fn ex xs K mg) : mg "_law_found" = some (.ref (He.ga K "_law_found")) := c.glo 8
theorem mg_law (c : Hd fa fn ex xs K mg) : mg "law" = some (.ref (He.ga K "law")) := c.glo 9
theorem fr_len (c : Hd fa fn ex xs K mg) : mg "len" = none := c.free 10
theorem fr_isinstance (c : Hd fa fn ex xs K mg) : mg "isinstance" = none := c.free 11
theorem fr_int (c : Hd fa fn ex xs K mg) : mg "int" = none := c.free 12
theorem fr_bool (c : Hd fa fn ex xs K mg) : mg "bool" = none := c.free 13
theorem fr_str (c : Hd fa fn ex xs K mg) : mg "str" = none := c.free 14
theorem fr_all (c : Hd fa fn ex xs K mg) : mg "all" = none := c.free 15
theorem fr_list (c : Hd fa fn ex xs K mg) : mg "list" = none := c.free 16
theorem fr_dict (c : Hd fa fn ex xs K mg) : mg "dict" = none := c.free 17
theorem fr_max (c : Hd fa fn ex xs K mg) : mg "max" = none := c.free 18
theorem fr_min (c : Hd fa fn ex xs K mg) : mg "min" = none := c.free 19
theorem fr_range (c : Hd fa fn ex xs K mg) : mg "range" = none := c.free 20
theorem fr_repr (c : Hd fa fn ex xs K mg) : mg "repr" = none := c.free 21
theorem c_MOST_DIGITS (c : Hd fa fn ex xs K mg) : ∃ t, mg "MOST_DIGITS" = some (.int 9 t) := c.int 22
theorem c_MOST (c : Hd fa fn ex xs K mg) : ∃ t, mg "MOST" = some (.int 999999999 t) := c.int 23
theorem em_InvalidInteger_InvalidInteger (c : Hd fa fn ex xs K mg) : PySem.W.exmOne K (.ref (He.ga K "InvalidInteger")) (.ref (He.ga K "InvalidInteger")) = some true := He.exm_ok (c.s.d.fact 24)
theorem xf_InvalidInteger : XForm "value" (inClass (top 4) 0) := ⟨_, _, _, _, _, _, _, _, _, _, _, _, rfl, rfl, rfl, rfl⟩
theorem xc_InvalidInteger (c : Hd fa fn ex xs K mg) : XC P K mg "InvalidInteger" "value" (He.ga K "InvalidInteger") := xv_ok PySem.XV.fname_value (ex_at c.s.more 0 rfl) (c.xd 0) xf_InvalidInteger (by kernel_rfl) (by kernel_rfl) c.at_
abbrev a_is_integer (K : PySem.W.Frag) : Addr := He.ga K "is_integer"
theorem fd_is_integer (c : Hd fa fn ex xs K mg) : FunD K "is_integer" "is_integer" (defArgs s_is_integer) (defBody s_is_integer) (defScope s_is_integer) ([] : List V) ([] : List (Str × V)) (a_is_integer K) (fdOf K (a_is_integer K)) := c.fun_ 0
theorem bd_is_integer (c : Hd fa fn ex xs K mg) : Binds K (fdOf K (a_is_integer K)) P_is_integer [] := (fd_is_integer c).bindsN fun _ _ _ _ _ _ us hl => match us, hl with | [_, _, _], _ => rfl
abbrev a_need_integer (K : PySem.W.Frag) : Addr := He.ga K "need_integer"
theorem fd_need_integer (c : Hd fa fn ex xs K mg) : FunD K "need_integer" "need_integer" (defArgs s_need_integer) (defBody s_need_integer) (defScope s_need_integer) ([] : List V) ([] : List (Str × V)) (a_need_integer K) (fdOf K (a_need_integer K)) := c.fun_ 1
theorem bd_need_integer (c : Hd fa fn ex xs K mg) : Binds K (fdOf K (a_need_integer K)) P_need_integer [] := (fd_need_integer c).bindsN fun _ _ _ _ _ _ us hl => match us, hl with | [_, _, _], _ => rfl
abbrev a_parse_integer (K : PySem.W.Frag) : Addr := He.ga K "parse_integer"
theorem fd_parse_integer (c : Hd fa fn ex xs K mg) : FunD K "parse_integer" "parse_integer" (defArgs s_parse_integer) (defBody s_parse_integer) (defScope s_parse_integer) ([] : List V) ([("low", .int 0), ("high", .int 999999)] : List (Str × V)) (a_parse_integer K) (fdOf K (a_parse_integer K)) := c.fun_ 2
abbrev a_l_cell (K : PySem.W.Frag) : Addr := He.ga K "_law_cell"
theorem fd_l_cell (c : Hd fa fn ex xs K mg) : FunD K "_law_cell" "_law_cell" (defArgs s_l_cell) (defBody s_l_cell) (defScope s_l_cell) ([] : List V) ([] : List (Str × V)) (a_l_cell K) (fdOf K (a_l_cell K)) := c.fun_ 3
theorem bd_l_cell (c : Hd fa fn ex xs K mg) : Binds K (fdOf K (a_l_cell K)) P_l_cell [] := (fd_l_cell c).bindsN fun _ _ _ _ _ _ us hl => match us, hl with | [_, _], _ => rfl
abbrev a_l_box (K : PySem.W.Frag) : Addr := He.ga K "_law_box"
theorem fd_l_box (c : Hd fa fn ex xs K mg) : FunD K "_law_box" "_law_box" (defArgs s_l_box) (defBody s_l_box) (defScope s_l_box) ([] : List V) ([] : List (Str × V)) (a_l_box K) (fdOf K (a_l_box K)) := c.fun_ 4
theorem bd_l_box (c : Hd fa fn ex xs K mg) : Binds K (fdOf K (a_l_box K)) P_l_box [] := (fd_l_box c).bindsN fun _ _ _ _ _ _ us hl => match us, hl with | [_], _ => rfl
abbrev a_l_take (K : PySem.W.Frag) : Addr := He.ga K "_law_take"
theorem fd_l_take (c : Hd fa fn ex xs K mg) : FunD K "_law_take" "_law_take" (defArgs s_l_take) (defBody s_l_take) (defScope s_l_take) ([] : List V) ([] : List (Str × V)) (a_l_take K) (fdOf K (a_l_take K)) := c.fun_ 5
theorem bd_l_take (c : Hd fa fn ex xs K mg) : Binds K (fdOf K (a_l_take K)) P_l_take [] := (fd_l_take c).bindsN fun _ _ _ _ _ _ us hl => match us, hl with | [_, _], _ => rfl
abbrev a_l_word (K : PySem.W.Frag) : Addr := He.ga K "_law_word"
theorem fd_l_word (c : Hd fa fn ex xs K mg) : FunD K "_law_word" "_law_word" (defArgs s_l_word) (defBody s_l_word) (defScope s_l_word) ([] : List V) ([] : List (Str × V)) (a_l_word K) (fdOf K (a_l_word K)) := c.fun_ 6
theorem bd_l_word (c : Hd fa fn ex xs K mg) : Binds K (fdOf K (a_l_word K)) P_l_word [] := (fd_l_word c).bindsN fun _ _ _ _ _ _ us hl => match us, hl with | [_], _ => rfl
abbrev a_l_due (K : PySem.W.Frag) : Addr := He.ga K "_law_due"
theorem fd_l_due (c : Hd fa fn ex xs K mg) : FunD K "_law_due" "_law_due" (defArgs s_l_due) (defBody s_l_due) (defScope s_l_due) ([] : List V) ([] : List (Str × V)) (a_l_due K) (fdOf K (a_l_due K)) := c.fun_ 7
theorem bd_l_due (c : Hd fa fn ex xs K mg) : Binds K (fdOf K (a_l_due K)) P_l_due [] := (fd_l_due c).bindsN fun _ _ _ _ _ _ us hl => match us, hl with | [_, _, _], _ => rfl
abbrev a_l_found (K : PySem.W.Frag) : Addr := He.ga K "_law_found"
theorem fd_l_found (c : Hd fa fn ex xs K mg) : FunD K "_law_found" "_law_found" (defArgs s_l_found) (defBody s_l_found) (defScope s_l_found) ([] : List V) ([] : List (Str × V)) (a_l_found K) (fdOf K (a_l_found K)) := c.fun_ 8
theorem bd_l_found (c : Hd fa fn ex xs K mg) : Binds K (fdOf K (a_l_found K)) P_l_found [] := (fd_l_found c).bindsN fun _ _ _ _ _ _ us hl => match us, hl with | [_, _, _], _ => rfl
abbrev a_law (K : PySem.W.Frag) : Addr := He.ga K "law"
theorem fd_law (c : Hd fa fn ex xs K mg) : FunD K "law" "law" (defArgs s_law) (defBody s_law) (defScope s_law) ([] : List V) ([] : List (Str × V)) (a_law K) (fdOf K (a_law K)) := c.fun_ 9
theorem bd_law (c : Hd fa fn ex xs K mg) : Binds K (fdOf K (a_law K)) P_law [] := (fd_law c).bindsN fun _ _ _ _ _ _ us hl => match us, hl with | [_], _ => rfl
end
end K02
local macro_rules | `(tactic| walk_at "s1") => `(tactic| first
  | (with_reducible show L2.tVar _ _ _ _; refine G.i_var rfl ?_)
  | with_reducible refine G.i_c ?_
  | with_reducible refine G.i_op ?_
  | with_reducible refine G.i_cons ?_
  | with_reducible refine G.i_nil ?_
  | with_reducible refine G.i_I0 ?_
  | with_reducible refine G.i_seq ?_
  | with_reducible refine G.i_asg ?_
  | with_reducible refine G.i_name ?_
  | with_reducible refine G.i_ifs ?_
  | with_reducible refine G.i_test ?_
  | with_reducible refine G.i_B ?_
  | with_reducible refine G.i_bl ?_
  | with_reducible refine G.i_ret ?_
  | with_reducible refine G.i_next ?_
  | with_reducible refine G.i_cb ?_
  | with_reducible refine G.i_call ?_
  | (with_reducible show L2.rEq _ _ _ _; refine G.i_eq rfl ?_)
  | (with_reducible show L2.rNe _ _ _ _; refine G.i_ne rfl ?_)
  | with_reducible refine G.i_gsub ?_
  | with_reducible refine G.i_drop ?_
  | with_reducible refine G.i_par ?_
  | with_reducible refine G.i_two ?_
  | with_reducible refine G.i_ii ?_
  | with_reducible refine G.i_ss ?_
  | with_reducible refine G.i_not ?_
  | with_reducible refine G.i_notV ?_
  | with_reducible refine G.i_andV ?_
  | with_reducible refine G.i_orV ?_
  | with_reducible refine G.i_and ?_
  | with_reducible refine G.i_or ?_
  | with_reducible refine G.i_if ?_
  | with_reducible refine G.i_chain ?_
  | with_reducible refine G.i_lst ?_
  | with_reducible refine G.i_tup ?_
  | with_reducible refine G.i_un ?_
  | with_reducible refine G.i_U ?_
  | with_reducible refine G.i_sl ?_
  | with_reducible refine G.i_noPart ?_
  | with_reducible refine G.i_part ?_
  | with_reducible refine G.i_int ?_
  | with_reducible refine G.i_for ?_
  | with_reducible refine G.i_rng1 ?_
  | with_reducible refine G.i_retN ?_
  | with_reducible refine G.i_lc ?_
  | with_reducible refine G.i_iStr ?_
  | with_reducible refine G.i_str ?_
  | with_reducible refine G.i_iList ?_
  | with_reducible refine G.i_iTup ?_
  | with_reducible refine G.i_yes ?_
  | with_reducible refine G.i_M1 ?_
  | with_reducible refine G.i_isB ?_
  | with_reducible refine G.i_callK ?_
  | with_reducible refine G.i_callN0 ?_
  | with_reducible refine G.i_callU ?_
  | with_reducible refine G.i_callS ?_
  | with_reducible refine G.i_notB ?_
  | with_reducible refine L2.iteT ?_
  | with_reducible refine L2.iteF ?_
  | (with_reducible show (if (!false) = true then _ else _); refine G.i_isT rfl ?_)
  | (with_reducible show (if (!true) = true then _ else _); refine G.i_isF rfl ?_))
local macro_rules | `(tactic| walk_at "S") => `(tactic| repeat walk_at "s1")
local macro_rules | `(tactic| walk_at "hp") => `(tactic| first
  | assumption
  | with_reducible exact L2.upd_same
  | (with_reducible refine G.old' (by assumption) ?_; walk_at "hp")
  | (with_reducible refine G.oldw (by assumption) ?_; walk_at "hp")
  | (with_reducible refine G.oldw (Ne.symm (by assumption)) ?_; walk_at "hp")
  | (with_reducible refine G.Kp.at (by assumption) (by assumption) ?_; walk_at "hp"))
local macro_rules | `(tactic| walk_at "bx") => `(tactic| first
  | with_reducible assumption
  | with_reducible exact G.BoxAt.of (by assumption)
  | with_reducible exact G.box_new (by assumption) (by walk_at "bx")
  | with_reducible exact G.box_wr (by assumption) (by walk_at "bx")
  | with_reducible exact G.box_wr (Ne.symm (by assumption)) (by walk_at "bx")
  | with_reducible exact G.box_same (by assumption) (by walk_at "bx"))
local macro_rules | `(tactic| walk_at "kp") => `(tactic| first
  | with_reducible assumption
  | with_reducible exact G.Kp.refl
  | (with_reducible refine G.kp_new (by assumption) ?_; walk_at "kp")
  | (with_reducible refine G.Kp.bx ?_; walk_at "kp")
  | (with_reducible refine G.kp_tr (by assumption) ?_; walk_at "kp")
  | (with_reducible refine G.kp_same (by assumption) ?_; walk_at "kp"))
local macro_rules | `(tactic| walk_at "sm") => `(tactic| first
  | with_reducible assumption
  | with_reducible exact L2.Same.refl _
  | (with_reducible refine G.same_nw (by assumption) ?_; walk_at "sm")
  | (with_reducible refine G.same_kp' (by assumption) (by assumption) ?_; walk_at "sm")
  | (with_reducible refine G.same_tr (by assumption) ?_; walk_at "sm"))
local macro_rules | `(tactic| walk_at "kd") => `(tactic| first
  | with_reducible assumption
  | (with_reducible refine G.kd_new (by assumption) ?_; walk_at "kd")
  | (with_reducible refine G.kd_kp (by assumption) (by assumption) ?_; walk_at "kd")
  | (with_reducible refine G.kd_same (by assumption) ?_; walk_at "kd"))
namespace K02
open PySem PySem.Spec PyProof.Rows L2 G
section
variable {w : World} {K : PySem.W.Frag} {mg : Str → Option Value} {base : Heap}
theorem ok_l_take (c : Hd fa fn ex xs K mg) : FnOk P w K mg base CX0 1 (a_l_take K) (fdOf K (a_l_take K)) P_l_take sp_l_take := by
  refine (fd_l_take c).ok sc_l_take (fun vs H Q E h => ?_) (fun cdv A outer s H vs Q E hr h => ?_)
  · obtain ⟨a, m, n, rfl, _⟩ := h
    rfl
  · obtain ⟨a, m, n, rfl, ⟨o, ho, x, y, z, rfl, hy, hy2, hz, hz2⟩, hn, hm, hm2, k⟩ := h
    refine ⟨_, PSs.nox (pss_cons (ps_if (pt_cmpR op_gt (pe_ix ix_list (pv 0) pe_int (fun _ _ => rfl)) pe_int (nomark _)) (pss_cons (ps_set (i := 2) sc_l_take.nd rfl (Or.inl rfl) (pe_op op_mod (pe_ix ix_list (pv 0) pe_int (fun _ _ => rfl)) (pv 1)))
      (pss_cons (ps_asg (pe_op op_fdiv (pe_ix ix_list (pv 0) pe_int (fun _ _ => rfl)) (pv 1)) (pg_sub (pv 0) pe_int set_list))
      (pss_one (ps_ret (pv 2))))) pss_nil)
      (pss_cons (ps_asg (pe_op op_add (pe_ix ix_list (pv 0) pe_int (fun _ _ => rfl)) pe_int) (pg_sub (pv 0) pe_int set_list))
      (pss_cons (ps_set (i := 3) sc_l_take.nd rfl (Or.inl rfl) (pe_op op_mod (pe_op op_pow (pe_op op_add (pe_op op_add (pe_ix ix_list (pv 0) pe_int (fun _ _ => rfl)) (pe_op op_mul pe_int (pe_ix ix_list (pv 0) pe_int (fun _ _ => rfl)))) pe_int) pe_int) pe_int))
      (pss_cons (ps_set (i := 4) sc_l_take.nd rfl (Or.inl rfl) (pe_op op_mod (pe_op op_pow (pe_op op_add (pe_op op_add (pe_op op_fdiv (pv 3) pe_int) (pe_op op_mul pe_int (pe_ix ix_list (pv 0) pe_int (fun _ _ => rfl)))) pe_int) pe_int) pe_int))
      (pss_one (ps_ret (pe_op op_mod (pe_op op_add (pe_op op_fdiv (pv 3) pe_int) (pe_op op_mul pe_int (pe_op op_fdiv (pv 4) pe_int))) (pv 1)))))))), ?_⟩
    walk_at "S"
    refine i_ixL (SqL.of ho) rfl ?_
    walk_at "S"
    refine i_dec (fun hx => ?_) (fun hx => ?_)
    · walk_at "S"
      refine i_ixL (SqL.of ho) rfl ?_
      walk_at "S"
      refine i_I hm ?_
      walk_at "S"
      refine i_ixL (SqL.of ho) rfl ?_
      walk_at "S"
      refine i_I ⟨hm, hm2⟩ ?_
      walk_at "S"
      refine i_setL ho rfl ?_
      walk_at "S"
      exact k _ _ (Int.emod_nonneg _ (by omega)) (Int.emod_lt_of_pos _ hm) ⟨_, y, z, rfl, hy, hy2, hz, by omega⟩
    · walk_at "S"
      refine i_ixL (SqL.of ho) rfl ?_
      walk_at "S"
      refine i_setL ho rfl ?_
      walk_at "S"
      refine i_ixL (SqL.of upd_same) rfl ?_
      walk_at "S"
      refine i_ixL (SqL.of upd_same) rfl ?_
      walk_at "S"
      refine i_I (.inl ⟨by decide, by decide⟩) ?_
      walk_at "S"
      refine i_I ⟨by decide, by decide, by omega⟩ ?_
      walk_at "S"
      refine i_I (by decide) ?_
      walk_at "S"
      have h1 := Int.emod_nonneg ((y + 6133 * (z + 1) + 37) ^ (5 : Int).toNat) (show (2147483647 : Int) ≠ 0 by decide)
      have h2 := Int.emod_lt_of_pos ((y + 6133 * (z + 1) + 37) ^ (5 : Int).toNat) (show (0 : Int) < 2147483647 by decide)
      generalize (y + 6133 * (z + 1) + 37) ^ (5 : Int).toNat % 2147483647 = e1 at h1 h2 ⊢
      refine i_I ⟨by decide, by decide⟩ ?_
      walk_at "S"
      refine i_ixL (SqL.of upd_same) rfl ?_
      walk_at "S"
      refine i_I (.inl ⟨by decide, by decide⟩) ?_
      walk_at "S"
      refine i_I ⟨by decide, by decide, by omega⟩ ?_
      walk_at "S"
      refine i_I (by decide) ?_
      walk_at "S"
      refine i_I ⟨by decide, by decide⟩ ?_
      walk_at "S"
      refine i_I ⟨by decide, by decide⟩ ?_
      walk_at "S"
      refine i_I (.inl ⟨by decide, by decide⟩) ?_
      walk_at "S"
      refine i_I hm ?_
      exact k _ _ (Int.emod_nonneg _ (by omega)) (Int.emod_lt_of_pos _ hm) ⟨x, y, z + 1, rfl, hy, hy2, by omega, by omega⟩

theorem ok_l_box (c : Hd fa fn ex xs K mg) : FnOk P w K mg base CX0 1 (a_l_box K) (fdOf K (a_l_box K)) P_l_box sp_l_box := by
  refine (fd_l_box c).ok sc_l_box (fun vs H Q E h => ?_) (fun cdv A outer s H vs Q E hr h => ?_)
  · obtain ⟨i, rfl, _⟩ := h
    rfl
  · obtain ⟨i, rfl, k⟩ := h
    refine ⟨_, PSs.nox (pss_one (ps_ret (pe_lst (pa_cons (pe_callB (call_max2 rfl) rfl (fr_max c) (by decide +kernel) (pa_cons pe_int (pa_cons (pe_op op_sub (pv 0) (pe_op op_pow pe_int pe_int)) pa_nil))) (pa_cons (pe_op op_mod (pv 0) pe_int) (pa_cons pe_int pa_nil)))))), ?_⟩
    walk_at "S"
    refine i_I ⟨by decide, by decide, by decide⟩ ?_
    walk_at "S"
    refine i_I (by decide) ?_
    walk_at "S"
    refine ⟨few, fun p hp => ?_⟩
    exact k p _ hp ⟨_, _, _, rfl, Int.emod_nonneg _ (by decide), Int.emod_lt_of_pos _ (by decide), by decide, by decide⟩

theorem ok_l_cell (c : Hd fa fn ex xs K mg) : FnOk P w K mg base CX0 1 (a_l_cell K) (fdOf K (a_l_cell K)) P_l_cell (sp_l_cell K) := by
  refine (fd_l_cell c).ok sc_l_cell (fun vs H Q E h => ?_) (fun cdv A outer s H vs Q E hr h => ?_)
  · obtain ⟨a, ns, j, rfl, _⟩ := h
    rfl
  · obtain ⟨a, ns, j, rfl, hs, hj, k⟩ := h
    refine ⟨_, PSs.nox (pss_cons (ps_if (pt_cmpR op_lt (pv 1) (pe_callB call_len rfl (fr_len c) (by decide +kernel) (pa_cons (pv 0) pa_nil)) (nomark _)) (pss_one (ps_ret (pe_ix ix_list (pv 0) (pv 1) (fun _ _ => rfl)))) pss_nil)
      (pss_one (ps_ret (pe_op op_add (pe_op op_mul pe_int (pv 1)) pe_int)))), ?_⟩
    walk_at "S"
    refine ⟨_, _, rfl, .inl ⟨_, hs, rfl⟩, ?_⟩
    walk_at "S"
    refine i_dec (fun hx => ?_) (fun hx => ?_)
    · walk_at "S"
      rw [List.length_map] at hx
      have hlt : j.toNat < ns.length := by omega
      refine i_ixL hs (v := .int ns[j.toNat]) (by simp [atI, ixN, hj, hx, hlt]) ?_
      exact k _
    · walk_at "S"
      refine i_I (.inl ⟨by decide, by decide⟩) ?_
      walk_at "S"
      exact k _

theorem ok_is_integer (c : Hd fa fn ex xs K mg) : FnOk P w K mg base CX0 1 (a_is_integer K) (fdOf K (a_is_integer K)) P_is_integer sp_is_integer := by
  refine (fd_is_integer c).ok sc_is_integer (fun vs H Q E h => ?_) (fun cdv A outer s H vs Q E hr h => ?_)
  · obtain ⟨v, lo, hi, T, rfl, _⟩ := h
    rfl
  · obtain ⟨v, lo, hi, T, rfl, kd, k⟩ := h
    refine ⟨_, PSs.nox (pss_one (ps_ret (pe_and (pe_callB call_isi rfl (fr_isinstance c) (by decide +kernel) (pa_cons (pv 0) (pa_cons (pe_ty (T := "int") (fr_int c) (by decide +kernel)) pa_nil))) (pe_and (pe_not (pe_callB call_isi rfl (fr_isinstance c) (by decide +kernel) (pa_cons (pv 0) (pa_cons (pe_ty (T := "bool") (fr_bool c) (by decide +kernel)) pa_nil)))) (pe_one (pe_chain op_le op_le (pv 1) (pv 0) (pv 2))))))), ?_⟩
    walk_at "S"
    cases kd with
    | int i =>
      refine i_isi (.int i) (b := true) (by decide +kernel) ?_
      walk_at "S"
      refine i_isi (.int i) (b := false) (by decide +kernel) ?_
      walk_at "S"
      refine i_dec (fun h1 => ?_) (fun h1 => ?_)
      · walk_at "S"
        simpa [isI, h1] using k
      · simpa [isI, h1] using k
    | bl b =>
      refine i_isi (.bl b) (b := true) (by decide +kernel) ?_
      walk_at "S"
      refine i_isi (.bl b) (b := true) (by decide +kernel) ?_
      walk_at "S"
      exact k
    | non => exact i_isi .non (b := false) (by decide +kernel) (by walk_at "S"; exact k)
    | str x => exact i_isi (.str x) (b := false) (by decide +kernel) (by walk_at "S"; exact k)
    | lst e => exact i_isi (.lst e) (b := false) (by decide +kernel) (by walk_at "S"; exact k)
    | tup e => exact i_isi (.tup e) (b := false) (by decide +kernel) (by walk_at "S"; exact k)
    | dct e => exact i_isi (.dct e) (b := false) (by decide +kernel) (by walk_at "S"; exact k)

end

end K02
namespace K02
open PySem PySem.Spec PyProof.Rows L2 G
section
variable {w : World} {K : PySem.W.Frag} {mg : Str → Option Value} {base : Heap}
theorem ok_need_integer (c : Hd fa fn ex xs K mg) : FnOk P w K mg base (L2.CX P w) 3 (a_need_integer K) (fdOf K (a_need_integer K)) P_need_integer (sp_need_integer (He.ga K "InvalidInteger")) := by
  refine (fd_need_integer c).ok sc_need_integer (fun vs H Q E h => ?_) (fun cdv A outer s H vs Q E hr h => ?_)
  · obtain ⟨v, lo, hi, T, rfl, _⟩ := h
    rfl
  · obtain ⟨v, lo, hi, T, rfl, kd, k1, k2⟩ := h
    refine ⟨_, (pss_one (ps_if (pt_not (pt_val (pe_call (ok_is_integer c) (hr.mono (by decide)) rfl (mg_is_integer c) (fd_is_integer c).kp (bd_is_integer c) .nil pass0 (pa_cons (pv 0) (pa_cons (pv 1) (pa_cons (pv 2) pa_nil)))))) (pss_one (ps_raise rfl (takes_of rfl rfl rfl rfl) (pmk_x (xc_InvalidInteger c) hr (pa_cons (pv 0) pa_nil)))) pss_nil)), ?_⟩
    walk_at "S"
    refine ⟨v, lo, hi, T, rfl, kd, ?_⟩
    walk_at "S"
    cases e : isI v lo hi with
    | true =>
      refine i_isF rfl ?_
      walk_at "S"
      exact k1 e
    | false =>
      refine i_isT rfl ?_
      exact ⟨v, rfl, v, rfl, fun d hd => k2 e d hd⟩

theorem ok_parse_integer (c : Hd fa fn ex xs K mg) : FnOk P w K mg base (L2.CX P w) 5 (a_parse_integer K) (fdOf K (a_parse_integer K)) P_parse_integer (sp_parse_integer (He.ga K "InvalidInteger")) := by
  refine (fd_parse_integer c).ok sc_parse_integer (fun vs H Q E h => ?_) (fun cdv A outer s H vs Q E hr h => ?_)
  · obtain ⟨v, l, h, T1, T2, T3, rfl, _⟩ := h
    rfl
  · obtain ⟨v, l, h, T1, T2, T3, rfl, kv, kl, kh, fv, k1, k2, k3⟩ := h
    refine ⟨_, (pss_cons (ps_expr (pe_callS (ok_need_integer c) (hr.mono (by decide)) rfl (mg_need_integer c) (fd_need_integer c).kp (bd_need_integer c) (fun σ => passAt (takes_of rfl rfl rfl rfl) σ) (pa_cons (pv 1) (pa_cons pe_int (pa_cons (pe_gint (c_MOST c)) pa_nil)))))
      (pss_cons (ps_expr (pe_callS (ok_need_integer c) (hr.mono (by decide)) rfl (mg_need_integer c) (fd_need_integer c).kp (bd_need_integer c) (fun σ => passAt (takes_of rfl rfl rfl rfl) σ) (pa_cons (pv 2) (pa_cons pe_int (pa_cons (pe_gint (c_MOST c)) pa_nil)))))
      (pss_cons (ps_if (PW.pt (pw_or (pt_not (pt_val (pe_callB call_isi rfl (fr_isinstance c) (by decide +kernel) (pa_cons (pv 0) (pa_cons (pe_ty (T := "str") (fr_str c) (by decide +kernel)) pa_nil))))) (pw_or (pt_not (pt_chain op_lt op_le pe_int (pe_callB call_len rfl (fr_len c) (by decide +kernel) (pa_cons (pv 0) pa_nil)) (pe_gint (c_MOST_DIGITS c)))) (pw_or1 (PW.pt (pw_and (pt_cmpR op_eq (pe_ix ix_str (pv 0) pe_int (fun _ _ => rfl)) pe_str (nomark _)) (pw_and1 (pt_cmpR op_ne (pv 0) pe_str (nomark _))))))))) (pss_one (ps_ret pe_non)) pss_nil)
      (pss_cons (ps_if (pt_not (pt_val (pe_callB (cr_all rfl) rfl (fr_all c) (by decide +kernel) (pa_cons (pe_lc (own := [("sign", 4)]) rfl sc_parse_integer.nd (pi_str (pv 0)) (blkOk_by (own := [("sign", 4)]) (N := N_parse_integer) (sc := defScope s_parse_integer) (by decide +kernel)) (fun _ _ _ _ _ => (pg_name (i := 4) sc_parse_integer.nd rfl (Or.inl rfl))) (fun _ _ _ _ _ => pts_nil) (fun _ _ _ _ _ => (pe_chain op_le_str op_le_str pe_str (pv 4) pe_str))) pa_nil)))) (pss_one (ps_ret pe_non)) pss_nil)
      (pss_cons (ps_set (i := 3) sc_parse_integer.nd rfl (Or.inl rfl) (pe_callTy call_int_str rfl (fr_int c) (by decide +kernel) (pa_cons (pv 0) pa_nil)))
      (pss_one (ps_ret (pe_ifExp (pt_chain op_le op_le (pv 1) (pv 3) (pv 2)) (pv 3) pe_non)))))))), ?_⟩
    walk_at "S"
    refine ⟨l, 0, 999999999, T2, rfl, kl, fun e1 => ?_, fun e1 d hd => k2 e1 d hd⟩
    walk_at "S"
    refine ⟨h, 0, 999999999, T3, rfl, kh, fun e2 => ?_, fun e2 d hd => k3 e1 e2 d hd⟩
    obtain ⟨lo, rfl, a1, a2⟩ := isI_int e1
    obtain ⟨hi, rfl, a3, a4⟩ := isI_int e2
    have k := k1 lo hi rfl rfl e1 e2
    walk_at "S"
    rcases isi_str kv with ⟨z, rfl⟩ | ⟨hne, nost⟩
    · refine isi_strT ?_
      walk_at "S"
      refine ⟨_, _, rfl, ⟨fv, rfl⟩, ?_⟩
      walk_at "S"
      have no : ¬ parseOk z → Q .non H := fun h => by rw [← parseV_no (lo := lo) (hi := hi) h]; exact k H (Same.refl H)
      refine i_dec (fun h1 => ?_) (fun h1 => ?_)
      · walk_at "S"
        refine i_ite (fun h2 => ?_) (fun h2 => ?_)
        · walk_at "S"
          exact no fun q => by have := q.2.1; simp at h2; omega
        · have h3 : z.length ≤ 9 := by simp at h2; omega
          obtain ⟨c0, r0, ez⟩ := head_of (z := z) (by omega)
          walk_at "S"
          refine i_ixS fv (c := c0) (by rw [ez]; exact at0) ?_
          walk_at "S"
          refine i_dec (fun h4 => ?_) (fun h4 => ?_)
          · walk_at "S"
            refine i_ite (fun h5 => ?_) (fun h5 => ?_)
            · walk_at "S"
              refine no fun q => q.2.2.1 ⟨?_, fun q5 => ?_⟩
              · rw [ez]
                have q6 : (⟨#[c0]⟩ : Str) = ⟨#[48]⟩ := V.str.inj h4
                rw [sign_eq.mp q6]
                rfl
              · rw [q5] at h5
                simp at h5
            replace h5 : z = Str.ofString "0" := by simpa using h5
            have hh : ¬ (z.cps.toList.head? = some 48 ∧ z ≠ Str.ofString "0") := by
              rw [ez]
              rintro ⟨q1, q2⟩
              have q3 : c0 = 48 := by simpa using q1
              first
                | exact q2 h5
            walk_at "S"
            intro D hD
            refine lc_flt walk_strI (fun c => some (.bl (dig c))) (fun _ => trivial) fv (fun c F Ny Nn hc hy hn => ?_) ?_
            · walk_at "S"
              refine ⟨rfl, ?_⟩
              walk_at "S"
              refine i_ite (fun h6 => ?_) (fun h6 => ?_)
              · walk_at "S"
                exact hy _ (congrArg (fun b => some (V.bl b)) (dig_t h6))
              · exact hy _ (congrArg (fun b => some (V.bl b)) (dig_f h6))
            · walk_at "S"
              refine i_all (bs := z.cps.toList.map dig) (SqL.of (by rw [upd_same]; simp)) ?_
              walk_at "S"
              rw [List.all_map]
              have sm : Same H (upd H D (.lst (List.filterMap (fun c => some (V.bl (dig c))) z.cps.toList))) := same_new hD
              cases ed : z.cps.toList.all (id ∘ dig) with
              | false =>
                refine i_isT rfl ?_
                walk_at "S"
                have np : ¬ parseOk z := fun q => by
                  have q4 : z.cps.toList.all dig = false := ed
                  exact Bool.noConfusion (q4.symm.trans q.2.2.2)
                rw [← parseV_no (lo := lo) (hi := hi) np]
                exact k _ sm
              | true =>
                refine i_isF rfl ?_
                walk_at "S"
                have yp : parseOk z := ⟨by omega, h3, hh, ed⟩
                refine ⟨z, _, rfl, PySem.intText_digits (dig_all ed) (by rw [ez]; exact List.cons_ne_nil _ _) (by omega), by omega, ?_⟩
                walk_at "S"
                have kk := k _ sm
                rw [parseV_yes yp] at kk
                refine i_dec (fun h7 => ?_) (fun h7 => ?_)
                · walk_at "S"
                  refine i_dec (fun h8 => ?_) (fun h8 => ?_)
                  · walk_at "S"
                    rw [if_pos ⟨h7, h8⟩] at kk
                    exact kk
                  · walk_at "S"
                    rw [if_neg (fun q => h8 q.2)] at kk
                    exact kk
                · walk_at "S"
                  rw [if_neg (fun q => h7 q.1)] at kk
                  exact kk
          · have h5 : True := trivial
            have hh : ¬ (z.cps.toList.head? = some 48 ∧ z ≠ Str.ofString "0") := by
              rw [ez]
              rintro ⟨q1, q2⟩
              have q3 : c0 = 48 := by simpa using q1
              exact h4 (congrArg V.str (sign_eq.mpr q3))
            walk_at "S"
            intro D hD
            refine lc_flt walk_strI (fun c => some (.bl (dig c))) (fun _ => trivial) fv (fun c F Ny Nn hc hy hn => ?_) ?_
            · walk_at "S"
              refine ⟨rfl, ?_⟩
              walk_at "S"
              refine i_ite (fun h6 => ?_) (fun h6 => ?_)
              · walk_at "S"
                exact hy _ (congrArg (fun b => some (V.bl b)) (dig_t h6))
              · exact hy _ (congrArg (fun b => some (V.bl b)) (dig_f h6))
            · walk_at "S"
              refine i_all (bs := z.cps.toList.map dig) (SqL.of (by rw [upd_same]; simp)) ?_
              walk_at "S"
              rw [List.all_map]
              have sm : Same H (upd H D (.lst (List.filterMap (fun c => some (V.bl (dig c))) z.cps.toList))) := same_new hD
              cases ed : z.cps.toList.all (id ∘ dig) with
              | false =>
                refine i_isT rfl ?_
                walk_at "S"
                have np : ¬ parseOk z := fun q => by
                  have q4 : z.cps.toList.all dig = false := ed
                  exact Bool.noConfusion (q4.symm.trans q.2.2.2)
                rw [← parseV_no (lo := lo) (hi := hi) np]
                exact k _ sm
              | true =>
                refine i_isF rfl ?_
                walk_at "S"
                have yp : parseOk z := ⟨by omega, h3, hh, ed⟩
                refine ⟨z, _, rfl, PySem.intText_digits (dig_all ed) (by rw [ez]; exact List.cons_ne_nil _ _) (by omega), by omega, ?_⟩
                walk_at "S"
                have kk := k _ sm
                rw [parseV_yes yp] at kk
                refine i_dec (fun h7 => ?_) (fun h7 => ?_)
                · walk_at "S"
                  refine i_dec (fun h8 => ?_) (fun h8 => ?_)
                  · walk_at "S"
                    rw [if_pos ⟨h7, h8⟩] at kk
                    exact kk
                  · walk_at "S"
                    rw [if_neg (fun q => h8 q.2)] at kk
                    exact kk
                · walk_at "S"
                  rw [if_neg (fun q => h7 q.1)] at kk
                  exact kk
      · walk_at "S"
        exact no fun q => by have := q.1; omega
    · refine nost ?_
      walk_at "S"
      rw [← parseV_non (lo := lo) (hi := hi) hne]
      exact k H (Same.refl H)

end

end K02
namespace K02
open PySem PySem.Spec PyProof.Rows L2 G
def sp_l_due : Sp := fun vs H Q _ => ∃ (z : Str) (lo hi : Int), vs = [.str z, .int lo, .int hi] ∧ z.length ≤ 5000 ∧ ∀ H', Same H H' → Q (parseV (.str z) lo hi) H'
theorem dgs_mem (c : Nat) : c ∈ (Str.ofString "0123456789").cps.toList ↔ 48 ≤ c ∧ c ≤ 57 := by
  have e : (Str.ofString "0123456789").cps.toList = List.range' 48 10 := by decide +kernel
  rw [e, List.mem_range'_1]
  omega
theorem filt_dig {l : List Nat} : (l.filterMap fun c => if dig c then none else some (V.str ⟨#[c]⟩)).isEmpty = l.all dig := by
  induction l with
  | nil => rfl
  | cons a r ih =>
    cases h : dig a with
    | true => simp [h, ih]
    | false => simp [h]
theorem dval_add (l : List Nat) (c : Nat) : NumText.digitsVal (l ++ [c]) = NumText.digitsVal l * 10 + (c - 48) := by
  unfold NumText.digitsVal
  rw [List.foldl_append]
  rfl
section
variable {w : World} {K : PySem.W.Frag} {mg : Str → Option Value} {base : Heap}
theorem ok_l_due (c : Hd fa fn ex xs K mg) : FnOk P w K mg base CX0 1 (a_l_due K) (fdOf K (a_l_due K)) P_l_due sp_l_due := by
  refine (fd_l_due c).ok sc_l_due (fun vs H Q E h => ?_) (fun cdv A outer s H vs Q E hr h => ?_)
  · obtain ⟨z, lo, hi, rfl, _⟩ := h
    rfl
  · obtain ⟨z, lo, hi, rfl, fz, k⟩ := h
    have fv : z.length ≤ sizeLine := Nat.le_trans fz (by decide)
    refine ⟨_, PSs.nox (pss_cons (ps_if (PW.pt (pw_or (pt_not (pt_val (pe_callB call_isi rfl (fr_isinstance c) (by decide +kernel) (pa_cons (pv 0) (pa_cons (pe_ty (T := "str") (fr_str c) (by decide +kernel)) pa_nil))))) (pw_or (pt_not (pt_chain op_lt op_lt pe_int (pe_callB call_len rfl (fr_len c) (by decide +kernel) (pa_cons (pv 0) pa_nil)) pe_int)) (pw_or1 (PW.pt (pw_and (pt_cmpR op_eq (pe_ix ix_str (pv 0) pe_int (fun _ _ => rfl)) pe_str (nomark _)) (pw_and1 (pt_cmpR op_ne (pv 0) pe_str (nomark _))))))))) (pss_one (ps_ret pe_non)) pss_nil)
      (pss_cons (ps_if (pt_cmpR (op_neNil hr.units) (pe_lc (own := [("_law_sign", 4)]) rfl sc_l_due.nd (pi_str (pv 0)) (blkOk_by (own := [("_law_sign", 4)]) (N := N_l_due) (sc := defScope s_l_due) (by decide +kernel)) (fun _ _ _ _ _ => (pg_name (i := 4) sc_l_due.nd rfl (Or.inl rfl))) (fun _ _ _ _ _ => (pts_one (pt_cmpR op_notIn_sign (pv 4) pe_str rfl))) (fun _ _ _ _ _ => (pv 4))) (pe_lst pa_nil) (nomark _)) (pss_one (ps_ret pe_non)) pss_nil)
      (pss_cons (ps_set (i := 3) sc_l_due.nd rfl (Or.inl rfl) pe_int)
      (pss_cons (ps_for PassesOwn.never rfl (pi_str (pv 0)) (pg_name (i := 4) sc_l_due.nd rfl (Or.inl rfl)) (pss_one (ps_set (i := 3) sc_l_due.nd rfl (Or.inl rfl) (pe_op op_add (pe_op op_mul pe_int (pv 3)) (pe_callTy call_int_str rfl (fr_int c) (by decide +kernel) (pa_cons (pv 4) pa_nil))))))
      (pss_one (ps_ret (pe_ifExp (pt_chain op_le op_le (pv 1) (pv 3) (pv 2)) (pv 3) pe_non))))))), ?_⟩
    walk_at "S"
    refine isi_strT ?_
    walk_at "S"
    refine ⟨_, _, rfl, ⟨fv, rfl⟩, ?_⟩
    walk_at "S"
    have no : ¬ parseOk z → Q .non H := fun h => by rw [← parseV_no (lo := lo) (hi := hi) h]; exact k H (Same.refl H)
    refine i_dec (fun h1 => ?_) (fun h1 => ?_)
    · walk_at "S"
      refine i_ite (fun h2 => ?_) (fun h2 => ?_)
      · walk_at "S"
        exact no fun q => by have := q.2.1; simp at h2; omega
      · have h3 : z.length ≤ 9 := by simp at h2; omega
        obtain ⟨c0, r0, ez⟩ := head_of (z := z) (by omega)
        walk_at "S"
        refine i_ixS fv (c := c0) (by rw [ez]; exact at0) ?_
        walk_at "S"
        have cont : ¬ (z.cps.toList.head? = some 48 ∧ z ≠ Str.ofString "0") → z.cps.toList.all dig = true → parseOk z := fun a b => ⟨by omega, h3, a, b⟩
        refine i_dec (fun h4 => ?ba) (fun h4 => ?bb)
        case ba =>
          walk_at "S"
          refine i_ite (fun h5 => ?bc) (fun h5 => ?bd)
          case bc =>
            walk_at "S"
            refine no fun q => q.2.2.1 ⟨?_, fun q5 => ?_⟩
            · rw [ez]
              have q6 : (⟨#[c0]⟩ : Str) = ⟨#[48]⟩ := V.str.inj h4
              rw [sign_eq.mp q6]
              rfl
            · rw [q5] at h5
              simp at h5
          have hh : ¬ (z.cps.toList.head? = some 48 ∧ z ≠ Str.ofString "0") := fun q => q.2 (by simpa using h5)
          walk_at "S"
          intro D hD
          refine lc_flt walk_strI (fun c => if dig c then none else some (.str ⟨#[c]⟩)) (fun _ => trivial) fv (fun c F Ny Nn hc hy hn => ?_) ?_
          · walk_at "S"
            refine ⟨rfl, ?_⟩
            walk_at "S"
            refine ⟨_, _, rfl, rfl, ?_⟩
            walk_at "S"
            refine i_ite (fun h6 => ?_) (fun h6 => ?_)
            · walk_at "S"
              have q : dig c = false := by
                have h7 : ¬ c ∈ (Str.ofString "0123456789").cps.toList := by simpa using h6
                rw [dgs_mem] at h7
                unfold dig
                by_cases y : 48 ≤ c
                · rw [decide_eq_false (show ¬ c ≤ 57 by omega), Bool.and_false]
                · rw [decide_eq_false y, Bool.false_and]
              exact hy _ (by rw [q]; rfl)
            · have q : dig c = true := by
                have h7 : c ∈ (Str.ofString "0123456789").cps.toList := by simpa using h6
                rw [dgs_mem] at h7
                unfold dig
                rw [decide_eq_true h7.1, decide_eq_true h7.2]
                rfl
              exact hn (by rw [q]; rfl)
          · walk_at "S"
            refine ⟨few, fun p hp => ?_⟩
            refine i_eqNil (SqL.of (by walk_at "hp")) (SqL.of upd_same) ?_
            walk_at "S"
            rw [filt_dig]
            have sm : Same H (upd (upd H D (.lst (List.filterMap (fun c => if dig c then none else some (V.str ⟨#[c]⟩)) z.cps.toList))) p (.lst [])) := G.Same.new (same_new hD) hp
            cases ed : z.cps.toList.all dig with
            | false =>
              refine i_isT rfl ?_
              walk_at "S"
              have np : ¬ parseOk z := fun q => Bool.noConfusion (ed.symm.trans q.2.2.2)
              rw [← parseV_no (lo := lo) (hi := hi) np]
              exact k _ sm
            | true =>
              refine i_isF rfl ?_
              walk_at "S"
              have yp := cont hh ed
              have ad := dig_all ed
              refine for_it walk_strI (fun i σ H' => ∃ v4 : Option V, σ = [some (.str z), some (.int lo), some (.int hi), some (.int (NumText.digitsVal (z.cps.toList.take i) : Nat)), v4] ∧ Same H H') ?_ (fun _ _ _ _ _ => trivial) ?_ ?_
              · exact ⟨none, rfl, sm⟩
              · rintro i x σ H' _ hi' ⟨v4, rfl, s2⟩ ⟨rfl, c, hc, rfl⟩
                have dc := ad c (List.mem_of_getElem? hc)
                walk_at "S"
                refine i_I (.inl ⟨by decide, by decide⟩) ?_
                walk_at "S"
                refine ⟨_, _, rfl, PySem.intText_digits (x := ⟨#[c]⟩) (fun d hd => by rw [List.mem_singleton.mp hd]; exact dc) (by simp) (show 1 ≤ 4300 by decide), (show 1 ≤ 640 by decide), ?_⟩
                walk_at "S"
                refine ⟨some (.str ⟨#[c]⟩), ?_, s2⟩
                rw [take_get hc, dval_add]
                have e1 : NumText.digitsVal ((⟨#[c]⟩ : Str).cps.toList) = c - 48 := by
                  show 0 * 10 + (c - 48) = c - 48
                  omega
                rw [e1]
                have e2 : (10 : Int) * (NumText.digitsVal (z.cps.toList.take i) : Nat) + ((c - 48 : Nat) : Int) = ((NumText.digitsVal (z.cps.toList.take i) * 10 + (c - 48) : Nat) : Int) := by omega
                rw [e2]
                rfl
              · rintro σ H' ⟨v4, rfl, s2⟩
                rw [List.take_length]
                walk_at "S"
                have kk := k _ s2
                rw [parseV_yes yp] at kk
                refine i_dec (fun h7 => ?_) (fun h7 => ?_)
                · walk_at "S"
                  refine i_dec (fun h8 => ?_) (fun h8 => ?_)
                  · walk_at "S"
                    rw [if_pos ⟨h7, h8⟩] at kk
                    exact kk
                  · walk_at "S"
                    rw [if_neg (fun q => h8 q.2)] at kk
                    exact kk
                · walk_at "S"
                  rw [if_neg (fun q => h7 q.1)] at kk
                  exact kk
        have hh : ¬ (z.cps.toList.head? = some 48 ∧ z ≠ Str.ofString "0") := by
          rw [ez]
          rintro ⟨q1, q2⟩
          have q3 : c0 = 48 := by simpa using q1
          exact h4 (congrArg V.str (sign_eq.mpr q3))
        walk_at "S"
        intro D hD
        refine lc_flt walk_strI (fun c => if dig c then none else some (.str ⟨#[c]⟩)) (fun _ => trivial) fv (fun c F Ny Nn hc hy hn => ?_) ?_
        · walk_at "S"
          refine ⟨rfl, ?_⟩
          walk_at "S"
          refine ⟨_, _, rfl, rfl, ?_⟩
          walk_at "S"
          refine i_ite (fun h6 => ?_) (fun h6 => ?_)
          · walk_at "S"
            have q : dig c = false := by
              have h7 : ¬ c ∈ (Str.ofString "0123456789").cps.toList := by simpa using h6
              rw [dgs_mem] at h7
              unfold dig
              by_cases y : 48 ≤ c
              · rw [decide_eq_false (show ¬ c ≤ 57 by omega), Bool.and_false]
              · rw [decide_eq_false y, Bool.false_and]
            exact hy _ (by rw [q]; rfl)
          · have q : dig c = true := by
              have h7 : c ∈ (Str.ofString "0123456789").cps.toList := by simpa using h6
              rw [dgs_mem] at h7
              unfold dig
              rw [decide_eq_true h7.1, decide_eq_true h7.2]
              rfl
            exact hn (by rw [q]; rfl)
        · walk_at "S"
          refine ⟨few, fun p hp => ?_⟩
          refine i_eqNil (SqL.of (by walk_at "hp")) (SqL.of upd_same) ?_
          walk_at "S"
          rw [filt_dig]
          have sm : Same H (upd (upd H D (.lst (List.filterMap (fun c => if dig c then none else some (V.str ⟨#[c]⟩)) z.cps.toList))) p (.lst [])) := G.Same.new (same_new hD) hp
          cases ed : z.cps.toList.all dig with
          | false =>
            refine i_isT rfl ?_
            walk_at "S"
            have np : ¬ parseOk z := fun q => Bool.noConfusion (ed.symm.trans q.2.2.2)
            rw [← parseV_no (lo := lo) (hi := hi) np]
            exact k _ sm
          | true =>
            refine i_isF rfl ?_
            walk_at "S"
            have yp := cont hh ed
            have ad := dig_all ed
            refine for_it walk_strI (fun i σ H' => ∃ v4 : Option V, σ = [some (.str z), some (.int lo), some (.int hi), some (.int (NumText.digitsVal (z.cps.toList.take i) : Nat)), v4] ∧ Same H H') ?_ (fun _ _ _ _ _ => trivial) ?_ ?_
            · exact ⟨none, rfl, sm⟩
            · rintro i x σ H' _ hi' ⟨v4, rfl, s2⟩ ⟨rfl, c, hc, rfl⟩
              have dc := ad c (List.mem_of_getElem? hc)
              walk_at "S"
              refine i_I (.inl ⟨by decide, by decide⟩) ?_
              walk_at "S"
              refine ⟨_, _, rfl, PySem.intText_digits (x := ⟨#[c]⟩) (fun d hd => by rw [List.mem_singleton.mp hd]; exact dc) (by simp) (show 1 ≤ 4300 by decide), (show 1 ≤ 640 by decide), ?_⟩
              walk_at "S"
              refine ⟨some (.str ⟨#[c]⟩), ?_, s2⟩
              rw [take_get hc, dval_add]
              have e1 : NumText.digitsVal ((⟨#[c]⟩ : Str).cps.toList) = c - 48 := by
                show 0 * 10 + (c - 48) = c - 48
                omega
              rw [e1]
              have e2 : (10 : Int) * (NumText.digitsVal (z.cps.toList.take i) : Nat) + ((c - 48 : Nat) : Int) = ((NumText.digitsVal (z.cps.toList.take i) * 10 + (c - 48) : Nat) : Int) := by omega
              rw [e2]
              rfl
            · rintro σ H' ⟨v4, rfl, s2⟩
              rw [List.take_length]
              walk_at "S"
              have kk := k _ s2
              rw [parseV_yes yp] at kk
              refine i_dec (fun h7 => ?_) (fun h7 => ?_)
              · walk_at "S"
                refine i_dec (fun h8 => ?_) (fun h8 => ?_)
                · walk_at "S"
                  rw [if_pos ⟨h7, h8⟩] at kk
                  exact kk
                · walk_at "S"
                  rw [if_neg (fun q => h8 q.2)] at kk
                  exact kk
              · walk_at "S"
                rw [if_neg (fun q => h7 q.1)] at kk
                exact kk
    · walk_at "S"
      exact no fun q => by have := q.1; omega
end

end K02
namespace K02
open PySem PySem.Spec PyProof.Rows L2 G
section
variable {K : PySem.W.Frag} {mg : Str → Option Value}
theorem kb_parse_integer_1_high_low (c : Hd fa fn ex xs K mg) : KBx K (fdOf K (a_parse_integer K)) P_parse_integer 1 ["high", "low"] (gp3 [0, 2, 1] (([] : List (Str × V)).map (·.2))) := (kbn_kw (ps := P_parse_integer) (fd_parse_integer c) (by simp) 1 ["high", "low"] [] [0, 2, 1] (by simp) fun _ _ _ _ _ _ us mv ws h1 h2 h3 => match us, h1, mv, h2, ws, h3 with | [_], _, [], _, [_, _], _ => rfl).elim fun mv h => ⟨_, h⟩
end
def sp_l_word : Sp := fun vs H Q _ => ∃ (a : Addr) (n : Nat), vs = [.ref a] ∧ BoxAt n H a ∧ n ≤ 900000 ∧ ∀ (z : Str) (H' : Hp), BoxAt (n + 20) H' a → Kp a H H' → z.length ≤ 5000 → Q (.str z) H'
/-- _law_found(v, l, h) -/
def sp_l_found : Sp := fun vs H Q _ => ∃ (v l h : V) (T1 T2 T3 : String), vs = [v, l, h] ∧ Kd H v T1 ∧ Kd H l T2 ∧ Kd H h T3 ∧ fitV v ∧
  (∀ lo hi, l = .int lo → h = .int hi → isI l 0 999999999 = true → isI h 0 999999999 = true → ∀ H' p, Same H H' → H p = none → H' p = some (.lst [.str "found", parseV v lo hi]) → Q (.ref p) H') ∧
  (isI l 0 999999999 = false → ∀ H' p, Same H H' → H p = none → H' p = some (.lst [.str "limit", l]) → Q (.ref p) H') ∧
  (isI l 0 999999999 = true → isI h 0 999999999 = false → ∀ H' p, Same H H' → H p = none → H' p = some (.lst [.str "limit", h]) → Q (.ref p) H')
theorem join_le {ss : List Str} {m : Nat} (h : ∀ y ∈ ss, y.length ≤ m) : (Txt.join (Str.ofString "") ss).length ≤ ss.length * m ∧ (ss.map (·.length)).sum ≤ ss.length * m := by
  rw [show Str.ofString "" = Str.empty from by decide +kernel]
  have s1 : (ss.map (·.length)).sum ≤ ss.length * m := by
    have q := sum_le (n := m) (l := ss.map (·.length)) fun x hx => by
      obtain ⟨y, hy, rfl⟩ := List.mem_map.mp hx
      exact h y hy
    rw [List.length_map] at q
    exact q
  refine ⟨?_, s1⟩
  rw [str_len, join_tl, List.length_flatten, List.map_map]
  exact s1
theorem num_len {i : Int} (h0 : 0 ≤ i) (h1 : i < 10) : (Str.ofString (toString i)).length ≤ 2 := by
  have e := int_text_length_le10 (k := 1) (by decide) (show i.natAbs < 10 ^ 1 by omega)
  rw [PySem.ofString_length]
  exact e
section
variable {w : World} {K : PySem.W.Frag} {mg : Str → Option Value} {base : Heap}
theorem ok_l_found (c : Hd fa fn ex xs K mg) : FnOk P w K mg base CX0 7 (a_l_found K) (fdOf K (a_l_found K)) P_l_found sp_l_found := by
  refine (fd_l_found c).ok sc_l_found (fun vs H Q E h => ?_) (fun cdv A outer s H vs Q E hr h => ?_)
  · obtain ⟨v, l, h, T1, T2, T3, rfl, _⟩ := h
    rfl
  · obtain ⟨v, l, h, T1, T2, T3, rfl, kv, kl, kh, fv, k1, k2, k3⟩ := h
    refine ⟨_, PSs.nox (pss_one (ps_tryG rfl rfl (fun W pn xe tk pw => (pss_one (ps_ret (pe_lst (pa_cons pe_str (pa_cons (pe_callU (ok_parse_integer c) (hr.mono (by decide)) rfl (mg_parse_integer c) (fd_parse_integer c).kp (kb_parse_integer_1_high_low c).choose_spec (fun σ => passAt tk σ) (pa_cons (pv 0) pa_nil) (pk_cons (pv 2) (pk_cons (pv 1) pk_nil))) pa_nil)))))) (HG.as_ (i := 3) sc_l_found.nd rfl rfl ⟨rfl, by decide, Or.inl (xc_InvalidInteger c).gC⟩ (fun a oe cls d pn hz hf => (pss_one (ps_ret (pe_lst (pa_cons pe_str (pa_cons (pe_xf (xc_InvalidInteger c).xf (xc_InvalidInteger c).noF hz hf (pv 3)) pa_nil)))))) (HG.stop _)))), ?_⟩
    walk_at "S"
    have ex : ∀ u : V, (∀ H' p, Same H H' → H p = none → H' p = some (.lst [.str "limit", u]) → Q (.ref p) H') → ∀ d, H d = none → ∀ a : Addr, upd H d (.xd [(Str.ofString "value", u)]) a = none →
        tRet (tLst (tCons (tC (V.str (Str.ofString "limit"))) (tCons (tXf a (.ref (He.ga K (Str.ofString "InvalidInteger"))) (some d) (He.ga K (Str.ofString "InvalidInteger")) (Str.ofString "value") (tVar 3)) tNil))) { nx := fun _ H' => Q V.non H', rt := Q } ((L2.start N_l_found [v, l, h]).set 3 (some (.ref a))) (upd H d (.xd [(Str.ofString "value", u)])) := by
      intro u k d hd a ha
      walk_at "S"
      refine ⟨_, rfl, rfl, rfl, d, _, u, rfl, upd_same, rfl, ?_⟩
      walk_at "S"
      refine ⟨few, fun p hp => ?_⟩
      exact k _ p (G.Same.new (same_new hd) hp) (none_of hp) upd_same
    refine ⟨rfl, rfl, v, l, h, T1, T2, T3, rfl, kv, kl, kh, fv, ?_, ?_, ?_⟩
    · intro lo hi hl hh i1 i2 H' s1
      walk_at "S"
      refine ⟨few, fun p hp => ?_⟩
      exact k1 lo hi hl hh i1 i2 _ p (G.Same.new s1 hp) (by
        rcases Option.eq_none_or_eq_some (H p) with z | ⟨o, z⟩
        · exact z
        · rw [s1 p o z] at hp
          cases hp) upd_same
    · intro i1 d hd
      exact ⟨true, em_InvalidInteger_InvalidInteger c, fun _ a ha => ex l (k2 i1) d hd a ha, fun q => Bool.noConfusion q⟩
    · intro i1 i2 d hd
      exact ⟨true, em_InvalidInteger_InvalidInteger c, fun _ a ha => ex h (k3 i1 i2) d hd a ha, fun q => Bool.noConfusion q⟩
theorem ok_l_word (c : Hd fa fn ex xs K mg) : FnOk P w K mg base CX0 2 (a_l_word K) (fdOf K (a_l_word K)) P_l_word sp_l_word := by
  refine (fd_l_word c).ok sc_l_word (fun vs H Q E h => ?_) (fun cdv A outer s H vs Q E hr h => ?_)
  · obtain ⟨a, n, rfl, _⟩ := h
    rfl
  · obtain ⟨a, n, rfl, hb, hn, k⟩ := h
    refine ⟨_, PSs.nox (pss_cons (ps_set (i := 1) sc_l_word.nd rfl (Or.inl rfl) (pe_op op_add pe_int (pe_call (ok_l_take c) (hr.mono (by decide)) rfl (mg_l_take c) (fd_l_take c).kp (bd_l_take c) .nil pass0 (pa_cons (pv 0) (pa_cons pe_int pa_nil)))))
      (pss_cons (ps_set (i := 2) sc_l_word.nd rfl (Or.inl rfl) (pe_join pe_str (pe_lc (own := [("_law_place", 5)]) rfl sc_l_word.nd (pi_range1 rfl (fr_range c) (pa_cons (pv 1) pa_nil)) (blkOk_by (own := [("_law_place", 5)]) (N := N_l_word) (sc := defScope s_l_word) (by decide +kernel)) (fun _ _ _ _ _ => (pg_name (i := 5) sc_l_word.nd rfl (Or.inl rfl))) (fun _ _ _ _ _ => pts_nil) (fun _ _ _ _ _ => (pe_callTy call_str_int rfl (fr_str c) (by decide +kernel) (pa_cons (pe_call (ok_l_take c) (hr.mono (by decide)) rfl (mg_l_take c) (fd_l_take c).kp (bd_l_take c) .nil pass0 (pa_cons (pv 0) (pa_cons pe_int pa_nil))) pa_nil))))))
      (pss_cons (ps_par (i := 3) (j := 4) rfl sc_l_word.nd rfl rfl (by decide) rfl rfl (pa_cons (pe_call (ok_l_take c) (hr.mono (by decide)) rfl (mg_l_take c) (fd_l_take c).kp (bd_l_take c) .nil pass0 (pa_cons (pv 0) (pa_cons (pe_op op_add (pv 1) pe_int) pa_nil))) (pa_cons (pe_ix ix_str pe_str (pe_call (ok_l_take c) (hr.mono (by decide)) rfl (mg_l_take c) (fd_l_take c).kp (bd_l_take c) .nil pass0 (pa_cons (pv 0) (pa_cons pe_int pa_nil))) (fun _ _ => rfl)) pa_nil)) rfl)
      (pss_one (ps_ret (pe_ix ix_list (pe_lst (pa_cons (pv 2) (pa_cons (pv 2) (pa_cons (pv 2) (pa_cons pe_str (pa_cons pe_str (pa_cons pe_str (pa_cons pe_str (pa_cons (pe_op op_add_str (pe_op op_add_str (pe_slice sl_str (pv 2) po_none (po_some (pv 3))) (pv 4)) (pe_slice sl_str (pv 2) (po_some (pv 3)) po_none)) (pa_cons (pe_op op_mul_str pe_str pe_int) pa_nil)))))))))) (pe_call (ok_l_take c) (hr.mono (by decide)) rfl (mg_l_take c) (fd_l_take c).kp (bd_l_take c) .nil pass0 (pa_cons (pv 0) (pa_cons pe_int pa_nil))) (fun _ _ => rfl))))))), ?_⟩
    walk_at "S"
    refine take_ hb (by omega) (by decide) (by decide) fun r1 H1 h01 hr1 b1 k1 => ?_
    walk_at "S"
    refine ⟨⟨_, rfl⟩, ?_⟩
    walk_at "S"
    refine ⟨_, rfl, by omega, by omega, ?_⟩
    intro D hD
    have nD := b1.ne hD
    have hD0 : H D = none := by
      rcases Option.eq_none_or_eq_some (H D) with z | ⟨o, z⟩
      · exact z
      · rw [k1 D o nD z] at hD
        cases hD
    refine lc_it walk_range (fun i H' => ∃ ss : List Str, H' D = some (.lst (ss.map V.str)) ∧ ss.length = i ∧ (∀ y ∈ ss, y.length ≤ 2) ∧ BoxAt (n + 1 + i) H' a ∧ Kp a H H') ?_ (fun _ _ _ _ => trivial) ?_ ?_
    · exact ⟨[], upd_same, rfl, fun y hy => absurd hy (List.not_mem_nil), b1.new hD, k1.new hD⟩
    · rintro i x H' _ hi ⟨ss, g1, g2, g3, g4, g5⟩ ⟨rfl, rfl⟩
      walk_at "S"
      refine ⟨rfl, ?_⟩
      walk_at "S"
      refine take_ g4 (by omega) (by decide) (by decide) fun r2 H2 h02 hr2 b2 k2 => ?_
      walk_at "S"
      refine ⟨_, rfl, ?_, ?_⟩
      · by_cases z : r2.natAbs = 0
        · rw [z]; decide
        · exact Nat.lt_of_lt_of_le ((Nat.log2_lt z).mpr (show r2.natAbs < 2 ^ 10 by omega)) (by decide)
      · refine ⟨ss.map V.str, k2 _ _ nD g1, ?_, ss ++ [Str.ofString (toString r2)], ?_, ?_, ?_, ?_, ?_⟩
        · rw [List.length_map]
          exact Nat.lt_of_lt_of_le (show ss.length < 1000 by omega) (by decide)
        · rw [upd_same, List.map_append]
          rfl
        · rw [List.length_append, g2]
          rfl
        · intro y hy
          rcases List.mem_append.mp hy with hy | hy
          · exact g3 y hy
          · rw [List.mem_singleton.mp hy]
            exact num_len h02 hr2
        · exact b2.wr nD.symm
        · exact (g5.trans k2).wr hD0 (k2 _ _ nD g1)
    · rintro H' ⟨ss, g1, g2, g3, g4, g5⟩
      obtain ⟨e1, e2⟩ := join_le g3
      refine ⟨_, D, ss, rfl, rfl, .inl (SqL.of g1), ?_, ?_⟩
      · have e3 : (Str.ofString "").length = 0 := by decide +kernel
        rw [e3]
        omega
      · generalize Txt.join (Str.ofString "") ss = z at e1 ⊢
        have hz : z.length ≤ 30 := by omega
        have hzl : z.length ≤ sizeLine := Nat.le_trans hz (by decide)
        walk_at "S"
        refine take_ (n := n + 13) (g4.mono (by omega)) (by omega) (by omega) (by omega) fun r3 H3 h03 hr3 b3 k3 => ?_
        walk_at "S"
        refine take_ b3 (by omega) (by decide) (by decide) fun r4 H4 h04 hr4 b4 k4 => ?_
        refine i_menuS (by decide +kernel) h04 (by exact hr4) fun sg hsg => ?_
        walk_at "S"
        have sl : sizeLine = 16777216 := sizeLine_eq
        have l1 := cut_len z none (some r3)
        have l2 := cut_len z (some r3) none
        have l3 : (⟨#[sg]⟩ : Str).length = 1 := rfl
        refine i_slS hzl ?_
        walk_at "S"
        refine ⟨by omega, ?_⟩
        walk_at "S"
        refine i_slS hzl ?_
        walk_at "S"
        have l4 := strLen_append (cutS z none (some r3)) ⟨#[sg]⟩
        have l5 := strLen_append (cutS z none (some r3) ++ ⟨#[sg]⟩) (cutS z (some r3) none)
        refine ⟨by omega, ?_⟩
        walk_at "S"
        refine ⟨_, 4000, rfl, rfl, by decide, by decide, by decide +kernel, by decide +kernel, ?_⟩
        walk_at "S"
        refine ⟨few, fun q hq => ?_⟩
        walk_at "S"
        have nq := b4.ne hq
        refine take_ (b4.new hq) (by omega) (by decide) (by decide) fun r5 H5 h05 hr5 b5 k5 => ?_
        refine i_menuL (SqL.of (by walk_at "hp")) h05 (by exact hr5) fun v hv => ?_
        have kp5 : Kp a H H5 := ((g5.trans k3).trans (k4.new hq)).trans k5
        have fin : ∀ y : Str, y.length ≤ 5000 → Q (.str y) H5 := fun y hy => k y H5 (b5.mono (by omega)) kp5 hy
        simp only [List.mem_cons, List.not_mem_nil, or_false] at hv
        rcases hv with rfl | rfl | rfl | rfl | rfl | rfl | rfl | rfl | rfl
        all_goals first
          | exact fin _ (by omega)
          | exact fin _ (by decide +kernel)
end

end K02
namespace K02
open PySem PySem.Spec PyProof.Rows L2 G
def sp_law (K : PySem.W.Frag) : Sp := fun vs H Q _ => ∃ (a : Addr) (ns : List Int), vs = [.ref a] ∧ SqL K H a (ns.map V.int) ∧ ns.length ≤ 63 ∧ ∀ H', Q (.bl true) H'
theorem un1 {k : Nat} {A : Around} (r : Room k A) : A.units + 1 < cLine := by
  have := r.units
  omega
/-- both ways lead to values of one kind -/
theorem i_two {c : Prop} [Decidable c] {ta tb : TE} {σ : L2.St} {H : Hp} {Q : VK} (R : V → Hp → Prop) (h : ∀ Q' : VK, (∀ v H', R v H' → Q' v H') → if c then ta σ H Q' else tb σ H Q') (k : ∀ v H', R v H' → Q v H') : if c then ta σ H Q else tb σ H Q := h Q k
theorem dval_lt {l : List Nat} (h : NumText.AllDigits l) : ∀ i, i ≤ l.length → NumText.digitsVal (l.take i) < 10 ^ i := by
  intro i
  induction i with
  | zero => intro _; exact (show 0 < 1 by decide)
  | succ i ih =>
    intro hi
    have hc : l[i]? = some l[i] := List.getElem?_eq_getElem hi
    rw [take_get hc, dval_add]
    have q := ih (by omega)
    have d := h l[i] (List.getElem_mem hi)
    rw [Nat.pow_succ]
    have e1 : l[i] - 48 ≤ 9 := by omega
    omega
/-- the number of a word -/
theorem parse_num {z : Str} {lo hi : Int} (h0 : 0 ≤ lo) : parseV (.str z) lo hi = .non ∨ ∃ n : Int, parseV (.str z) lo hi = .int n ∧ 0 ≤ n ∧ n ≤ 999999999 := by
  by_cases h : parseOk z
  · rw [parseV_yes h]
    split
    · refine .inr ⟨_, rfl, by omega, ?_⟩
      have q := dval_lt (dig_all h.2.2.2) z.cps.toList.length (Nat.le_refl _)
      rw [List.take_length] at q
      have e : z.cps.toList.length ≤ 9 := h.2.1
      have q2 : NumText.digitsVal z.cps.toList < 10 ^ 9 := Nat.lt_of_lt_of_le q (Nat.pow_le_pow_right (by decide) e)
      omega
    · exact .inl rfl
  · exact .inl (parseV_no h)
/-- the plain data of what a word gives -/
def pd : V → PyData
  | .int i => .int i
  | _ => .none
theorem pd_dq {K : PySem.W.Frag} {H : Hp} {z : Str} {lo gr : Int} (h0 : 0 ≤ lo) : Dq K H (parseV (.str z) lo gr) (pd (parseV (.str z) lo gr)) := by
  rcases parse_num (z := z) (hi := gr) h0 with e | ⟨n, e, _, _⟩ <;> rw [e]
  · exact .non
  · exact .int n
theorem pd_ok {z : Str} {lo gr : Int} (h0 : 0 ≤ lo) : Okd 42 0 (pd (parseV (.str z) lo gr)) := by
  rcases parse_num (z := z) (hi := gr) h0 with e | ⟨n, e, _, _⟩ <;> rw [e]
  · exact Okd.none.mono (by decide) (by decide)
  · exact (Okd.int (show n.natAbs < 10 ^ 40 by omega)).mono (by decide) (by decide)
theorem fd_ok {z : Str} {lo gr : Int} (h0 : 0 ≤ lo) : Okd 16000000 60 (.list [.str "found", pd (parseV (.str z) lo gr)]) := (Okd.list (n := 52) (k := 0) fun d hd => by
  simp only [List.mem_cons, List.not_mem_nil, or_false] at hd
  rcases hd with rfl | rfl
  · exact (Okd.str (n := 5) (show ∀ c ∈ (Str.ofString "found").cps.toList, c < 1114112 by decide +kernel) (by decide +kernel)).mono (by decide) (by decide)
  · exact (pd_ok h0).mono (by decide) (by decide)).sm
theorem isI_yes {lo : Int} (h0 : 0 ≤ lo) (h1 : lo ≤ 999999999) : isI (.int lo) 0 999999999 = true := by
  show (decide (0 ≤ lo) && decide (lo ≤ 999999999)) = true
  rw [decide_eq_true h0, decide_eq_true h1]
  rfl
theorem found_ok {z : Str} {lo gr : Int} {H : Hp} {Q : VK} {E : XK} (hz : z.length ≤ 5000) (h0 : 0 ≤ lo) (h1 : lo ≤ 999999999) (g0 : 0 ≤ gr) (g1 : gr ≤ 999999999) (q : ∀ H' p, Same H H' → H p = none → H' p = some (.lst [.str "found", parseV (.str z) lo gr]) → Q (.ref p) H') : sp_l_found [.str z, .int lo, .int gr] H Q E := by
  refine ⟨.str z, .int lo, .int gr, "str", "int", "int", rfl, .str z, .int lo, .int gr, Nat.le_trans hz (by decide), ?_, fun h => ?_, fun _ h => ?_⟩
  · rintro lo' hi' e1 e2 _ _
    cases e1
    cases e2
    exact q
  · rw [isI_yes h0 h1] at h
    cases h
  · rw [isI_yes g0 g1] at h
    cases h
theorem parse_ok {C : Addr} {v : V} {T : String} {lo gr : Int} {H : Hp} {Q : VK} {E : XK} (kd : Kd H v T) (fv : fitV v) (h0 : 0 ≤ lo) (h1 : lo ≤ 999999999) (g0 : 0 ≤ gr) (g1 : gr ≤ 999999999) (q : ∀ H', Same H H' → Q (parseV v lo gr) H') : sp_parse_integer C [v, .int lo, .int gr] H Q E := by
  refine ⟨v, .int lo, .int gr, T, "int", "int", rfl, kd, .int lo, .int gr, fv, ?_, fun h => ?_, fun _ h => ?_⟩
  · rintro lo' hi' e1 e2 _ _
    cases e1
    cases e2
    exact q
  · rw [isI_yes h0 h1] at h
    cases h
  · rw [isI_yes g0 g1] at h
    cases h
theorem kd_ne {H : Hp} {v : V} {T : String} {a : Addr} (k : Kd H v T) (h : H a = none) : v ≠ .ref a := by
  rintro rfl
  cases k with
  | lst e => rw [h] at e; cases e
  | tup e => rw [h] at e; cases e
  | dct e => rw [h] at e; cases e
theorem same_txt {x : V} {c : Bool} (h : c = decide (x = x)) : (!c) = false := by rw [h, decide_eq_true rfl]; rfl
/-- a value that is no limit, after n turns -/
inductive Bad (n : Nat) (H : Hp) : V → PyData → Prop
  | non : Bad n H .non .none
  | int (i : Int) (h : isI (.int i) 0 999999999 = false) (hl : i.natAbs < 10 ^ 40) : Bad n H (.int i) (.int i)
  | bl (b : Bool) : Bad n H (.bl b) (.bool b)
  | str : Bad n H (.str "0") (.str "0")
  | lst {a : Addr} (e : H a = some (.lst (.int 0 :: List.replicate n (.str "more")))) : Bad n H (.ref a) (.list (.int 0 :: List.replicate n (.str "more")))
  | tup {a : Addr} (e : H a = some (.tup [])) : Bad n H (.ref a) (.tuple [])
  | dct0 {a : Addr} (e : H a = some (.dK [])) : Bad n H (.ref a) (.dict [])
  | dct1 {a : Addr} (e : H a = some (.dK [(Sum.inr "more", .int 1)])) : Bad n H (.ref a) (.dict [(.str "more", .int 1)])
theorem Bad.kd {n : Nat} {H : Hp} {v : V} {d : PyData} (b : Bad n H v d) : ∃ T, Kd H v T := by
  cases b with
  | non => exact ⟨_, .non⟩
  | int i => exact ⟨_, .int i⟩
  | bl b => exact ⟨_, .bl b⟩
  | str => exact ⟨_, .str _⟩
  | lst e => exact ⟨_, .lst e⟩
  | tup e => exact ⟨_, .tup e⟩
  | dct0 e => exact ⟨_, .dct e⟩
  | dct1 e => exact ⟨_, .dct e⟩
theorem Bad.no {n : Nat} {H : Hp} {v : V} {d : PyData} (b : Bad n H v d) : isI v 0 999999999 = false := by
  cases b with
  | int i h => exact h
  | _ => rfl
/-- where the value's address stands as it stood, the value does -/
theorem Bad.to {n : Nat} {H H' : Hp} {v : V} {d : PyData} (b : Bad n H v d) (s : ∀ a o, v = .ref a → H a = some o → H' a = some o) : Bad n H' v d := by
  cases b with
  | non => exact .non
  | int i h hl => exact .int i h hl
  | bl b => exact .bl b
  | str => exact .str
  | lst e => exact .lst (s _ _ rfl e)
  | tup e => exact .tup (s _ _ rfl e)
  | dct0 e => exact .dct0 (s _ _ rfl e)
  | dct1 e => exact .dct1 (s _ _ rfl e)
theorem rep_dq {K : PySem.W.Frag} {H : Hp} : ∀ n : Nat, DqAll K H (List.replicate n (.str "more")) (List.replicate n (.str "more"))
  | 0 => .nil
  | n + 1 => .cons (.str _) (rep_dq n)
theorem Bad.dq {K : PySem.W.Frag} {n : Nat} {H : Hp} {v : V} {d : PyData} (b : Bad n H v d) : Dq K H v d := by
  cases b with
  | non => exact .non
  | int i h hl => exact .int i
  | bl b => exact .bl b
  | str => exact .str _
  | lst e => exact .lstH e (.cons (.int 0) (rep_dq n))
  | tup e => exact .tupH e .nil
  | dct0 e => exact Dq.dct (kvs := []) (ds := []) (Rd.of e) rfl (fun i q d h => by simp at h)
  | dct1 e => exact Dq.dct (kvs := [(Sum.inr "more", .int 1)]) (ds := [.int 1]) (Rd.of e) rfl (fun i q d h1 h2 => by
      cases i with
      | zero =>
        simp at h1 h2
        subst h1 h2
        exact .int 1
      | succ i => simp at h1)
theorem more_ok : Okd 62 0 (.str "more") := (Okd.str (n := 4) (show ∀ c ∈ (Str.ofString "more").cps.toList, c < 1114112 by decide +kernel) (by decide +kernel)).mono (by decide) (by decide)
theorem num_ok {i : Int} (h : i.natAbs < 10 ^ 40) : Okd 62 0 (.int i) := (Okd.int h).mono (by decide) (by decide)
theorem Bad.ok {n : Nat} {H : Hp} {v : V} {d : PyData} (b : Bad n H v d) (hn : n ≤ 3) : Okd 1000 1 d := by
  cases b with
  | non => exact Okd.none.mono (by decide) (by decide)
  | int i h hl => exact (num_ok hl).mono (by decide) (by decide)
  | bl b => exact (Okd.bool b).mono (by decide) (by decide)
  | str => exact (Okd.str (n := 1) (show ∀ c ∈ (Str.ofString "0").cps.toList, c < 1114112 by decide +kernel) (by decide +kernel)).mono (by decide) (by decide)
  | lst e =>
    refine (Okd.list (n := 62) (k := 0) fun d hd => ?_).mono ?_ (by decide)
    · rcases List.mem_cons.mp hd with rfl | hd
      · exact num_ok (by decide)
      · rw [List.eq_of_mem_replicate hd]
        exact more_ok
    · rw [List.length_cons, List.length_replicate]
      omega
  | tup e => exact (Okd.tuple (n := 0) (k := 0) (ds := []) fun d hd => absurd hd List.not_mem_nil).mono (by decide) (by decide)
  | dct0 e => exact (Okd.dict (n := 0) (k := 0) (kvs := []) fun d hd => absurd hd List.not_mem_nil).mono (by decide) (by decide)
  | dct1 e => exact (Okd.dict (n := 62) (k := 0) (kvs := [(.str "more", .int 1)]) fun q hq => by
      rw [List.mem_singleton.mp hq]
      exact ⟨more_ok, num_ok (by decide)⟩).mono (by decide) (by decide)
theorem Bad.lim {n : Nat} {H : Hp} {v : V} {d : PyData} (b : Bad n H v d) (hn : n ≤ 3) : Okd 16000000 60 (.list [.str "limit", d]) := (Okd.list (n := 1000) (k := 1) fun x hx => by
  simp only [List.mem_cons, List.not_mem_nil, or_false] at hx
  rcases hx with rfl | rfl
  · exact (Okd.str (n := 5) (show ∀ c ∈ (Str.ofString "limit").cps.toList, c < 1114112 by decide +kernel) (by decide +kernel)).mono (by decide) (by decide)
  · exact b.ok hn).sm
theorem limit_ok {v l h u : V} {T1 T2 T3 : String} {H : Hp} {Q : VK} {E : XK} (kv : Kd H v T1) (fv : fitV v) (kl : Kd H l T2) (kh : Kd H h T3) (c : (isI l 0 999999999 = false ∧ u = l) ∨ (isI l 0 999999999 = true ∧ isI h 0 999999999 = false ∧ u = h))
    (q : ∀ H' p, Same H H' → H p = none → H' p = some (.lst [.str "limit", u]) → Q (.ref p) H') : sp_l_found [v, l, h] H Q E := by
  rcases c with ⟨c1, rfl⟩ | ⟨c1, c2, rfl⟩
  · refine ⟨v, u, h, T1, T2, T3, rfl, kv, kl, kh, fv, ?_, fun _ => q, fun x => ?_⟩
    · rintro lo' hi' e1 e2 x _
      rw [c1] at x
      cases x
    · rw [c1] at x
      cases x
  · refine ⟨v, l, u, T1, T2, T3, rfl, kv, kl, kh, fv, ?_, fun x => ?_, fun _ _ => q⟩
    · rintro lo' hi' e1 e2 _ x
      rw [c2] at x
      cases x
    · rw [c1] at x
      cases x

end K02
namespace K02
open PySem PySem.Spec PyProof.Rows L2 G
section
variable {K : PySem.W.Frag} {mg : Str → Option Value}
theorem kb_parse_integer_0_text (c : Hd fa fn ex xs K mg) : KBx K (fdOf K (a_parse_integer K)) P_parse_integer 0 ["text"] (gp3 [0, 1, 2] (([("low", .int 0), ("high", .int 999999)] : List (Str × V)).map (·.2))) := (kbn_kw (ps := P_parse_integer) (fd_parse_integer c) (by simp) 0 ["text"] [("low", .int 0), ("high", .int 999999)] [0, 1, 2] (by simp) fun _ _ _ _ _ _ us mv ws h1 h2 h3 => match us, h1, mv, h2, ws, h3 with | [], _, [_, _], _, [_], _ => ⟨_, _, _, _, _, _, rfl, rfl, ⟨_, _, _, _, _, _, rfl, rfl, rfl⟩⟩).elim fun mv h => ⟨_, h⟩
theorem kb_parse_integer_1_low (c : Hd fa fn ex xs K mg) : KBx K (fdOf K (a_parse_integer K)) P_parse_integer 1 ["low"] (gp3 [0, 1, 2] (([("high", .int 999999)] : List (Str × V)).map (·.2))) := (kbn_kw (ps := P_parse_integer) (fd_parse_integer c) (by simp) 1 ["low"] [("high", .int 999999)] [0, 1, 2] (by simp) fun _ _ _ _ _ _ us mv ws h1 h2 h3 => match us, h1, mv, h2, ws, h3 with | [_], _, [_], _, [_], _ => ⟨_, _, _, _, _, _, rfl, rfl, rfl⟩).elim fun mv h => ⟨_, h⟩
theorem kb_parse_integer_1_ (c : Hd fa fn ex xs K mg) : KBx K (fdOf K (a_parse_integer K)) P_parse_integer 1 [] (gp3 [0, 1, 2] (([("low", .int 0), ("high", .int 999999)] : List (Str × V)).map (·.2))) := (kbn_kw (ps := P_parse_integer) (fd_parse_integer c) (by simp) 1 [] [("low", .int 0), ("high", .int 999999)] [0, 1, 2] (by simp) fun _ _ _ _ _ _ us mv ws h1 h2 h3 => match us, h1, mv, h2, ws, h3 with | [_], _, [_, _], _, [], _ => ⟨_, _, _, _, _, _, rfl, rfl, ⟨_, _, _, _, _, _, rfl, rfl, rfl⟩⟩).elim fun mv h => ⟨_, h⟩
end
theorem seq2_nx {t1 t2 u : TS} {D : Ends} {σ : L2.St} {H : Hp} (P : Hp → Prop) (k : ∀ Hn, P Hn → u D σ Hn) (q : ∀ N : L2.St → Hp → Prop, (∀ Hn, P Hn → N σ Hn) → t1 { D with nx := t2 { D with nx := N } } σ H) : tSeq t1 (tSeq t2 u) D σ H := q (u D) k
theorem i_dput {i : Nat} {a : Addr} {kvs : List (Key × V)} {k : Key} {v : V} {D : Ends} {σ : L2.St} {H : Hp} (hv : σ[i]? = some (some (.ref a))) (e : H a = some (.dK kvs)) (hl : kvs.length < sizeLine) (q : D.nx σ (upd H a (.dK (putK kvs k v)))) : sDPut (tVar i) (tC (kV k)) (tC v) D σ H := ⟨_, hv, a, _, rfl, DPut.k e hl, q⟩
theorem kd_to {H H' : Hp} {v : V} {T : String} (k : Kd H v T) (s : ∀ a o, v = .ref a → H a = some o → H' a = some o) : Kd H' v T := by
  cases k with
  | non => exact .non
  | bl b => exact .bl b
  | int i => exact .int i
  | str x => exact .str x
  | lst e => exact .lst (s _ _ rfl e)
  | tup e => exact .tup (s _ _ rfl e)
  | dct e => exact .dct (s _ _ rfl e)
theorem Bad.nt {n : Nat} {H : Hp} {v : V} {d : PyData} {q : Addr} {x : V} {xs : List V} (b : Bad n H v d) (h : H q = some (.tup (x :: xs))) : v ≠ .ref q := by
  rintro rfl
  cases b with
  | lst e => rw [h] at e; cases e
  | tup e => rw [h] at e; cases e
  | dct0 e => rw [h] at e; cases e
  | dct1 e => rw [h] at e; cases e
theorem Bad.nl {n : Nat} {H : Hp} {v : V} {d : PyData} {q : Addr} {x : V} {xs : List V} (b : Bad n H v d) (h : H q = some (.lst (x :: xs))) (hx : x ≠ .int 0) : v ≠ .ref q := by
  rintro rfl
  cases b with
  | lst e => rw [h] at e; exact hx (List.cons.inj (HO.lst.inj (Option.some.inj e))).1
  | tup e => rw [h] at e; cases e
  | dct0 e => rw [h] at e; cases e
  | dct1 e => rw [h] at e; cases e
theorem cmp_bad {K : PySem.W.Frag} {D : Ends} {σ : L2.St} {H : Hp} {bad : V} {d : PyData} {pf : Addr} {n : Nat} {tr : TS} (e10 : σ[10]? = some (some bad)) (e13 : σ[13]? = some (some (.ref pf))) (b : Bad n H bad d) (hn : n ≤ 3) (g : H pf = some (.lst [.str "limit", bad]))
    (k : ∀ q, H q = none → D.nx σ (upd H q (.lst [.str "limit", bad]))) :
    tIfS (tTest (tOp rNe (tCB (rRepr K) (tCons (tVar 13) tNil)) (tCB (rRepr K) (tCons (tLst (tCons (tC (V.str (Str.ofString "limit"))) (tCons (tVar 10) tNil))) tNil)))) tr tNext D σ H := by
  walk_at "S"
  refine i_var e13 ?_
  walk_at "S"
  refine i_repr (.lstH g (.cons (.str _) (.cons b.dq .nil))) (b.lim hn) ?_
  walk_at "S"
  refine i_var e10 ?_
  walk_at "S"
  refine ⟨few, fun q6 j6 => ?_⟩
  walk_at "S"
  have b2 : Bad n (upd H q6 (.lst [.str "limit", bad])) bad d := b.to fun q o _ hh => old hh j6
  refine i_repr (.lstH upd_same (.cons (.str _) (.cons b2.dq .nil))) (b2.lim hn) ?_
  walk_at "S"
  refine i_isF (same_txt rfl) ?_
  exact k q6 j6
theorem mut_bad {K : PySem.W.Frag} {D : Ends} {σ : L2.St} {H : Hp} {bad : V} {d : PyData} {n : Nat} {u : TS} (e10 : σ[10]? = some (some bad)) (b : Bad n H bad d) (hn : n ≤ 3)
    (k : ∀ Hn d', Bad (n + 1) Hn bad d' → (∀ q o, bad ≠ .ref q → H q = some o → Hn q = some o) → u D σ Hn) :
    tSeq (tIfS (tB (tCB (rIsi K) (tCons (tVar 10) (tCons (tC (V.ty "list")) tNil)))) (tDrop (tBM K "list" rAppend (tVar 10) (tCons (tC (V.str (Str.ofString "more"))) tNil))) tNext)
      (tSeq (tIfS (tB (tCB (rIsi K) (tCons (tVar 10) (tCons (tC (V.ty "dict")) tNil)))) (sDPut (tVar 10) (tC (V.str (Str.ofString "more"))) (tC (V.int 1))) tNext) u) D σ H := by
  have no : ∀ {T : String}, Kd H bad T → kitB T "list" = some false → kitB T "dict" = some false → Bad (n + 1) H bad d → tSeq (tIfS (tB (tCB (rIsi K) (tCons (tVar 10) (tCons (tC (V.ty "list")) tNil)))) (tDrop (tBM K "list" rAppend (tVar 10) (tCons (tC (V.str (Str.ofString "more"))) tNil))) tNext)
      (tSeq (tIfS (tB (tCB (rIsi K) (tCons (tVar 10) (tCons (tC (V.ty "dict")) tNil)))) (sDPut (tVar 10) (tC (V.str (Str.ofString "more"))) (tC (V.int 1))) tNext) u) D σ H := by
    intro T kd h1 h2 b2
    walk_at "S"
    refine i_var e10 ?_
    walk_at "S"
    refine i_isi kd h1 ?_
    walk_at "S"
    refine i_var e10 ?_
    walk_at "S"
    refine i_isi kd h2 ?_
    walk_at "S"
    exact k _ _ b2 fun _ _ _ h => h
  cases b with
  | non => exact no .non (by decide +kernel) (by decide +kernel) .non
  | int i h hl => exact no (.int _) (by decide +kernel) (by decide +kernel) (.int i h hl)
  | bl b => exact no (.bl _) (by decide +kernel) (by decide +kernel) (.bl b)
  | str => exact no (.str _) (by decide +kernel) (by decide +kernel) .str
  | tup e => exact no (.tup e) (by decide +kernel) (by decide +kernel) (.tup e)
  | lst e =>
    walk_at "S"
    refine i_var e10 ?_
    walk_at "S"
    refine i_isi (b := true) (.lst e) (by decide +kernel) ?_
    walk_at "S"
    refine ⟨_, e10, .inl ⟨rfl, _, SqL.of e⟩, ?_⟩
    walk_at "S"
    refine ⟨_, _, _, rfl, rfl, e, ?_, ?_⟩
    · rw [List.length_cons, List.length_replicate]
      exact Nat.lt_of_le_of_lt (show n + 1 ≤ 4 by omega) (by decide)
    walk_at "S"
    refine i_var e10 ?_
    walk_at "S"
    refine i_isi (b := false) (.lst upd_same) (by decide +kernel) ?_
    walk_at "S"
    refine k _ _ (.lst (by rw [upd_same, List.cons_append, ← List.replicate_succ'])) fun q o hq h => ?_
    exact oldw (fun z => hq (by rw [z])) h
  | dct0 e =>
    walk_at "S"
    refine i_var e10 ?_
    walk_at "S"
    refine i_isi (b := false) (.dct e) (by decide +kernel) ?_
    walk_at "S"
    refine i_var e10 ?_
    walk_at "S"
    refine i_isi (b := true) (.dct e) (by decide +kernel) ?_
    walk_at "S"
    refine i_dput (k := Sum.inr "more") e10 e (by decide) ?_
    exact k _ _ (.dct1 (by rw [upd_same]; rfl)) fun q o hq h => oldw (fun z => hq (by rw [z])) h
  | dct1 e =>
    walk_at "S"
    refine i_var e10 ?_
    walk_at "S"
    refine i_isi (b := false) (.dct e) (by decide +kernel) ?_
    walk_at "S"
    refine i_var e10 ?_
    walk_at "S"
    refine i_isi (b := true) (.dct e) (by decide +kernel) ?_
    walk_at "S"
    refine i_dput (k := Sum.inr "more") e10 e (by decide) ?_
    exact k _ _ (.dct1 (by rw [upd_same]; rfl)) fun q o hq h => oldw (fun z => hq (by rw [z])) h
section
variable {w : World} {K : PySem.W.Frag} {mg : Str → Option Value} {base : Heap}
theorem ok_law (c : Hd fa fn ex xs K mg) : FnG P w K mg base CX0 8 (a_law K) (fdOf K (a_law K)) P_law (sp_law K) := by
  refine fnG (fd_law c) sc_law (fun vs H Q E h => ?_) (fun cdv A outer s H vs Q E cl hr h => ?_)
  · obtain ⟨a, ns, rfl, _⟩ := h
    rfl
  · obtain ⟨a, ns, rfl, hS, hlen, k⟩ := h
    refine ⟨_, PSs.nox (pss_cons (ps_for PassesOwn.never rfl (pi_range1 rfl (fr_range c) (pa_cons (pe_callB (call_max2 rfl) rfl (fr_max c) (by decide +kernel) (pa_cons pe_int (pa_cons (pe_callB (call_min2 rfl) rfl (fr_min c) (by decide +kernel) (pa_cons pe_int (pa_cons (pe_callB call_len rfl (fr_len c) (by decide +kernel) (pa_cons (pv 0) pa_nil)) pa_nil))) pa_nil))) pa_nil)) (pg_name (i := 1) sc_law.nd rfl (Or.inl rfl)) (pss_cons (ps_set (i := 2) sc_law.nd rfl (Or.inl rfl) (pe_call (ok_l_box c) (hr.mono (by decide)) rfl (mg_l_box c) (fd_l_box c).kp (bd_l_box c) .nil pass0 (pa_cons (pe_call (ok_l_cell c) (hr.mono (by decide)) rfl (mg_l_cell c) (fd_l_cell c).kp (bd_l_cell c) .nil pass0 (pa_cons (pv 0) (pa_cons (pv 1) pa_nil))) pa_nil)))
      (pss_one (ps_for PassesOwn.never rfl (pi_range1 rfl (fr_range c) (pa_cons pe_int pa_nil)) (pg_name (i := 3) sc_law.nd rfl (Or.inl rfl)) (pss_cons (ps_set (i := 4) sc_law.nd rfl (Or.inl rfl) (pe_call (ok_l_word c) (hr.mono (by decide)) rfl (mg_l_word c) (fd_l_word c).kp (bd_l_word c) .nil pass0 (pa_cons (pv 2) pa_nil)))
      (pss_cons (ps_set (i := 5) sc_law.nd rfl (Or.inl rfl) (pe_call (ok_l_due c) (hr.mono (by decide)) rfl (mg_l_due c) (fd_l_due c).kp (bd_l_due c) .nil pass0 (pa_cons (pv 4) (pa_cons pe_int (pa_cons (pe_op op_pow pe_int pe_int) pa_nil)))))
      (pss_cons (ps_set (i := 6) sc_law.nd rfl (Or.inl rfl) (pe_ifExp (pt_cmpR op_notN (pv 5) pe_non (nomark _)) (pv 5) (pe_call (ok_l_take c) (hr.mono (by decide)) rfl (mg_l_take c) (fd_l_take c).kp (bd_l_take c) .nil pass0 (pa_cons (pv 2) (pa_cons (pe_op op_pow pe_int pe_int) pa_nil)))))
      (pss_cons (ps_set (i := 7) sc_law.nd rfl (Or.inl rfl) (pe_ix ix_list (pe_lst (pa_cons pe_int (pa_cons (pv 6) (pa_cons (pe_callB (call_min2 rfl) rfl (fr_min c) (by decide +kernel) (pa_cons (pe_op op_sub (pe_op op_pow pe_int pe_int) pe_int) (pa_cons (pe_op op_add (pv 6) pe_int) pa_nil))) (pa_cons (pe_callB (call_max2 rfl) rfl (fr_max c) (by decide +kernel) (pa_cons pe_int (pa_cons (pe_op op_sub (pv 6) pe_int) pa_nil))) pa_nil))))) (pe_call (ok_l_take c) (hr.mono (by decide)) rfl (mg_l_take c) (fd_l_take c).kp (bd_l_take c) .nil pass0 (pa_cons (pv 2) (pa_cons pe_int pa_nil))) (fun _ _ => rfl)))
      (pss_cons (ps_set (i := 8) sc_law.nd rfl (Or.inl rfl) (pe_ix ix_list (pe_lst (pa_cons (pe_op op_sub (pe_op op_pow pe_int pe_int) pe_int) (pa_cons (pv 6) (pa_cons (pe_callB (call_max2 rfl) rfl (fr_max c) (by decide +kernel) (pa_cons pe_int (pa_cons (pe_op op_sub (pv 6) pe_int) pa_nil))) (pa_cons pe_int pa_nil))))) (pe_call (ok_l_take c) (hr.mono (by decide)) rfl (mg_l_take c) (fd_l_take c).kp (bd_l_take c) .nil pass0 (pa_cons (pv 2) (pa_cons pe_int pa_nil))) (fun _ _ => rfl)))
      (pss_cons (ps_if (pt_cmpR op_ne (pe_callB (call_reprD cl hr c.sys) rfl (fr_repr c) (by decide +kernel) (pa_cons (pe_call (ok_l_found c) (hr.mono (by decide)) rfl (mg_l_found c) (fd_l_found c).kp (bd_l_found c) .nil pass0 (pa_cons (pv 4) (pa_cons (pv 7) (pa_cons (pv 8) pa_nil)))) pa_nil)) (pe_callB (call_reprD cl hr c.sys) rfl (fr_repr c) (by decide +kernel) (pa_cons (pe_lst (pa_cons pe_str (pa_cons (pe_call (ok_l_due c) (hr.mono (by decide)) rfl (mg_l_due c) (fd_l_due c).kp (bd_l_due c) .nil pass0 (pa_cons (pv 4) (pa_cons (pv 7) (pa_cons (pv 8) pa_nil)))) pa_nil))) pa_nil)) (nomark _)) (pss_one (ps_ret pe_bl)) pss_nil)
      (pss_cons (ps_if (pt_cmpR op_ne (pe_callB (call_reprD cl hr c.sys) rfl (fr_repr c) (by decide +kernel) (pa_cons (pe_callU0 (ok_parse_integer c) (hr.mono (by decide)) rfl (mg_parse_integer c) (fd_parse_integer c).kp (kb_parse_integer_0_text c).choose_spec (fun σ => passAt takesN σ) (pk_cons (pv 4) pk_nil)) pa_nil)) (pe_callB (call_reprD cl hr c.sys) rfl (fr_repr c) (by decide +kernel) (pa_cons (pe_call (ok_l_due c) (hr.mono (by decide)) rfl (mg_l_due c) (fd_l_due c).kp (bd_l_due c) .nil pass0 (pa_cons (pv 4) (pa_cons pe_int (pa_cons pe_int pa_nil)))) pa_nil)) (nomark _)) (pss_one (ps_ret pe_bl)) pss_nil)
      (pss_cons (ps_if (pt_cmpR op_ne (pe_callB (call_reprD cl hr c.sys) rfl (fr_repr c) (by decide +kernel) (pa_cons (pe_callU (ok_parse_integer c) (hr.mono (by decide)) rfl (mg_parse_integer c) (fd_parse_integer c).kp (kb_parse_integer_1_low c).choose_spec (fun σ => passAt takesN σ) (pa_cons (pv 4) pa_nil) (pk_cons (pv 7) pk_nil)) pa_nil)) (pe_callB (call_reprD cl hr c.sys) rfl (fr_repr c) (by decide +kernel) (pa_cons (pe_call (ok_l_due c) (hr.mono (by decide)) rfl (mg_l_due c) (fd_l_due c).kp (bd_l_due c) .nil pass0 (pa_cons (pv 4) (pa_cons (pv 7) (pa_cons pe_int pa_nil)))) pa_nil)) (nomark _)) (pss_one (ps_ret pe_bl)) pss_nil)
      (pss_cons (ps_set (i := 9) sc_law.nd rfl (Or.inl rfl) (pe_ix ix_list (pe_lst (pa_cons pe_non (pa_cons pe_int (pa_cons pe_bl (pa_cons (pe_lst pa_nil) (pa_cons (pe_lst (pa_cons pe_str pa_nil)) (pa_cons (pe_tup (pa_cons pe_str pa_nil)) (pa_cons pe_dnewK (pa_cons (pe_disp (pps_cons pe_str pe_int pps_nil) (by rfl) (by rfl) (fun z => by cases z) (by decide)) (pa_cons (pe_un un_neg pe_int) (pa_cons (pe_op op_pow pe_int pe_int) pa_nil))))))))))) (pe_call (ok_l_take c) (hr.mono (by decide)) rfl (mg_l_take c) (fd_l_take c).kp (bd_l_take c) .nil pass0 (pa_cons (pv 2) (pa_cons pe_int pa_nil))) (fun _ _ => rfl)))
      (pss_cons (ps_if (pt_cmpR op_notN (pe_callU (ok_parse_integer c) (hr.mono (by decide)) rfl (mg_parse_integer c) (fd_parse_integer c).kp (kb_parse_integer_1_ c).choose_spec (fun σ => passAt takesN σ) (pa_cons (pv 9) pa_nil) pk_nil) pe_non (nomark _)) (pss_one (ps_ret pe_bl)) pss_nil)
      (pss_cons (ps_set (i := 10) sc_law.nd rfl (Or.inl rfl) (pe_ix ix_list (pe_lst (pa_cons pe_non (pa_cons (pe_un un_neg pe_int) (pa_cons (pe_op op_pow pe_int pe_int) (pa_cons (pe_op op_pow pe_int pe_int) (pa_cons pe_bl (pa_cons pe_str (pa_cons (pe_lst (pa_cons pe_int pa_nil)) (pa_cons (pe_tup pa_nil) (pa_cons pe_dnewK (pa_cons pe_bl pa_nil))))))))))) (pe_call (ok_l_take c) (hr.mono (by decide)) rfl (mg_l_take c) (fd_l_take c).kp (bd_l_take c) .nil pass0 (pa_cons (pv 2) (pa_cons pe_int pa_nil))) (fun _ _ => rfl)))
      (pss_one (ps_for PassesOwn.never rfl (pi_list (pe_lst (pa_cons (pe_tup (pa_cons (pv 10) (pa_cons (pv 8) pa_nil))) (pa_cons (pe_tup (pa_cons (pv 10) (pa_cons (pe_ix ix_list (pe_lst (pa_cons pe_non (pa_cons (pe_un un_neg pe_int) (pa_cons (pe_op op_add (pe_op op_pow pe_int pe_int) pe_int) pa_nil)))) (pe_call (ok_l_take c) (hr.mono (by decide)) rfl (mg_l_take c) (fd_l_take c).kp (bd_l_take c) .nil pass0 (pa_cons (pv 2) (pa_cons pe_int pa_nil))) (fun _ _ => rfl)) pa_nil))) (pa_cons (pe_tup (pa_cons (pv 7) (pa_cons (pv 10) pa_nil))) pa_nil))))) (pg_tup rfl (pgs_cons (pg_name (i := 11) sc_law.nd rfl (Or.inl rfl)) (pgs_cons (pg_name (i := 12) sc_law.nd rfl (Or.inl rfl)) pgs_nil))) (pss_cons (ps_set (i := 13) sc_law.nd rfl (Or.inl rfl) (pe_call (ok_l_found c) (hr.mono (by decide)) rfl (mg_l_found c) (fd_l_found c).kp (bd_l_found c) .nil pass0 (pa_cons (pe_ix ix_list (pe_lst (pa_cons (pv 4) (pa_cons (pv 9) pa_nil))) (pe_call (ok_l_take c) (hr.mono (by decide)) rfl (mg_l_take c) (fd_l_take c).kp (bd_l_take c) .nil pass0 (pa_cons (pv 2) (pa_cons pe_int pa_nil))) (fun _ _ => rfl)) (pa_cons (pv 11) (pa_cons (pv 12) pa_nil)))))
      (pss_cons (ps_if (pt_cmpR op_ne (pe_callB (call_reprD cl hr c.sys) rfl (fr_repr c) (by decide +kernel) (pa_cons (pv 13) pa_nil)) (pe_callB (call_reprD cl hr c.sys) rfl (fr_repr c) (by decide +kernel) (pa_cons (pe_lst (pa_cons pe_str (pa_cons (pv 10) pa_nil))) pa_nil)) (nomark _)) (pss_one (ps_ret pe_bl)) pss_nil)
      (pss_cons (ps_if (pt_val (pe_callB call_isi rfl (fr_isinstance c) (by decide +kernel) (pa_cons (pv 10) (pa_cons (pe_ty (T := "list") (fr_list c) (by decide +kernel)) pa_nil)))) (pss_one (ps_expr (pe_bm PySem.F.plainAttrs_list PySem.F.slot_list_append PySem.F.type_list_append mt_append (pv 10) (pa_cons pe_str pa_nil)))) pss_nil)
      (pss_cons (ps_if (pt_val (pe_callB call_isi rfl (fr_isinstance c) (by decide +kernel) (pa_cons (pv 10) (pa_cons (pe_ty (T := "dict") (fr_dict c) (by decide +kernel)) pa_nil)))) (pss_one (ps_dput (un1 hr) (pv 10) pe_str pe_int rfl)) pss_nil)
      (pss_one (ps_if (pt_cmpR op_ne (pe_callB (call_reprD cl hr c.sys) rfl (fr_repr c) (by decide +kernel) (pa_cons (pv 13) pa_nil)) (pe_callB (call_reprD cl hr c.sys) rfl (fr_repr c) (by decide +kernel) (pa_cons (pe_lst (pa_cons pe_str (pa_cons (pv 10) pa_nil))) pa_nil)) (nomark _)) (pss_one (ps_ret pe_bl)) pss_nil)))))))))))))))))))))))
      (pss_one (ps_ret pe_bl))), ?_⟩
    walk_at "S"
    refine ⟨_, _, rfl, .inl ⟨_, hS, rfl⟩, ?_⟩
    rw [List.length_map]
    walk_at "S"
    refine ⟨_, rfl, by split <;> split at * <;> omega, by split <;> split at * <;> omega, ?_⟩
    refine for_it walk_range (fun i σ H1 => ∃ v1 v2 v3 v4 v5 v6 v7 v8 v9 v10 v11 v12 v13 : Option V, σ = [some (.ref a), v1, v2, v3, v4, v5, v6, v7, v8, v9, v10, v11, v12, v13] ∧ Same H H1) ?_ (fun _ _ _ _ _ => trivial) ?_ ?_
    · exact ⟨none, none, none, none, none, none, none, none, none, none, none, none, none, rfl, Same.refl H⟩
    · rintro i x σ H1 _ hi ⟨v1, v2, v3, v4, v5, v6, v7, v8, v9, v10, v11, v12, v13, rfl, s1⟩ ⟨rfl, rfl⟩
      walk_at "S"
      refine ⟨a, ns, _, rfl, s1.seq hS, by omega, fun i0 => ?_⟩
      walk_at "S"
      refine ⟨i0, rfl, fun p o hp ho => ?_⟩
      walk_at "S"
      have hp0 : H p = none := s1.free hp
      refine ⟨10, rfl, by decide, by decide, ?_⟩
      refine for_it walk_range (fun i2 σ H2 => ∃ v3 v4 v5 v6 v7 v8 v9 v10 v11 v12 v13 : Option V, σ = [some (.ref a), some (.int (0 + i)), some (.ref p), v3, v4, v5, v6, v7, v8, v9, v10, v11, v12, v13] ∧ Same H H2 ∧ BoxAt (i2 * 60) H2 p) ?_ (fun _ _ _ _ _ => trivial) ?_ ?_
      · exact ⟨v3, v4, v5, v6, v7, v8, v9, v10, v11, v12, v13, rfl, G.Same.new s1 hp, .of (ho.mono (by omega))⟩
      · rintro i2 x σ H2 _ hi2 ⟨v3, v4, v5, v6, v7, v8, v9, v10, v11, v12, v13, rfl, s2, b2⟩ ⟨rfl, rfl⟩
        walk_at "S"
        refine ⟨p, _, rfl, b2, by omega, fun z H3 b3 k3 hz => ?_⟩
        walk_at "S"
        refine i_I ⟨by decide, by decide, by decide⟩ ?_
        walk_at "S"
        refine ⟨z, 0, _, rfl, hz, fun H4 s4 => ?_⟩
        walk_at "S"
        have b4 : BoxAt (i2 * 60 + 20) H4 p := b3.same s4
        have e4 : Same H H4 := (same_kp s2 hp0 k3).trans s4
        have pn := parse_num (z := z) (lo := 0) (hi := 10 ^ Int.toNat 9) (by decide)
        refine ⟨rfl, _, rfl, i_two (fun v H' => ∃ n : Int, v = .int n ∧ 0 ≤ n ∧ n ≤ 999999999 ∧ Same H H' ∧ BoxAt (i2 * 60 + 21) H' p) (fun Q' kk => ?_) ?_⟩
        · refine i_ite (fun c1 => ?_) (fun c1 => ?_)
          · walk_at "S"
            rcases pn with pn | ⟨n, pn, q0, q1⟩
            · rw [pn] at c1
              exact absurd c1 (by decide)
            · rw [pn]
              exact kk _ _ ⟨n, rfl, q0, q1, e4, b4.mono (by omega)⟩
          · walk_at "S"
            refine i_I ⟨by decide, by decide, by decide⟩ ?_
            walk_at "S"
            refine take_ b4 (by omega) (by decide) (by decide) fun r H5 h05 hr5 b5 k5 => ?_
            exact kk _ _ ⟨r, rfl, h05, by have e : ((10 : Int) ^ Int.toNat 9) = 1000000000 := rfl; omega, same_kp e4 hp0 k5, b5⟩
        rintro v H5 ⟨num, rfl, n0, n1, e5, b5⟩
        walk_at "S"
        generalize parseV (.str z) 0 (10 ^ Int.toNat 9) = du
        have te : ((10 : Int) ^ Int.toNat 9) = 1000000000 := rfl
        refine i_I ⟨by decide, by decide, by decide⟩ ?_
        rw [te]
        walk_at "S"
        refine ⟨few, fun q1 hq1 => ?_⟩
        walk_at "S"
        have nq1 := b5.ne hq1
        refine take_ (by walk_at "bx") (by omega) (by decide) (by decide) fun r1 H6 h06 hr6 b6 k6 => ?_
        refine i_menuL (SqL.of (by walk_at "hp")) h06 (by exact hr6) fun w1 hw1 => ?_
        obtain ⟨lo, rfl, lo0, lo1⟩ : ∃ s : Int, w1 = .int s ∧ 0 ≤ s ∧ s ≤ 999999999 := by
          simp only [List.mem_cons, List.not_mem_nil, or_false] at hw1
          rcases hw1 with rfl | rfl | rfl | rfl
          · exact ⟨_, rfl, by omega, by omega⟩
          · exact ⟨_, rfl, by omega, by omega⟩
          · refine ⟨_, rfl, ?_, ?_⟩ <;> split <;> omega
          · refine ⟨_, rfl, ?_, ?_⟩ <;> split <;> omega
        walk_at "S"
        refine i_I ⟨by decide, by decide, by decide⟩ ?_
        rw [te]
        walk_at "S"
        refine ⟨few, fun q2 hq2 => ?_⟩
        walk_at "S"
        have nq2 := b6.ne hq2
        refine take_ (by walk_at "bx") (by omega) (by decide) (by decide) fun r2 H7 h07 hr7 b7 k7 => ?_
        refine i_menuL (SqL.of (by walk_at "hp")) h07 (by exact hr7) fun w2 hw2 => ?_
        obtain ⟨gr, rfl, gr0, gr1⟩ : ∃ s : Int, w2 = .int s ∧ 0 ≤ s ∧ s ≤ 999999999 := by
          simp only [List.mem_cons, List.not_mem_nil, or_false] at hw2
          rcases hw2 with rfl | rfl | rfl | rfl
          · exact ⟨_, rfl, by omega, by omega⟩
          · exact ⟨_, rfl, by omega, by omega⟩
          · refine ⟨_, rfl, ?_, ?_⟩ <;> split <;> omega
          · exact ⟨_, rfl, by omega, by omega⟩
        have e7 : Same H H7 := by walk_at "sm"
        walk_at "S"
        have fz : z.length ≤ sizeLine := Nat.le_trans hz (by decide)
        refine found_ok hz lo0 lo1 gr0 gr1 fun H8 p8 s8 hp8 g8 => ?_
        walk_at "S"
        refine i_repr (.lstH g8 (.cons (.str _) (.cons (pd_dq lo0) .nil))) (fd_ok lo0) ?_
        walk_at "S"
        refine ⟨z, lo, gr, rfl, hz, fun H9 s9 => ?_⟩
        walk_at "S"
        refine ⟨few, fun q3 hq3 => ?_⟩
        walk_at "S"
        refine i_repr (.lstH upd_same (.cons (.str _) (.cons (pd_dq lo0) .nil))) (fd_ok lo0) ?_
        walk_at "S"
        refine i_isF (same_txt rfl) ?_
        walk_at "S"
        refine ⟨rfl, rfl, parse_ok (.str z) fz (by decide) (by decide) (by decide) (by decide) fun H10 s10 => ?_⟩
        walk_at "S"
        refine i_repr (pd_dq (by decide)) (pd_ok (by decide)).sm ?_
        walk_at "S"
        refine ⟨z, 0, 999999, rfl, hz, fun H11 s11 => ?_⟩
        walk_at "S"
        refine i_repr (pd_dq (by decide)) (pd_ok (by decide)).sm ?_
        walk_at "S"
        refine i_isF (same_txt rfl) ?_
        walk_at "S"
        refine ⟨rfl, rfl, parse_ok (.str z) fz lo0 lo1 (by decide) (by decide) fun H12 s12 => ?_⟩
        walk_at "S"
        refine i_repr (pd_dq lo0) (pd_ok lo0).sm ?_
        walk_at "S"
        refine ⟨z, lo, 999999, rfl, hz, fun H13 s13 => ?_⟩
        walk_at "S"
        refine i_repr (pd_dq lo0) (pd_ok lo0).sm ?_
        walk_at "S"
        refine i_isF (same_txt rfl) ?_
        walk_at "S"
        have b13 := ((((((b7.same s8).same s9).new (o := .lst [.str "found", parseV (.str z) lo gr]) hq3).same s10).same s11).same s12).same s13
        have e13 : Same H H13 := by walk_at "sm"
        refine ⟨few, fun p1 h1 => ?_⟩
        walk_at "S"
        refine ⟨few, fun p2 h2 => ?_⟩
        walk_at "S"
        refine ⟨few, fun p3 h3 => ?_⟩
        walk_at "S"
        refine i_dnew fun p4 h4 => ?_
        walk_at "S"
        refine i_disp1 (k := Sum.inr "1") rfl fun p5 h5 => ?_
        walk_at "S"
        refine i_I ⟨by decide, by decide, by decide +kernel⟩ ?_
        walk_at "S"
        refine ⟨few, fun p6 h6 => ?_⟩
        walk_at "S"
        have n1 := b13.ne h1
        have n2 := b13.ne (none_of h2)
        have n3 := b13.ne (none_of (none_of h3))
        have n4 := b13.ne (none_of (none_of (none_of h4)))
        have n5 := b13.ne (none_of (none_of (none_of (none_of h5))))
        have n6 := b13.ne (none_of (none_of (none_of (none_of (none_of h6)))))
        refine take_ (by walk_at "bx") (by omega) (by decide) (by decide) fun r3 H14 h03 hr3 b14 k14 => ?_
        refine i_menuL (SqL.of (by walk_at "hp")) h03 (by exact hr3) fun odd hodd => ?_
        obtain ⟨T, kdo, nso, npo⟩ : ∃ T, Kd H14 odd T ∧ (∀ z, odd ≠ .str z) ∧ odd ≠ .ref p := by
          simp only [List.mem_cons, List.not_mem_nil, or_false] at hodd
          rcases hodd with rfl | rfl | rfl | rfl | rfl | rfl | rfl | rfl | rfl | rfl
          · exact ⟨_, .non, nofun, nofun⟩
          · exact ⟨_, .int _, nofun, nofun⟩
          · exact ⟨_, .bl _, nofun, nofun⟩
          · exact ⟨_, .lst (by walk_at "hp"), nofun, fun h => n1 (V.ref.inj h)⟩
          · exact ⟨_, .lst (by walk_at "hp"), nofun, fun h => n2 (V.ref.inj h)⟩
          · exact ⟨_, .tup (by walk_at "hp"), nofun, fun h => n3 (V.ref.inj h)⟩
          · exact ⟨_, .dct (by walk_at "hp"), nofun, fun h => n4 (V.ref.inj h)⟩
          · exact ⟨_, .dct (by walk_at "hp"), nofun, fun h => n5 (V.ref.inj h)⟩
          · exact ⟨_, .int _, nofun, nofun⟩
          · exact ⟨_, .int _, nofun, nofun⟩
        have e14 : Same H H14 := by walk_at "sm"
        walk_at "S"
        have fo : fitV odd := by
          cases odd with
          | str z => exact absurd rfl (nso z)
          | _ => trivial
        refine ⟨rfl, rfl, parse_ok kdo fo (by decide) (by decide) (by decide) (by decide) fun H15 s15 => ?_⟩
        rw [parseV_non nso]
        walk_at "S"
        refine ⟨rfl, _, rfl, ?_⟩
        refine i_isF (by decide) ?_
        walk_at "S"
        refine i_I ⟨by decide, by decide, by decide⟩ ?_
        rw [te]
        walk_at "S"
        refine i_I ⟨by decide, by decide, by decide +kernel⟩ ?_
        walk_at "S"
        refine ⟨few, fun a1 g1 => ?_⟩
        walk_at "S"
        refine ⟨few, fun a2 g2 => ?_⟩
        walk_at "S"
        refine i_dnew fun a3 g3 => ?_
        walk_at "S"
        refine ⟨few, fun a4 g4 => ?_⟩
        walk_at "S"
        have b15 := b14.same s15
        have m1 := b15.ne g1
        have m2 := b15.ne (none_of g2)
        have m3 := b15.ne (none_of (none_of g3))
        have m4 := b15.ne (none_of (none_of (none_of g4)))
        refine take_ (by walk_at "bx") (by omega) (by decide) (by decide) fun r4 H16 h04 hr4 b16 k16 => ?_
        refine i_menuL (SqL.of (by walk_at "hp")) h04 (by exact hr4) fun bad hbad => ?_
        have e15 : Same H H15 := by walk_at "sm"
        obtain ⟨bd, hb⟩ : ∃ d, Bad 0 H16 bad d ∧ ∀ q, bad = .ref q → H15 q = none := by
          simp only [List.mem_cons, List.not_mem_nil, or_false] at hbad
          rcases hbad with rfl | rfl | rfl | rfl | rfl | rfl | rfl | rfl | rfl | rfl
          · exact ⟨_, .non, nofun⟩
          · exact ⟨_, .int _ (by decide) (by decide), nofun⟩
          · exact ⟨_, .int _ (by decide) (by decide), nofun⟩
          · exact ⟨_, .int _ (by decide +kernel) (by decide +kernel), nofun⟩
          · exact ⟨_, .bl _, nofun⟩
          · exact ⟨_, .str, nofun⟩
          · exact ⟨_, .lst (show H16 a1 = some (.lst [.int 0]) by walk_at "hp"), fun q hq => by cases hq; exact g1⟩
          · exact ⟨_, .tup (by walk_at "hp"), fun q hq => by cases hq; exact none_of g2⟩
          · exact ⟨_, .dct0 (by walk_at "hp"), fun q hq => by cases hq; exact none_of (none_of g3)⟩
          · exact ⟨_, .bl _, nofun⟩
        obtain ⟨hb, fb⟩ := hb
        have e16 : Same H H16 := by walk_at "sm"
        have ko16 : Kd H16 odd T := (((((kdo.same s15).same (same_new g1)).same (same_new g2)).same (same_new g3)).same (same_new g4)).kp npo k16
        walk_at "S"
        refine ⟨few, fun t1 j1 => ?_⟩
        walk_at "S"
        refine i_I ⟨by decide, by decide, by decide⟩ ?_
        rw [te]
        walk_at "S"
        refine ⟨few, fun q4 j4 => ?_⟩
        walk_at "S"
        have l1 := b16.ne j1
        have l4 := b16.ne (none_of j4)
        refine take_ (by walk_at "bx") (by omega) (by decide) (by decide) fun r5 H17 h05 hr5 b17 k17 => ?_
        refine i_menuL (SqL.of (by walk_at "hp")) h05 (by exact hr5) fun fr hfr => ?_
        obtain ⟨T5, kf⟩ : ∃ T, ∀ H, Kd H fr T := by
          simp only [List.mem_cons, List.not_mem_nil, or_false] at hfr
          rcases hfr with rfl | rfl | rfl
          · exact ⟨_, fun _ => .non⟩
          · exact ⟨_, fun _ => .int _⟩
          · exact ⟨_, fun _ => .int _⟩
        walk_at "S"
        refine ⟨few, fun t2 j2 => ?_⟩
        walk_at "S"
        refine ⟨few, fun t3 j3 => ?_⟩
        walk_at "S"
        refine ⟨few, fun L jL => ?_⟩
        have l2 := b17.ne j2
        have l3 := b17.ne (none_of j3)
        have l5 := b17.ne (none_of (none_of jL))
        refine ⟨_, rfl, ⟨_, SqL.of upd_same⟩, ?_⟩
        refine for_it (walk_listI (xs := [.ref t1, .ref t2, .ref t3])) (fun i3 σ H3 => ∃ v11 v12 v13 : Option V, σ = [some (.ref a), some (.int (0 + i)), some (.ref p), some (.int (0 + i2)), some (.str z), some du, some (.int num), some (.int lo), some (.int gr), some odd, some bad, v11, v12, v13] ∧ Same H H3 ∧ BoxAt (i2 * 60 + 30 + i3) H3 p ∧
          H3 L = some (.lst [.ref t1, .ref t2, .ref t3]) ∧ H3 t1 = some (.tup [bad, .int gr]) ∧ H3 t2 = some (.tup [bad, fr]) ∧ H3 t3 = some (.tup [.int lo, bad]) ∧ Kd H3 odd T ∧ ∃ d, Bad i3 H3 bad d) ?_ (fun _ _ _ _ h => ?_) ?_ ?_
        · refine ⟨_, _, _, rfl, ?_, ?_, upd_same, ?_, ?_, ?_, ?_, bd, ?_⟩
          · walk_at "sm"
          · exact BoxAt.mono (by walk_at "bx") (by omega)
          · walk_at "hp"
          · walk_at "hp"
          · walk_at "hp"
          · walk_at "kd"
          · refine hb.to fun q o hq h => ?_
            have nq : q ≠ p := fun z => b15.ne (fb q hq) z
            walk_at "hp"
        · obtain ⟨_, _, _, _, _, _, h, _⟩ := h
          exact SqL.of h
        · rintro i3 x σ _ H3 hi3 ⟨v11, v12, v13, rfl, e3, b3', gL, gt1, gt2, gt3, ko, d, bd⟩ ⟨rfl, y, hy, rfl⟩
          obtain ⟨Tb, kb⟩ := bd.kd
          have hi4 : i3 < 3 := hi3
          have fbp : bad ≠ .ref p := fun h => b15.ne (fb p h) rfl
          obtain ⟨t, sm, fa, T2, T3, rfl, ht, ks, kf2, nsm, nfa, cs⟩ : ∃ t sm fa T2 T3, x = .ref t ∧ H3 t = some (.tup [sm, fa]) ∧ Kd H3 sm T2 ∧ Kd H3 fa T3 ∧ sm ≠ .ref p ∧ fa ≠ .ref p ∧ ((isI sm 0 999999999 = false ∧ bad = sm) ∨ (isI sm 0 999999999 = true ∧ isI fa 0 999999999 = false ∧ bad = fa)) := by
            match i3, hi3, hy with
            | 0, _, hy => cases hy; exact ⟨t1, _, _, _, _, rfl, gt1, kb, .int _, fbp, nofun, .inl ⟨bd.no, rfl⟩⟩
            | 1, _, hy => cases hy; exact ⟨t2, _, _, _, _, rfl, gt2, kb, kf _, fbp, kd_ne (kf (fun _ => none)) rfl, .inl ⟨bd.no, rfl⟩⟩
            | 2, _, hy => cases hy; exact ⟨t3, _, _, _, _, rfl, gt3, .int _, kb, nofun, fbp, .inr ⟨isI_yes lo0 lo1, bd.no, rfl⟩⟩
          refine ⟨t, _, rfl, SqT.of ht, rfl, _, _, rfl, ?_⟩
          walk_at "S"
          refine ⟨_, _, rfl, ?_⟩
          walk_at "S"
          refine ⟨rfl, ?_⟩
          walk_at "S"
          refine ⟨few, fun q5 j5 => ?_⟩
          walk_at "S"
          have l6 := b3'.ne j5
          refine take_ (by walk_at "bx") (by omega) (by decide) (by decide) fun r6 H18 h06' hr6' b18 k18 => ?_
          refine i_menuL (SqL.of (by walk_at "hp")) h06' (by exact hr6') fun v hv => ?_
          have bd18 : Bad i3 H18 bad d := bd.to fun q o hq hh => k18 q o (fun z => fbp (by rw [hq, z])) (old hh j5)
          obtain ⟨Tv, kv, fv⟩ : ∃ T, Kd H18 v T ∧ fitV v := by
            simp only [List.mem_cons, List.not_mem_nil, or_false] at hv
            rcases hv with rfl | rfl
            · exact ⟨_, .str _, fz⟩
            · exact ⟨_, (ko.same (same_new j5)).kp npo k18, fo⟩
          have ks18 : Kd H18 sm T2 := (ks.same (same_new j5)).kp nsm k18
          have kf18 : Kd H18 fa T3 := (kf2.same (same_new j5)).kp nfa k18
          walk_at "S"
          refine limit_ok kv fv ks18 kf18 cs fun H19 pf s19 hpf gpf => ?_
          refine i_name ?_
          have bd19 : Bad i3 H19 bad d := bd18.to fun q o _ hh => s19 q o hh
          have hi5 : i3 ≤ 3 := Nat.le_of_lt hi4
          refine i_seq ?_
          refine cmp_bad rfl rfl bd19 hi5 gpf fun q6 j6 => ?_
          have bd20 : Bad i3 (upd H19 q6 (.lst [.str "limit", bad])) bad d := bd19.to fun q o _ hh => old hh j6
          refine mut_bad rfl bd20 hi5 fun Hn d' bdn kn => ?_
          have up : ∀ q o, q ≠ p → H3 q = some o → upd H19 q6 (.lst [.str "limit", bad]) q = some o := fun q o hq h => old (s19 _ _ (k18 _ _ hq (old h j5))) j6
          have uL := up _ _ (b3'.not gL (by intro x y c; nofun)) gL
          have u1 := up _ _ (b3'.not gt1 (by intro x y c; nofun)) gt1
          have u2 := up _ _ (b3'.not gt2 (by intro x y c; nofun)) gt2
          have u3 := up _ _ (b3'.not gt3 (by intro x y c; nofun)) gt3
          have upf := old (u := .lst [.str "limit", bad]) gpf j6
          have ko20 : Kd (upd H19 q6 (.lst [.str "limit", bad])) odd T := ((((ko.same (same_new j5)).kp npo k18).same s19).same (same_new j6))
          obtain ⟨ob, ub, hob⟩ := (b18.same s19).new (o := .lst [.str "limit", bad]) j6
          have npf := kn _ _ (bd20.nl upf nofun) upf
          refine cmp_bad rfl rfl bdn (Nat.succ_le_of_lt hi4) npf fun q7 j7 => ?_
          have bd21 : Bad (i3 + 1) (upd Hn q7 (.lst [.str "limit", bad])) bad d' := bdn.to fun q o _ hh => old hh j7
          refine ⟨_, _, _, rfl, fun b o h => ?_, ⟨ob, old (kn _ _ fbp ub) j7, hob⟩, old (kn _ _ (bd20.nl uL nofun) uL) j7, old (kn _ _ (bd20.nt u1) u1) j7, old (kn _ _ (bd20.nt u2) u2) j7, old (kn _ _ (bd20.nt u3) u3) j7, ?_, _, bd21⟩
          · refine old (kn b o (fun z => ?_) (up b o (fun z => ?_) (e3 b o h))) j7
            · have q1 := fb b z
              rw [e15 b o h] at q1
              cases q1
            · rw [z, hp0] at h
              cases h
          · refine (kd_to ko20 fun q o hq h => kn q o (fun z => ?_) h).same (same_new j7)
            exact kd_ne (kdo.same s15) (fb q z) hq
        · rintro σ H3 ⟨v11, v12, v13, rfl, e3, b3', gL, gt1, gt2, gt3, ko, d, bd⟩
          walk_at "S"
          exact ⟨_, _, _, _, _, _, _, _, _, _, _, rfl, e3, b3'.mono (by show i2 * 60 + 30 + 3 ≤ (i2 + 1) * 60; omega)⟩
      · rintro σ H2 ⟨v3, v4, v5, v6, v7, v8, v9, v10, v11, v12, v13, rfl, s2, b2⟩
        walk_at "S"
        exact ⟨_, _, _, _, _, _, _, _, _, _, _, _, _, rfl, s2⟩
    · rintro σ H1 ⟨v1, v2, v3, v4, v5, v6, v7, v8, v9, v10, v11, v12, v13, rfl, s1⟩
      walk_at "S"
      exact k H1
end

end K02
namespace K02
open PySem PySem.Spec PyProof.Rows L2 G

/-! the run of the top -/
abbrev R : PySem.W.OpenRow := PySem.W.OpenLaw.row PySem.Challenge.rw_eventdeliveries_k02_integers_parsed
abbrev hk : PySem.W.Hook := hookG 4 fa fn ex xs
def ob (s : PySem.W.SharedT) : AlG := obsG 4 fa fn ex xs (HandSHeadRun.getT s)
theorem ob_eq (s : PySem.W.SharedT) : ob s = hk.obs s.abs := obsG_eq (HandSHeadRun.getT_eq s)
def loose : List PySem.Str := (["DeliveryError", "MissingError", "StateError", "InvalidInteger", "MOST_DIGITS", "MOST", "is_integer", "parse_integer", "need_integer", "_law_cell", "_law_box", "_law_take", "_law_word", "_law_due", "_law_found"] : List PySem.Str)
theorem run (w : World) : HandSHeadRun.RunEq R (PySem.W.view R.prog [18]) hk ob 3000 loose w := by
  intro os
  kernel_rfl
end K02
open PySem PySem.W PySem.Calls PyProof.Rows
set_option maxRecDepth 100000 in
set_option maxHeartbeats 0 in
theorem PySem.Challenge.cw_eventdeliveries_k02_integers_parsed_holds : PySem.Challenge.rw_eventdeliveries_k02_integers_parsed.Holds := by
  w_on; o_law
  refine HandSHeadRun.head_any (r := OpenLaw.row PySem.Challenge.rw_eventdeliveries_k02_integers_parsed) (q := view (OpenLaw.row PySem.Challenge.rw_eventdeliveries_k02_integers_parsed).prog [18]) (H := K02.hk) (ob := K02.ob) (M := 3000) (loose := K02.loose) (d := HandSHeadRun.topDef (OpenLaw.row PySem.Challenge.rw_eventdeliveries_k02_integers_parsed).prog 18) (kwd := []) K02.ob_eq
    (by kernel_rfl) (fun s => by kernel_rfl) K02.run (by kernel_rfl) (by kernel_rfl) (by kernel_rfl) (by rfl) (by first | assumption | decide +kernel) (by decide +kernel) ⟨rfl, rfl, rfl, rfl, rfl, by decide +kernel⟩ ?hw ?hc
  case hw => w_witness2
  case hc =>
    refine G.walkG (l := PySem.Challenge.rw_eventdeliveries_k02_integers_parsed) (n := 63) (k := 8) (x := "_law_script") (cx := L2.CX0) rfl (by decide) (by kernel_rfl) ⟨rfl, by decide, by decide⟩ ?F (fun _ _ _ _ z => z)
    intro w mg fa h Y N hmg0
    obtain ⟨K, KX, c⟩ := Y
    have hmg : mg ("law" : PySem.Str) = some (.ref fa) := by
      have e : (HandSHeadRun.topDef (OpenLaw.row PySem.Challenge.rw_eventdeliveries_k02_integers_parsed).prog 18).name = ("law" : PySem.Str) := by kernel_rfl
      rw [← e]
      exact hmg0
    have hd : G.Hd K02.fa K02.fn K02.ex K02.xs K mg := ⟨c, h, KX, N⟩
    have e := hmg.symm.trans (K02.mg_law hd)
    cases e
    exact ⟨K, _, K02.sp_law K, KX, fun s v => L2.FunD.bindsA (ps := ["_law_script"]) (K02.fd_law hd) (fun _ _ _ _ _ _ us hl => match us, hl with | [_], _ => rfl) s [v] rfl, fun H a ns hl hb hO hS => ⟨a, ns, rfl, hS, hl, fun _ => rfl⟩, fun base _ _ => K02.ok_law hd⟩
#print axioms PySem.Challenge.cw_eventdeliveries_k02_integers_parsed_holds
