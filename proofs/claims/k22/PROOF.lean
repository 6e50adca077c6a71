import PyProof.Rows.All
import Wide.All
import OpenK.AllK
import Wide.FinOn
import KE.KStateDown
import HandS.ForMost
import HandS.ForExc
import HandS.IsInst
import HandS.Defaults
import HandS.HeadEnd
import HandS.EndBits
import PyProof.ReprRoads
import PyProof.ReprLen
import HandS.Flow
import HandS.Style
import HandS.Walk
import HandS.Head0
import HandS.Head1
import HandS.Head2
import HandS.HeadHook1
import HandS.HeadHook2
import KE.KExcSuper
import HandS.HeadWalk
import PyProof.InstStoreFacts
import PyProof.ExcBaseAll.LookupError
import HandS.TryMany
import HandS.ExcField
import KE.IntTextLaws
import PyProof.StrOps2
import HandS.MakeKw
import HandS.Property
import HandS.SlotsOwn
import HandS.ClsMeth
import PyProof.InstNe
import OpenK.KOps
import OpenK.KMeth
import HandS.Conv
import HandS.SortInts
import KE.KEqDeep
import KE.KSortedM
import PyProof.Rows.Range3
import PyProof.CallStr
import KE.KOpsOwn
import HandS.FStr
import HandS.Steps
import PyProof.FString2
import PySem.Challenge.RW_eventdeliveries_k22_services_made
set_option Elab.async false
set_option linter.all false
set_option maxRecDepth 100000
set_option maxHeartbeats 4000000
/-! # LA: defs that are called where no repr is under way (G), their calls, the law's end -/
namespace G
open PySem PySem.Spec PyProof.Rows L2
/-- no repr (or another guarded call) runs around -/
abbrev Clear (A : Around) : Prop := A.guards = some []
/-- as L2.FnOk, at clear surroundings alone -/
structure FnG (P : Program) (w : World) (K : PySem.W.Frag) (mg : Str → Option Value) (base : Heap) (cx : CXT) (k : Nat) (f : Addr) (fd : FuncData) (ps : List Str) (sp : Sp) : Prop where
  len : ∀ vs H Q E, sp vs H Q E → vs.length = ps.length
  run : ∀ (A : Around) (outer : List Env) (s : Shared) (H : Hp) (args : Args) (us : List Value) (vs : List V) (Q : VK) (E : XK), Clear A → Room k A → Env0 P w K mg base A outer s H → BindsTo s fd args (ps.zip us) → Vals vs us → sp vs H Q E →
    codeAny (model P w) A (.call (.ref f) args) (CR cx outer P w H s Q E) s
theorem FnG.of {P : Program} {w : World} {K : PySem.W.Frag} {mg : Str → Option Value} {base : Heap} {cx : CXT} {k : Nat} {f : Addr} {fd : FuncData} {ps : List Str} {sp : Sp} (F : FnOk P w K mg base cx k f fd ps sp) : FnG P w K mg base cx k f fd ps sp :=
  ⟨F.len, fun A outer s H args us vs Q E _ => F.run A outer s H args us vs Q E⟩
theorem FnG.mono {P : Program} {w : World} {K : PySem.W.Frag} {mg : Str → Option Value} {base : Heap} {cx : CXT} {j k : Nat} {f : Addr} {fd : FuncData} {ps : List Str} {sp : Sp} (F : FnG P w K mg base cx j f fd ps sp) (h : j ≤ k) : FnG P w K mg base cx k f fd ps sp :=
  ⟨F.len, fun A outer s H args us vs Q E c r => F.run A outer s H args us vs Q E c (r.mono h)⟩
section
variable {X : Cx} {cx : CXT} {k : Nat} {f : Addr} {fd : FuncData} {ps : List Str} {sp : Sp} {dvs : List V} {ds : List Value} {E : XK} {x : Str} {p pos : Pos} {e : Expr} {es : List Expr} {t : TA}
theorem run_fnG {pins : List (Addr × Obj)} {σ : L2.St} {H : Hp} {s : Shared} {Q : VK} {us : List Value} {vs : List V} (F : FnG X.prog X.w X.K X.mg X.base cx k f fd ps sp) (cl : Clear X.A) (hr : Room k X.A) (hb : Binds X.K fd ps ds) (hd : Vals dvs ds) (hx : Passes cx X E)
    (I : Inv X pins σ H s) (r : Vals vs us) (h : sp (vs ++ dvs) H Q E) : wpAny (model X.prog X.w) X.A (call (.ref f) us) (EP X pins σ Q) X.xe s := by
  have rr : Vals (vs ++ dvs) (us ++ ds) := r.append hd
  have ll : (us ++ ds).length = ps.length := rr.length ▸ F.len _ _ _ _ h
  refine wpAny_call (codeAny_mono (F.run X.A X.stack s H ⟨us, []⟩ (us ++ ds) (vs ++ dvs) Q E cl hr I.env0 (hb s us I.kIn ll) rr h) fun res s' z => ?_)
  rcases res with e | fl
  · exact hx pins σ H s e s' I z
  · cases fl <;> first | exact I.after z | exact False.elim z
theorem pe_callG (F : FnG X.prog X.w X.K X.mg X.base cx k f fd ps sp) (cl : Clear X.A) (hr : Room k X.A) (hg : Gl X x) (hm : X.mg x = some (.ref f)) (hk : PySem.W.keepIn X.K (.ref f) = true) (hb : Binds X.K fd ps ds) (hd : Vals dvs ds) (hx : Passes cx X E) (ha : PA X (e :: es) t)
    (q1 : (x == ("__debug__" : Str)) = false := by decide) (q2 : starEach (e :: es) X.env = (false, eval e X.env) :: starEach es X.env := by rfl) (q3 : (backTo pos (starEach es X.env)).any (·.1) = false := by rfl) : PE X (.Call (.Name x p) (e :: es) [] pos) (tCall sp dvs E t) :=
  ⟨fun pins s σ H Q I h => wpAny_Call_Name_kw (ld_glob I hg hm (PySem.W.callWith_K (h₀ := X.base) I.ok.mod.kin hk (thn (ha.run pos pins s σ H _ I h) fun us s1 ⟨vs, H1, I1, r, q⟩ => ⟨I1.kIn, run_fnG F cl hr hb hd hx I1 r q⟩) q2 q3) q1)⟩
end
/-- the rule for a def, at clear surroundings -/
theorem fnG {cx : CXT} {P : Program} {w : World} {K : PySem.W.Frag} {mg : Str → Option Value} {base : Heap} {k : Nat} {f : Addr} {fd : FuncData} {name qual : Str} {params : Arguments} {body : List Stmt} {scope : Scope} {dvs : List V} {kws : List (Str × V)} {N ps : List Str} {sp : Sp}
    (F : FunD K name qual params body scope dvs kws f fd) (S : FnScope N ps scope) (len : ∀ vs H Q E, sp vs H Q E → vs.length = ps.length)
    (hbody : ∀ (cdv : Value) (A : Around) (outer : List Env) (s : Shared) (H : Hp) (vs : List V) (Q : VK) (E : XK), Clear (A.deeper (envOfC qual scope s.heap.objs.size f cdv)) → Room k (A.deeper (envOfC qual scope s.heap.objs.size f cdv)) → sp vs H Q E →
      ∃ t, PSs (cxOf cx P w K mg base N qual scope f cdv A outer s H E) body t ∧ t { nx := fun _ H' => Q .non H', rt := Q } (start N vs) H) : FnG P w K mg base cx (k + 1) f fd ps sp := by
  obtain ⟨oc, od, dV, kV, doc, pm, an, cdv, ct, osl, rfl, lk, hcd, _, _⟩ := F.ex
  refine ⟨len, fun A outer s H args us vs Q E cl hr e0 hb r hsp => ?_⟩
  have KX : K.In s.heap := PySem.W.Frag.In.keeps e0.mod.kin fun b o q => And.left (e0.bs b o q)
  have lim : s.heap.NoLimit := Heap.NoLimit.keeps e0.mod.nolimit fun b o q => And.left (e0.bs b o q)
  refine codeAny_call_function hr.depth (KX _ _ lk) rfl S.co S.gen rfl (PySem.W.codeRec_of KX hcd) (hb _ _ _ _ (wpAny_newFunctionEnv_cells S.kind (fun y hy => ?_) fun env he s1 x => ?_))
  · exact (S.par y.1 (List.of_mem_zip hy).1).imp id fun q => ⟨q, PySem.W.cellsFrom_some _ _ _ (.inl q)⟩
  · subst he
    obtain ⟨t, ht, hq⟩ := hbody cdv A outer s H vs Q E cl (hr.deeper _) hsp
    refine ⟨lim.keeps x.toInCall.keep, codeAny_func (wpAny_mono (ht.run [] s1 (start N vs) H _ (inv_start S hr.hd e0 (len _ _ _ _ hsp) r x) hq) (fun fl s' hs => ?_) fun e s' hs => hs)⟩
    cases fl with
    | ret u => exact let ⟨v, _, H', J, rv, q⟩ := hs; ⟨v, H', J.os, J.bare, J.base, J.hok, rv, q⟩
    | next => exact let ⟨_, H', J, q⟩ := hs; ⟨V.non, H', J.os, J.bare, J.base, J.hok, rfl, q⟩
    | brk => exact let ⟨_, _, _, q⟩ := hs; False.elim q
    | cont => exact let ⟨_, _, _, q⟩ := hs; False.elim q
/-- the law's call -/
theorem lawG {P : Program} {w : World} {K : PySem.W.Frag} {mg mb : Str → Option Value} {cx : CXT} {k : Nat} {fa a : Addr} {fd : FuncData} {x : Str} {sp : Sp} {s₁ : Shared} {vs : List Value} {ns : List Int}
    (KX : K.In s₁.heap) (hns : s₁.heap.Ns mainGlobals mg) (hb : s₁.heap.Ns builtinsNs mb) (hbb : ∀ x : Str, x ≠ "__name__" → mb x = bootBuiltins x) (hlim : s₁.heap.NoLimit) (hg : s₁.gens = #[])
    (ha : s₁.heap.get? a = some { cls := .type "list", data := .seq vs.toArray }) (hi : IntsAre vs ns) (hl : ns.length ≤ sizeLine) (hr : Room k callerA)
    (F : ∀ base : Heap, K.In base → base.Ns mainGlobals mg → FnG P w K mg base cx k fa fd [x] sp) (hbind : ∀ (s : Shared) (u : Value), BindsTo s fd ⟨[u], []⟩ [(x, u)])
    (hsp : ∀ H : Hp, Only H → SqL K H a (ns.map V.int) → sp [.ref a] H (fun v _ => v = .bl true) fun _ _ _ => False) (hcx : ∀ H e s', cx [] H s₁ (fun _ _ _ => False) e s' → False) :
    codeAny (model P w) callerA (.call (.ref fa) ⟨[.ref a], []⟩) (fun r s' => r = .ok (.ret (.bool true)) ∧ OldK s₁.heap s'.heap ∧ s'.os = s₁.os ∧ AllBare s'.gens) s₁ := by
  have core : ∀ H : Hp, Only H → SqL K H a (ns.map V.int) → HOk P w H s₁.heap → (∀ b u, H b = some u → b = a) → (∀ u, H a = some u → K.lookup a = none) →
      codeAny (model P w) callerA (.call (.ref fa) ⟨[.ref a], []⟩) (fun r s' => r = .ok (.ret (.bool true)) ∧ OldK s₁.heap s'.heap ∧ s'.os = s₁.os ∧ AllBare s'.gens) s₁ := by
    intro H hO hS hok hA hK
    have nodict : ∀ {b : Addr} {o : Obj} {es : Array DictEntry} {n : Nat}, s₁.heap.get? b = some o → o.data = .dict es n → H b = none := by
      intro b o es n q d
      rcases Option.eq_none_or_eq_some (H b) with z | ⟨u, z⟩
      · exact z
      · have eb := hA b u z
        rw [eb, ha] at q
        cases q
        exact nomatch d
    have nsK : ∀ {b : Addr} {m : Str → Option Value}, s₁.heap.Ns b m → (hidT s₁.heap H).Ns b m := fun ⟨o, es, n, q, d, r⟩ => ⟨o, es, n, hidT_get q (nodict q d), d, r⟩
    have hKb : K.In (hidT s₁.heap H) := by
      intro b o q
      refine hidT_get (KX b o q) ?_
      rcases Option.eq_none_or_eq_some (H b) with z | ⟨u, z⟩
      · exact z
      · have eb := hA b u z
        subst eb
        rw [hK u z] at q
        cases q
    have hM : Mod K mg (hidT s₁.heap H) := ⟨hKb, nsK hns, ⟨mb, nsK hb, hbb⟩, hlim.elim fun mc z => ⟨mc, nsK z.1, z.2⟩⟩
    have e0 : Env0 P w K mg (hidT s₁.heap H) callerA [] s₁ H := ⟨rfl, hM, fun b o q => of_hidT q, Nat.le_of_eq (hidT_size _ _), trivial, fun b z => absurd (show b ∈ ([] : List Addr) from z) (by simp), hok, .of_eq hg⟩
    refine codeAny_mono ((F _ hKb (nsK hns)).run callerA [] s₁ H ⟨[.ref a], []⟩ [.ref a] [.ref a] _ _ rfl hr e0 (hbind s₁ (.ref a)) (.cons rfl .nil) (hsp H hO hS)) fun r s' h => ?_
    rcases r with e | fl
    · exact False.elim (hcx H e s' h)
    · cases fl with
      | ret u =>
        obtain ⟨v, H', os, bare, un, hok', rv, qv⟩ := h
        have ev : v = .bl true := qv
        rw [ev] at rv
        have eu : u = Value.bool true := rv
        rw [eu]
        refine ⟨rfl, OldK.of_keep fun b o q => ?_, os, bare⟩
        rcases hO b with z | ⟨ob, xs, z⟩
        · exact un.keep b o q z (fun y => absurd (show b ∈ ([] : List Addr) from y) (by simp)) (by simp)
        · obtain ⟨e1, _⟩ := hok b _ z
          obtain ⟨e2, _⟩ := hok' b _ (un.frzs b ob _ z)
          exact (q.symm.trans e1) ▸ e2
      | _ => exact False.elim h
  cases hk : K.lookup a with
  | some o =>
    have q := KX a o hk
    rw [ha] at q
    cases q
    exact core (fun _ => none) (fun _ => .inl rfl) (.inr ⟨_, vs.toArray, _, hk, rfl, rfl, rfl, by rw [List.size_toArray, hi.length]; exact hl, by simpa using vals_ints hi⟩) (fun b u z => nomatch (show (none : Option HO) = some u from z)) (fun b u z => nomatch (show (none : Option HO) = some u from z)) fun u z => nomatch (show (none : Option HO) = some u from z)
  | none =>
    refine core (upd (fun _ => none) a (.frz { cls := .type "list", data := .seq vs.toArray } (.lst (ns.map V.int)))) (fun b => ?_) (.inl (.inr ⟨_, upd_same⟩)) (fun b u z => ?_) (fun b u z => ?_) fun _ _ => hk
    · by_cases hb : b = a
      · exact .inr ⟨_, _, by rw [hb]; exact upd_same⟩
      · exact .inl (upd_ne hb)
    · by_cases hb : b = a
      · rw [hb, upd_same] at z
        cases z
        rw [hb]
        exact ⟨ha, by rw [List.length_map]; exact hl, vs, _, vals_ints hi, ha⟩
      · rw [upd_ne hb] at z
        cases z
    · by_cases hb : b = a
      · exact hb
      · rw [upd_ne hb] at z
        cases z
/-- the law's end: over a head by facts, the script's bits told -/
theorem walkG {l : PySem.W.OpenLaw} {n k : Nat} {q : Program} {loose : List Str} {XP : (Str → Option Value) → Heap → Prop} {YP : World → Heap → Prop} {d : DefRec} {cx : CXT} {x : Str}
    (hn : l.most = some n) (hn2 : n ≤ sizeLine) (hdf : d.params.defaults = []) (hr : Room k callerA)
    (F : ∀ (w : World) (mg : Str → Option Value) (fa : Addr) (h : Heap), YP w h → h.Ns mainGlobals mg → mg d.name = some (.ref fa) → ∃ (K : PySem.W.Frag) (fd : FuncData) (sp : Sp), K.In h ∧ (∀ (s : Shared) (u : Value), BindsTo s fd ⟨[u], []⟩ [(x, u)]) ∧
        (∀ (H : Hp) (a : Addr) (ns : List Int), ns.length ≤ n → (∀ z ∈ ns, Builtin.Int.intBits z ≤ 1048576) → Only H → SqL K H a (ns.map V.int) → sp [.ref a] H (fun v _ => v = .bl true) fun _ _ _ => False) ∧
        ∀ base : Heap, K.In base → base.Ns mainGlobals mg → FnG l.prog w K mg base cx k fa fd [x] sp)
    (hcx : ∀ (H : Hp) (s : Shared) (e : Value) (s' : Shared), cx [] H s (fun _ _ _ => False) e s' → False) : PySem.W.WalkO q loose XP YP l.row.toRowW d [] (fun f vs => PySem.call f vs) := by
  refine Att.attach_callB hn hdf fun w s₀ s₁ mg mb fa o pm cd doc a vs ns G Y ho hd hcd hmg hobj hints hlen hbits hg => ?_
  obtain ⟨K, fd, sp, KX, hb, hsp, hF⟩ := F w mg fa _ Y G.T.g hmg
  exact lawG KX G.T.g G.T.b G.T.builtins G.T.nolimit hg hobj hints (Nat.le_trans hlen hn2) hr hF hb (fun H hO hS => hsp H a ns hlen hbits hO hS) fun H e s' => hcx H s₁ e s'
end G
/-! # LB: data of any depth that stand in the heap (lists, tuples, dicts with int and text keys), repr of them -/
namespace G
open PySem PySem.Spec PyProof.Rows L2
def kD : Key → PyData
  | .inl i => .int i
  | .inr x => .str x
/-- v is the datum d -/
inductive Dq (K : PySem.W.Frag) (H : Hp) : V → PyData → Prop
  | non : Dq K H .non .none
  | bl (b : Bool) : Dq K H (.bl b) (.bool b)
  | int (i : Int) : Dq K H (.int i) (.int i)
  | str (x : Str) : Dq K H (.str x) (.str x)
  | lst {a : Addr} {xs : List V} {ds : List PyData} : SqL K H a xs → xs.length = ds.length → (∀ (i : Nat) (x : V) (d : PyData), xs[i]? = some x → ds[i]? = some d → Dq K H x d) → Dq K H (.ref a) (.list ds)
  | tup {a : Addr} {xs : List V} {ds : List PyData} : SqT K H a xs → xs.length = ds.length → (∀ (i : Nat) (x : V) (d : PyData), xs[i]? = some x → ds[i]? = some d → Dq K H x d) → Dq K H (.ref a) (.tuple ds)
  | dct {a : Addr} {kvs : List (Key × V)} {ds : List PyData} : Rd H a (.dK kvs) → kvs.length = ds.length → (∀ (i : Nat) (q : Key × V) (d : PyData), kvs[i]? = some q → ds[i]? = some d → Dq K H q.2 d) →
      Dq K H (.ref a) (.dict ((kvs.map fun q => kD q.1).zip ds))
abbrev DqAll (K : PySem.W.Frag) (H : Hp) : List V → List PyData → Prop := Paired (Dq K H)
theorem paired_at {α β : Type} {F : α → β → Prop} : ∀ {l₁ : List α} {l₂ : List β}, Paired F l₁ l₂ → ∀ (i : Nat) (x : α) (y : β), l₁[i]? = some x → l₂[i]? = some y → F x y
  | _, _, .nil, i, x, y, h, _ => by simp at h
  | _, _, .cons r t, 0, x, y, h, h' => by
    simp at h h'
    subst h h'
    exact r
  | _, _, .cons r t, i + 1, x, y, h, h' => paired_at t i x y (by simpa using h) (by simpa using h')
theorem Dq.lstA {K : PySem.W.Frag} {H : Hp} {a : Addr} {xs : List V} {ds : List PyData} (h : SqL K H a xs) (p : DqAll K H xs ds) : Dq K H (.ref a) (.list ds) := .lst h (Paired.length p) (paired_at p)
theorem Dq.tupA {K : PySem.W.Frag} {H : Hp} {a : Addr} {xs : List V} {ds : List PyData} (h : SqT K H a xs) (p : DqAll K H xs ds) : Dq K H (.ref a) (.tuple ds) := .tup h (Paired.length p) (paired_at p)
theorem Dq.lstH {K : PySem.W.Frag} {H : Hp} {a : Addr} {xs : List V} {ds : List PyData} (h : H a = some (.lst xs)) (p : DqAll K H xs ds) : Dq K H (.ref a) (.list ds) := .lstA (SqL.of h) p
theorem Dq.tupH {K : PySem.W.Frag} {H : Hp} {a : Addr} {xs : List V} {ds : List PyData} (h : H a = some (.tup xs)) (p : DqAll K H xs ds) : Dq K H (.ref a) (.tuple ds) := .tupA (SqT.of h) p
/-- the script's module dict stands in the written part (no list, no dict of the law is it) -/
def SysIn (K : PySem.W.Frag) : Prop := ∃ o es n, K.lookup sysModules = some o ∧ o.data = .dict es n
theorem readsAll_of {h : Heap} : ∀ {us : List Value} {ds : List PyData}, us.length = ds.length → (∀ (i : Nat) (u : Value) (d : PyData), us[i]? = some u → ds[i]? = some d → ∃ as, Reads h u d as ∧ sysModules ∉ as) → ∃ as, ReadsAll h us ds as ∧ sysModules ∉ as
  | [], [], _, _ => ⟨[], .nil, by simp⟩
  | [], _ :: _, hl, _ => by simp at hl
  | _ :: _, [], hl, _ => by simp at hl
  | u :: us, d :: ds, hl, f => by
    obtain ⟨as, r1, n1⟩ := f 0 u d rfl rfl
    obtain ⟨bs, r2, n2⟩ := readsAll_of (us := us) (ds := ds) (by simpa using hl) fun i x y e1 e2 => f (i + 1) x y (by simpa using e1) (by simpa using e2)
    refine ⟨as ++ bs, .cons r1 r2, fun z => ?_⟩
    rcases List.mem_append.mp z with z | z
    · exact n1 z
    · exact n2 z
theorem pairs_keys {P : Program} {w : World} : ∀ {es : List DictEntry} {vs : List (Key × Value)}, Pairs (mixKind P w) es vs → es.length = vs.length ∧ (∀ (i : Nat) (e : DictEntry) (q : Key × Value), es[i]? = some e → vs[i]? = some q → keyIs q.1 e.key = true ∧ e.val = q.2)
  | _, _, .nil => ⟨rfl, fun i e q h => by simp at h⟩
  | _, _, .cons a b t => by
    obtain ⟨h1, h2⟩ := pairs_keys t
    refine ⟨by simp [h1], fun i e q he hq => ?_⟩
    cases i with
    | zero =>
      simp at he hq
      subst he hq
      exact ⟨a, b⟩
    | succ i => exact h2 i e q (by simpa using he) (by simpa using hq)
theorem zip_fst {α β : Type} : ∀ {l₁ : List α} {l₂ : List β}, l₁.length = l₂.length → (l₁.zip l₂).map (·.1) = l₁
  | [], [], _ => rfl
  | [], _ :: _, h => by simp at h
  | _ :: _, [], h => by simp at h
  | a :: l₁, b :: l₂, h => by
    show a :: (l₁.zip l₂).map (·.1) = a :: l₁
    rw [zip_fst (by simpa using h)]
theorem zip_snd {α β : Type} : ∀ {l₁ : List α} {l₂ : List β}, l₁.length = l₂.length → (l₁.zip l₂).map (·.2) = l₂
  | [], [], _ => rfl
  | [], _ :: _, h => by simp at h
  | _ :: _, [], h => by simp at h
  | a :: l₁, b :: l₂, h => by
    show b :: (l₁.zip l₂).map (·.2) = b :: l₂
    rw [zip_snd (by simpa using h)]
section
variable {X : Cx} {pins : List (Addr × Obj)} {σ : L2.St} {H : Hp} {s : Shared}
theorem tracked_ne (I : Inv X pins σ H s) (S : SysIn X.K) {a : Addr} {o : HO} (h : H a = some o) : a ≠ sysModules := by
  obtain ⟨ob, es, n, hk, _⟩ := S
  have z := (I.bs _ _ (I.ok.mod.kin _ _ hk)).2
  exact ne_of_none h z
theorem rd_ne (I : Inv X pins σ H s) (S : SysIn X.K) {a : Addr} {o : HO} (h : Rd H a o) : a ≠ sysModules := by
  rcases h with h | ⟨_, h⟩
  · exact tracked_ne I S h
  · exact tracked_ne I S h
theorem kv_at : ∀ {kvs : List (Key × V)} {vs : List (Key × Value)}, KV kvs vs → kvs.length = vs.length ∧ ∀ (i : Nat) (q : Key × Value), vs[i]? = some q → ∃ p, kvs[i]? = some p ∧ p.1 = q.1 ∧ RelV p.2 q.2
  | _, _, .nil => ⟨rfl, fun i q h => by simp at h⟩
  | _, _, .cons r t => by
    obtain ⟨h1, h2⟩ := kv_at t
    refine ⟨by simp [h1], fun i q hq => ?_⟩
    cases i with
    | zero =>
      simp at hq
      subst hq
      exact ⟨_, rfl, r⟩
    | succ i => exact h2 i q (by simpa using hq)
theorem Dq.reads (I : Inv X pins σ H s) (S : SysIn X.K) {v : V} {d : PyData} (h : Dq X.K H v d) : ∀ u, RelV v u → ∃ as, Reads s.heap u d as ∧ sysModules ∉ as := by
  induction h with
  | non => exact fun u r => ⟨[], (show u = Value.none from r) ▸ Reads.none, by simp⟩
  | bl b => exact fun u r => ⟨[], (show u = Value.bool b from r) ▸ Reads.bool b, by simp⟩
  | int i =>
    intro u r
    obtain ⟨t, rfl⟩ := r
    exact ⟨[], Reads.int i t, by simp⟩
  | str x =>
    intro u r
    obtain ⟨t, rfl⟩ := r
    exact ⟨[], Reads.str x t, by simp⟩
  | @lst a xs ds hs hl _ ih =>
    intro u r
    cases (show u = Value.ref a from r)
    obtain ⟨its, rv, ⟨o, n, ho, hc, _, hd⟩, _⟩ := I.list hs
    have el := rv.length
    obtain ⟨as, hr, hn⟩ := readsAll_of (h := s.heap) (us := its) (ds := ds) (by omega) fun i u d hu hd => by
      have hi : i < xs.length := by
        have := (List.getElem?_eq_some_iff.mp hu).1
        omega
      obtain ⟨u', hu', ru⟩ := rv.get (List.getElem?_eq_getElem hi)
      rw [hu] at hu'
      cases hu'
      exact ih i _ d (List.getElem?_eq_getElem hi) hd _ ru
    refine ⟨a :: as, Reads.list ho hc hd hr, fun z => ?_⟩
    rcases List.mem_cons.mp z with z | z
    · rcases hs with q | ⟨o', its', n', hk, _, _, hd', _⟩
      · exact rd_ne I S q z.symm
      · obtain ⟨ob, es, m, hk2, hd2⟩ := S
        rw [← z, hk2] at hk
        cases hk
        rw [hd2] at hd'
        cases hd'
    · exact hn z
  | @tup a xs ds hs hl _ ih =>
    intro u r
    cases (show u = Value.ref a from r)
    obtain ⟨its, rv, ⟨o, ho, hc, n, hd⟩, _⟩ := I.tuple hs
    have el := rv.length
    obtain ⟨as, hr, hn⟩ := readsAll_of (h := s.heap) (us := its) (ds := ds) (by omega) fun i u d hu hd => by
      have hi : i < xs.length := by
        have := (List.getElem?_eq_some_iff.mp hu).1
        omega
      obtain ⟨u', hu', ru⟩ := rv.get (List.getElem?_eq_getElem hi)
      rw [hu] at hu'
      cases hu'
      exact ih i _ d (List.getElem?_eq_getElem hi) hd _ ru
    exact ⟨as, Reads.tuple ho hc hd hr, hn⟩
  | @dct a kvs ds hs hl _ ih =>
    intro u r
    cases (show u = Value.ref a from r)
    obtain ⟨z, hsys, vs, rel, o, es, ep, ho, ex, hd, _, prs, _⟩ := dk_rd I.hok hs
    obtain ⟨l1, k1⟩ := pairs_keys prs
    obtain ⟨l2, k2⟩ := kv_at rel
    have lk : (kvs.map fun q => kD q.1).length = ds.length := by rw [List.length_map]; exact hl
    obtain ⟨as, r1, n1⟩ := readsAll_of (h := s.heap) (us := es.toList.map (·.key)) (ds := kvs.map fun q => kD q.1) (by rw [List.length_map, List.length_map]; omega) fun i u d hu hd => by
      rw [List.getElem?_map] at hu hd
      obtain ⟨e, he, rfl⟩ := Option.map_eq_some_iff.mp hu
      obtain ⟨q, hq, rfl⟩ := Option.map_eq_some_iff.mp hd
      have hi : i < vs.length := by
        have := (List.getElem?_eq_some_iff.mp hq).1
        omega
      obtain ⟨p, hp, e1, _⟩ := k2 i _ (List.getElem?_eq_getElem hi)
      rw [hq] at hp
      cases hp
      have kk := (k1 i e _ he (List.getElem?_eq_getElem hi)).1
      rw [← e1] at kk
      rcases keyIs_shape kk with ⟨j, t, e2, e3⟩ | ⟨y, t, e2, e3⟩
      · rw [e2, e3]
        exact ⟨[], Reads.int j t, by simp⟩
      · rw [e2, e3]
        exact ⟨[], Reads.str y t, by simp⟩
    obtain ⟨bs, r2, n2⟩ := readsAll_of (h := s.heap) (us := es.toList.map (·.val)) (ds := ds) (by rw [List.length_map]; omega) fun i u d hu hd => by
      rw [List.getElem?_map] at hu
      obtain ⟨e, he, rfl⟩ := Option.map_eq_some_iff.mp hu
      have hi : i < vs.length := by
        have := (List.getElem?_eq_some_iff.mp he).1
        omega
      obtain ⟨p, hp, e1, rp⟩ := k2 i _ (List.getElem?_eq_getElem hi)
      have vv := (k1 i e _ he (List.getElem?_eq_getElem hi)).2
      rw [vv]
      exact ih i p d hp hd _ rp
    refine ⟨a :: as ++ bs, Reads.dict ho ex.1 hd (by rw [zip_fst lk]; exact r1) (by rw [zip_snd lk]; exact r2), fun z => ?_⟩
    rcases List.mem_append.mp z with z | z
    · rcases List.mem_cons.mp z with z | z
      · exact rd_ne I S hs z.symm
      · exact n1 z
    · exact n2 z
end
/-- what may be shown: at most n signs, at most k levels -/
structure Okd (n k : Nat) (d : PyData) : Prop where
  sh : d.showable = true
  dp : d.depth ≤ k
  ln : d.shown.length ≤ n
theorem Okd.mono {n k n' k' : Nat} {d : PyData} (h : Okd n k d) (hn : n ≤ n') (hk : k ≤ k') : Okd n' k' d := ⟨h.sh, Nat.le_trans h.dp hk, Nat.le_trans h.ln hn⟩
theorem Okd.none : Okd 5 0 .none := ⟨rfl, Nat.le_refl _, by decide⟩
theorem Okd.bool (b : Bool) : Okd 5 0 (.bool b) := by cases b <;> exact ⟨rfl, Nat.le_refl _, by decide⟩
theorem Okd.int {i : Int} (h : i.natAbs < 10 ^ 40) : Okd 41 0 (.int i) := by
  refine ⟨?_, Nat.le_refl _, ?_⟩
  · show decide (i.natAbs.log2 < 1920) = true
    have h2 : i.natAbs < 2 ^ 200 := Nat.lt_of_lt_of_le h (by decide)
    by_cases z : i.natAbs = 0
    · rw [z]; decide
    · have := (Nat.log2_lt z).mpr h2
      exact decide_eq_true (by omega)
  · have e := int_text_length_le10 (k := 40) (by decide) h
    show (Str.ofString (toString i)).length ≤ 41
    rw [PySem.ofString_length]
    exact e
/-- a text of signs that are Unicode's -/
def Signs (x : Str) : Prop := ∀ c ∈ x.cps.toList, c < 1114112
theorem Okd.str {n : Nat} {x : Str} (h : Signs x) (hl : x.length ≤ n) : Okd (10 * n + 2) 0 (.str x) := by
  refine ⟨rfl, Nat.le_refl _, ?_⟩
  have e := StrLaws.reprText_len x fun c hc => Nat.lt_trans (h c hc) (by decide)
  show (reprText x).length ≤ _
  omega
theorem sum_le {n : Nat} : ∀ {l : List Nat}, (∀ x ∈ l, x ≤ n) → l.sum ≤ l.length * n
  | [], _ => by simp
  | a :: l, h => by
    have h1 := h a List.mem_cons_self
    have h2 := sum_le (l := l) fun x hx => h x (List.mem_cons_of_mem _ hx)
    simp only [List.sum_cons, List.length_cons, Nat.add_mul, Nat.one_mul]
    omega
theorem shownAll_map : ∀ ds : List PyData, PyData.shownAll ds = ds.map PyData.shown
  | [] => rfl
  | d :: ds => by simp only [PyData.shownAll, List.map_cons, shownAll_map ds]
theorem showableAll_of : ∀ {ds : List PyData}, (∀ d ∈ ds, d.showable = true) → PyData.showableAll ds = true
  | [], _ => rfl
  | d :: ds, h => by simp only [PyData.showableAll, h d List.mem_cons_self, showableAll_of (ds := ds) fun x hx => h x (List.mem_cons_of_mem _ hx), Bool.and_self]
theorem depthAll_of {k : Nat} : ∀ {ds : List PyData}, (∀ d ∈ ds, d.depth ≤ k) → PyData.depthAll ds ≤ k
  | [], _ => Nat.zero_le _
  | d :: ds, h => by
    have h1 := h d List.mem_cons_self
    have h2 := depthAll_of (k := k) (ds := ds) fun x hx => h x (List.mem_cons_of_mem _ hx)
    simp only [PyData.depthAll]
    omega
theorem shownAll_sum {n : Nat} {ds : List PyData} (h : ∀ d ∈ ds, d.shown.length ≤ n) : ((PyData.shownAll ds).map (·.length)).sum ≤ ds.length * n := by
  have e := sum_le (n := n) (l := (PyData.shownAll ds).map (·.length)) fun x hx => by
    rw [shownAll_map, List.map_map] at hx
    obtain ⟨d, hd, rfl⟩ := List.mem_map.mp hx
    exact h d hd
  rw [List.length_map, PyData.shownAll_length] at e
  exact e
theorem Okd.list {n k : Nat} {ds : List PyData} (h : ∀ d ∈ ds, Okd n k d) : Okd (ds.length * (n + 2) + 3) (k + 1) (.list ds) := by
  refine ⟨by simp only [PyData.showable]; exact showableAll_of fun d hd => (h d hd).sh, by simp only [PyData.depth]; exact Nat.succ_le_succ (depthAll_of fun d hd => (h d hd).dp), ?_⟩
  have e := listText_len_le (PyData.shownAll ds)
  have e2 := shownAll_sum (n := n) fun d hd => (h d hd).ln
  have e3 := PyData.shownAll_length ds
  simp only [PyData.shown]
  rw [Nat.mul_add]
  omega
theorem Okd.tuple {n k : Nat} {ds : List PyData} (h : ∀ d ∈ ds, Okd n k d) : Okd (ds.length * (n + 2) + 3) (k + 1) (.tuple ds) := by
  refine ⟨by simp only [PyData.showable]; exact showableAll_of fun d hd => (h d hd).sh, by simp only [PyData.depth]; exact Nat.succ_le_succ (depthAll_of fun d hd => (h d hd).dp), ?_⟩
  have e := tupleText_len_le (PyData.shownAll ds)
  have e2 := shownAll_sum (n := n) fun d hd => (h d hd).ln
  have e3 := PyData.shownAll_length ds
  simp only [PyData.shown]
  rw [Nat.mul_add]
  omega
theorem showableKv_of : ∀ {kvs : List (PyData × PyData)}, (∀ q ∈ kvs, q.1.showable = true ∧ q.2.showable = true) → PyData.showableKv kvs = true
  | [], _ => rfl
  | (a, b) :: r, h => by
    obtain ⟨h1, h2⟩ := h (a, b) List.mem_cons_self
    simp only [PyData.showableKv, h1, h2, showableKv_of (kvs := r) fun x hx => h x (List.mem_cons_of_mem _ hx), Bool.and_self]
theorem depthKv_of {k : Nat} : ∀ {kvs : List (PyData × PyData)}, (∀ q ∈ kvs, q.1.depth ≤ k ∧ q.2.depth ≤ k) → PyData.depthKv kvs ≤ k
  | [], _ => Nat.zero_le _
  | (a, b) :: r, h => by
    obtain ⟨h1, h2⟩ := h (a, b) List.mem_cons_self
    have h3 := depthKv_of (k := k) (kvs := r) fun x hx => h x (List.mem_cons_of_mem _ hx)
    simp only [PyData.depthKv]
    simp only at h1 h2
    omega
theorem shownKv_sum {n : Nat} : ∀ {kvs : List (PyData × PyData)}, (∀ q ∈ kvs, q.1.shown.length ≤ n ∧ q.2.shown.length ≤ n) → ((PyData.shownKv kvs).map (·.length)).sum ≤ kvs.length * (2 * n + 2)
  | [], _ => by simp [PyData.shownKv]
  | (a, b) :: r, h => by
    obtain ⟨h1, h2⟩ := h (a, b) List.mem_cons_self
    have h3 := shownKv_sum (n := n) (kvs := r) fun x hx => h x (List.mem_cons_of_mem _ hx)
    have e2 : (a.shown ++ ": " ++ b.shown).length = a.shown.length + 2 + b.shown.length := by
      rw [strLen_append, strLen_append]; rfl
    simp only [PyData.shownKv, List.map_cons, List.sum_cons, List.length_cons, e2, Nat.add_mul, Nat.one_mul]
    simp only at h1 h2
    omega
theorem Okd.dict {n k : Nat} {kvs : List (PyData × PyData)} (h : ∀ q ∈ kvs, Okd n k q.1 ∧ Okd n k q.2) : Okd (kvs.length * (2 * n + 4) + 3) (k + 1) (.dict kvs) := by
  refine ⟨by simp only [PyData.showable]; exact showableKv_of fun d hd => ⟨(h d hd).1.sh, (h d hd).2.sh⟩, by simp only [PyData.depth]; exact Nat.succ_le_succ (depthKv_of fun d hd => ⟨(h d hd).1.dp, (h d hd).2.dp⟩), ?_⟩
  have e := dictText_len_le (PyData.shownKv kvs)
  have e2 := shownKv_sum (n := n) fun d hd => ⟨(h d hd).1.ln, (h d hd).2.ln⟩
  have e3 := PyData.shownKv_length kvs
  simp only [PyData.shown]
  rw [show 2 * n + 4 = (2 * n + 2) + 2 from by omega, Nat.mul_add]
  omega
/-- repr(v) -/
def rRepr (K : PySem.W.Frag) : List V → Hp → VK → Prop := fun xs H Q => ∃ v d, xs = [v] ∧ Dq K H v d ∧ Okd 16000000 60 d ∧ Q (.str d.shown) H
theorem call_reprDU {X : Cx} (cl : Clear X.A) (un : X.A.units + 200 < cLine) (S : SysIn X.K) : CallR X (.builtin "repr") (rRepr X.K) := by
  intro pins s σ H xs us Q I r h
  obtain ⟨v, d, rfl, hd, ok, q⟩ := h
  obtain ⟨u, us', ru, rn, rfl⟩ : ∃ u us', RelV v u ∧ Vals [] us' ∧ us = u :: us' := by
    cases r with
    | cons a b => exact ⟨_, _, a, b, rfl⟩
  cases rn
  have sz : d.shown.length ≤ sizeLine := Nat.le_trans ok.ln (by rw [sizeLine_eq]; decide)
  obtain ⟨as, rd, ns⟩ := hd.reads I S u ru
  cases rd with
  | none => exact PySem.P.repr_of_none ⟨.str _, H, I.tok _, ⟨_, rfl⟩, q⟩
  | bool b => exact PySem.P.repr_of_bool ⟨.str _, H, I.tok _, ⟨_, rfl⟩, q⟩
  | int i t => exact PySem.P.repr_of_int (by have z := ok.sh; simpa [PyData.showable] using z) ⟨.str _, H, I.tok _, ⟨_, rfl⟩, q⟩
  | str x t => exact PySem.P.repr_of_str ⟨.str _, H, I.tok _, ⟨_, rfl⟩, q⟩ sz
  | list h1 h2 h3 h4 => exact repr_of_reads' (.list h1 h2 h3 h4) ok.sh (fun _ => ns) cl (by have := ok.dp; omega) (fun _ _ z => z) (fun h' u tk kp => ⟨.str _, H, I.kept kp, ⟨_, rfl⟩, q⟩) sz
  | tuple h1 h2 h3 h4 => exact repr_of_reads' (.tuple h1 h2 h3 h4) ok.sh (fun _ => ns) cl (by have := ok.dp; omega) (fun _ _ z => z) (fun h' u tk kp => ⟨.str _, H, I.kept kp, ⟨_, rfl⟩, q⟩) sz
  | dict h1 h2 h3 h4 h5 => exact repr_of_reads' (.dict h1 h2 h3 h4 h5) ok.sh (fun _ => ns) cl (by have := ok.dp; omega) (fun _ _ z => z) (fun h' u tk kp => ⟨.str _, H, I.kept kp, ⟨_, rfl⟩, q⟩) sz
theorem call_reprD {X : Cx} {k : Nat} (cl : Clear X.A) (hr : Room k X.A) (S : SysIn X.K) : CallR X (.builtin "repr") (rRepr X.K) := call_reprDU cl (by have := hr.un; omega) S
end G
/-! # LC: the head's facts -/
namespace G
open PySem PySem.Spec PyProof.Rows L2
def sysB (K : PySem.W.Frag) : Bool := match K.lookup sysModules with
  | some ⟨_, _, .dict _ _, _⟩ => true
  | _ => false
theorem sysB_ok {K : PySem.W.Frag} (h : sysB K = true) : SysIn K := by
  unfold sysB at h
  split at h
  · exact ⟨_, _, _, by assumption, rfl⟩
  · cases h
/-- an exception class of the top and its __init__ -/
abbrev FnX : Type := Option (Str × Str × Arguments × FuncBody × Scope × Addr × List Str × Addr × Value × Value)
/-- a function object of the top, by where it stands and what it is -/
structure XD where
  adr : PySem.W.Frag → Addr
  val : FnX
def fnXa (K : PySem.W.Frag) (a : Addr) : FnX := match K.lookup a with
  | some ⟨_, _, .func fd, _⟩ => some (fd.name, fd.qualname, fd.params, fd.body, fd.scope, fd.globals, fd.closure.map (·.1), fd.builtins, fd.defaults, fd.kwdefaults)
  | _ => none
def fnX (K : PySem.W.Frag) (x : Str) : FnX := fnXa K (He.ma K (He.ga K x) "__init__")
def xval (cls : Str) (st : Stmt) : FnX := some ("__init__", cls ++ ".__init__", defArgs st, .stmts (defBody st), defScope st, mainGlobals, ["__class__"], builtinsNs, .none, .none)
/-- an exception class of the top and its __init__ -/
def XD.exc (cls : Str) (st : Stmt) : XD := ⟨fun K => He.ma K (He.ga K cls) "__init__", xval cls st⟩
/-- a function without defaults and captured names, behind a property or a classmethod -/
def XD.plain (adr : PySem.W.Frag → Addr) (name qual : Str) (st : Stmt) : XD := ⟨adr, some (name, qual, defArgs st, .stmts (defBody st), defScope st, mainGlobals, [], builtinsNs, .none, .none)⟩
abbrev AlG : Type := He.AlD × Bool × List FnX
def frK (n : Nat) (g : Addr → Option Obj) : PySem.W.Frag := He.frG g (sysModules :: cStatics :: He.asD g n)
def obsG (n : Nat) (fa : List He.Fa) (fn : List He.DefD) (ex : PySem.W.Frag → Bool) (xs : List XD) (g : Addr → Option Obj) : AlG := (He.obsD fa fn (frK n g), ex (frK n g) && sysB (frK n g), xs.map fun d => fnXa (frK n g) (d.adr (frK n g)))
structure SaysG (fa : List He.Fa) (fn : List He.DefD) (ex : PySem.W.Frag → Bool) (xs : List XD) (K : PySem.W.Frag) : Prop where
  d : He.SaysD fa fn K
  more : ex K = true
  sys : SysIn K
  xs : xs.map (fun d => fnXa K (d.adr K)) = xs.map XD.val
theorem saysG_of {n : Nat} {fa : List He.Fa} {fn : List He.DefD} {ex : PySem.W.Frag → Bool} {xs : List XD} {g : Addr → Option Obj} (e : obsG n fa fn ex xs g = (He.valD fn, true, xs.map XD.val)) : SaysG fa fn ex xs (frK n g) := by
  have e1 : He.obsD fa fn (frK n g) = He.valD fn := congrArg (fun z : AlG => z.1) e
  have e2 : (ex (frK n g) && sysB (frK n g)) = true := congrArg (fun z : AlG => z.2.1) e
  have e3 : xs.map (fun d => fnXa (frK n g) (d.adr (frK n g))) = xs.map XD.val := congrArg (fun z : AlG => z.2.2) e
  obtain ⟨h1, h2⟩ := He.ba e2
  exact ⟨e1, h1, sysB_ok h2, e3⟩
def hookG (n : Nat) (fa : List He.Fa) (fn : List He.DefD) (ex : PySem.W.Frag → Bool) (xs : List XD) : PySem.W.Hook where
  α := AlG
  obs := fun s => obsG n fa fn ex xs s.heap.get?
  val := fun _ => (He.valD fn, true, xs.map XD.val)
  says := fun _ h => ∃ K : PySem.W.Frag, K.In h ∧ SaysG fa fn ex xs K
  of := fun _ _ e => ⟨_, He.frG_in, saysG_of e⟩
  keeps := fun _ _ _ ⟨K, hK, c⟩ k => ⟨K, PySem.W.Frag.In.keeps hK k, c⟩
theorem obsG_eq {n : Nat} {fa : List He.Fa} {fn : List He.DefD} {ex : PySem.W.Frag → Bool} {xs : List XD} {g : Addr → Option Obj} {s : Shared} (h : ∀ a, g a = s.heap.get? a) : obsG n fa fn ex xs g = (hookG n fa fn ex xs).obs s := by
  rw [show g = s.heap.get? from funext h] <;> rfl
/-- the function object at f -/
def fdOf (K : PySem.W.Frag) (f : Addr) : FuncData := match K.lookup f with
  | some ⟨_, _, .func fd, _⟩ => fd
  | _ => PySem.W.fnOf Str.empty Str.empty { posonlyargs := [], args := [], vararg := none, kwonlyargs := [], kw_defaults := [], kwarg := none, defaults := [] } [] { kind := .function, names := [], isGenerator := false, isCoroutine := false } .none .none .none .none none .none .none
theorem fdOf_eq {K : PySem.W.Frag} {x qual : Str} {params : Arguments} {body : List Stmt} {scope : Scope} {dvs : List V} {kws : List (Str × V)} {f : Addr} {fd : FuncData} (F : FunD K x qual params body scope dvs kws f fd) : fdOf K f = fd := by
  obtain ⟨oc, od, dV, kV, doc, pm, an, cdv, ct, osl, rfl, lk, _⟩ := F.ex
  unfold fdOf
  rw [lk]
/-- what the head has said of the written part, and that the module's names are read off it -/
structure Hd (fa : List He.Fa) (fn : List He.DefD) (ex : PySem.W.Frag → Bool) (xs : List XD) (K : PySem.W.Frag) (mg : Str → Option Value) : Prop where
  s : SaysG fa fn ex xs K
  at_ : ∃ h : Heap, K.In h ∧ h.Ns mainGlobals mg
section
variable {fa : List He.Fa} {fn : List He.DefD} {ex : PySem.W.Frag → Bool} {xs : List XD} {K : PySem.W.Frag} {mg : Str → Option Value}
theorem Hd.sys (c : Hd fa fn ex xs K mg) : SysIn K := c.s.sys
theorem Hd.fun_ (c : Hd fa fn ex xs K mg) (i : Nat) {d : He.DefD} (h : fn[i]? = some d := by rfl) : FunD K d.name d.qual d.params d.body d.scope (d.dvs K) (d.kws K) (He.fAd K d.at_) (fdOf K (He.fAd K d.at_)) := by
  obtain ⟨fd, F⟩ := c.s.d.def_ i h
  rw [fdOf_eq F]
  exact F
theorem Hd.free (c : Hd fa fn ex xs K mg) (i : Nat) {x : Str} (h : fa[i]? = some (.free x) := by rfl) : mg x = none := let ⟨_, X, N⟩ := c.at_; He.free_ok X N (c.s.d.fact i h)
theorem Hd.glo (c : Hd fa fn ex xs K mg) (i : Nat) {x : Str} (h : fa[i]? = some (.glo x) := by rfl) : mg x = some (.ref (He.ga K x)) := let ⟨_, X, N⟩ := c.at_; He.glo_ok X N (c.s.d.fact i h)
theorem Hd.int (c : Hd fa fn ex xs K mg) (i : Nat) {x : Str} {z : Int} (h : fa[i]? = some (.int x z) := by rfl) : ∃ t, mg x = some (.int z t) := let ⟨_, X, N⟩ := c.at_; He.int_ok X N (c.s.d.fact i h)
theorem Hd.xd (c : Hd fa fn ex xs K mg) (i : Nat) {d : XD} (h : xs[i]? = some d := by rfl) : fnXa K (d.adr K) = d.val := by
  have e : (xs.map fun d => fnXa K (d.adr K))[i]? = (xs.map XD.val)[i]? := by rw [c.s.xs]
  rw [List.getElem?_map, List.getElem?_map, h] at e
  exact Option.some.inj e
theorem Hd.str (c : Hd fa fn ex xs K mg) (i : Nat) {x z : Str} (h : fa[i]? = some (.str x z) := by rfl) : ∃ t, mg x = some (.str z t) := let ⟨_, X, N⟩ := c.at_; He.str_ok X N (c.s.d.fact i h)
end
section
variable {X : Cx} {x : Str} {pos : Pos}
theorem pe_gint {i : Int} (h : ∃ t, X.mg x = some (.int i t)) (hg : Gl X x := by rfl) (hd : (x == ("__debug__" : Str)) = false := by decide) (hn : x ≠ "__name__" := by decide) : PE X (.Name x pos) (tC (.int i)) := h.elim fun t e => pe_glob (v := .int i) hg e ⟨t, rfl⟩ hd
theorem pe_gstr {z : Str} (h : ∃ t, X.mg x = some (.str z t)) (hg : Gl X x := by rfl) (hd : (x == ("__debug__" : Str)) = false := by decide) (hn : x ≠ "__name__" := by decide) : PE X (.Name x pos) (tC (.str z)) := h.elim fun t e => pe_glob (v := .str z) hg e ⟨t, rfl⟩ hd
theorem pe_ty {T : String} (hm : X.mg x = none) (hv : bootBuiltins x = some (.type T)) (hg : Gl X x := by rfl) (hd : (x == ("__debug__" : Str)) = false := by decide) (hn : x ≠ "__name__" := by decide) : PE X (.Name x pos) (tC (.ty T)) := pe_bltn (v := .ty T) hg hm hv rfl hn hd
end
end G
/-! # LD: readings, step by step; heaps; the drawing box -/
namespace G
open PySem PySem.Spec PyProof.Rows L2
section
variable {σ : L2.St} {H : Hp} {Q : VK} {K : PySem.W.Frag}
theorem i_var {i : Nat} {v : V} (h : σ[i]? = some (some v)) (q : Q v H) : tVar i σ H Q := ⟨v, h, q⟩
theorem i_c {v : V} (q : Q v H) : tC v σ H Q := q
theorem i_op {r : R2} {ta tb : TE} (q : ta σ H fun x H1 => tb σ H1 fun y H2 => r x y H2 Q) : tOp r ta tb σ H Q := q
theorem i_un {r : V → Hp → VK → Prop} {ta : TE} (q : ta σ H fun x H1 => r x H1 Q) : tUn r ta σ H Q := q
theorem i_I0 {g : Int → Int → V} {i j : Int} (q : Q (g i j) H) : rI0 g (.int i) (.int j) H Q := ⟨i, j, rfl, rfl, q⟩
theorem i_I {C : Int → Int → Prop} {g : Int → Int → V} {i j : Int} (c : C i j) (q : Q (g i j) H) : rI C g (.int i) (.int j) H Q := ⟨i, j, rfl, rfl, c, q⟩
theorem i_U {g : Int → V} {i : Int} (q : Q (g i) H) : rU g (.int i) H Q := ⟨i, rfl, q⟩
theorem i_eq {x y : V} (s : scal x y = true) (q : Q (.bl (decide (x = y))) H) : rEq x y H Q := ⟨s, q⟩
theorem i_ne {x y : V} (s : scal x y = true) (q : Q (.bl (!decide (x = y))) H) : rNe x y H Q := ⟨s, q⟩
theorem i_test {t : TE} {R : Bool → Hp → Prop} (q : t σ H fun x H' => ∃ k, x = .bl k ∧ R k H') : tTest t σ H R := q
theorem i_B {t : TE} {R : Bool → Hp → Prop} (q : t σ H fun x H' => ∃ k, x = .bl k ∧ R k H') : tB t σ H R := q
theorem i_bl {b : Bool} {R : Bool → Prop} (q : R b) : ∃ k, V.bl b = V.bl k ∧ R k := ⟨b, rfl, q⟩
theorem i_not {t : TT} {R : Bool → Hp → Prop} (q : t σ H fun c H1 => R (!c) H1) : tNot t σ H R := q
theorem i_notV {t : TE} (q : t σ H fun x H1 => ∃ c, x = .bl c ∧ Q (.bl (!c)) H1) : tNotV t σ H Q := q
theorem i_andV {ta tb : TE} (q : ta σ H fun x H1 => ∃ c, x = .bl c ∧ if c = true then tb σ H1 Q else Q (.bl false) H1) : tAndV ta tb σ H Q := q
theorem i_orV {ta tb : TE} (q : ta σ H fun x H1 => ∃ c, x = .bl c ∧ if c = true then Q (.bl true) H1 else tb σ H1 Q) : tOrV ta tb σ H Q := q
theorem i_and {t u : TT} {R : Bool → Hp → Prop} (q : t σ H fun c H1 => if c = true then u σ H1 R else R false H1) : tAnd t u σ H R := q
theorem i_or {t u : TT} {R : Bool → Hp → Prop} (q : t σ H fun c H1 => if c = true then R true H1 else u σ H1 R) : tOr t u σ H R := q
theorem i_if {t : TT} {ta tb : TE} (q : t σ H fun c H1 => if c = true then ta σ H1 Q else tb σ H1 Q) : tIf t ta tb σ H Q := q
theorem i_chain {r r' : R2} {ta tb tc : TE} (q : ta σ H fun x H1 => tb σ H1 fun y H2 => r x y H2 fun z H3 => ∃ k, z = .bl k ∧ (if k = true then tc σ H3 fun w' H4 => r' y w' H4 Q else Q (.bl false) H3)) : tChain r r' ta tb tc σ H Q := q
theorem i_cons {ta : TE} {tr : TA} {R : List V → Hp → Prop} (q : ta σ H fun x H1 => tr σ H1 fun xs H2 => R (x :: xs) H2) : tCons ta tr σ H R := q
theorem i_nil {R : List V → Hp → Prop} (q : R [] H) : tNil σ H R := q
theorem i_lst {t : TA} (q : t σ H fun xs H1 => xs.length ≤ sizeLine ∧ ∀ p, H1 p = none → Q (.ref p) (upd H1 p (.lst xs))) : tLst t σ H Q := q
theorem i_tup {t : TA} (q : t σ H fun xs H1 => xs.length ≤ sizeLine ∧ ∀ p, H1 p = none → Q (.ref p) (upd H1 p (.tup xs))) : tTup t σ H Q := q
theorem i_cb {r : List V → Hp → VK → Prop} {t : TA} (q : t σ H fun vs H1 => r vs H1 Q) : tCB r t σ H Q := q
theorem i_call {sp : Sp} {E : XK} {t : TA} (q : t σ H fun vs H1 => sp (vs ++ []) H1 Q E) : tCall sp [] E t σ H Q := q
theorem i_ii {i j : Int} {R : Int → Int → Prop} (q : R i j) : ∃ i' j', [V.int i, V.int j] = [V.int i', V.int j'] ∧ R i' j' := ⟨i, j, rfl, q⟩
theorem i_ss {i j : Str} {R : Str → Str → Prop} (q : R i j) : ∃ i' j', V.str i = V.str i' ∧ V.str j = V.str j' ∧ R i' j' := ⟨i, j, rfl, rfl, q⟩
theorem i_ixL {p : Addr} {xs : List V} {i : Int} {v : V} (h : SqL K H p xs) (e : atI xs i = some v) (q : Q v H) : rIxL K (.ref p) (.int i) H Q := ⟨p, xs, i, v, rfl, rfl, h, e, q⟩
theorem i_ixT {p : Addr} {xs : List V} {i : Int} {v : V} (h : SqT K H p xs) (e : atI xs i = some v) (q : Q v H) : rIxT K (.ref p) (.int i) H Q := ⟨p, xs, i, v, rfl, rfl, h, e, q⟩
theorem i_ixS {z : Str} {i : Int} {c : Nat} (l : z.length ≤ sizeLine) (e : atI z.cps.toList i = some c) (q : Q (.str ⟨#[c]⟩) H) : rIxS (.str z) (.int i) H Q := ⟨z, i, c, rfl, rfl, l, e, q⟩
theorem i_sl {r : V → Option Int → Option Int → Hp → VK → Prop} {te : TE} {tl th : TO} (q : te σ H fun x H1 => tl σ H1 fun l H2 => th σ H2 fun u H3 => r x l u H3 Q) : tSl r te tl th σ H Q := q
theorem i_noPart {R : Option Int → Hp → Prop} (q : R none H) : tNoPart σ H R := q
theorem i_part {t : TE} {R : Option Int → Hp → Prop} (q : t σ H fun x H1 => ∃ i, x = .int i ∧ R (some i) H1) : tPart t σ H R := q
theorem i_int {i : Int} {R : Int → Prop} (q : R i) : ∃ j, V.int i = V.int j ∧ R j := ⟨i, rfl, q⟩
end
section
variable {σ : L2.St} {H : Hp} {D : Ends} {K : PySem.W.Frag}
theorem i_seq {t u : TS} (q : t { D with nx := u D } σ H) : tSeq t u D σ H := q
theorem i_asg {te : TE} {g : TG} (q : te σ H fun x H1 => g x σ H1 D.nx) : tAsg te g D σ H := q
theorem i_name {i : Nat} {v : V} {R : L2.St → Hp → Prop} (q : R (σ.set i (some v)) H) : gName i v σ H R := q
theorem i_ret {te : TE} (q : te σ H D.rt) : tRet te D σ H := q
theorem i_retN (q : D.rt .non H) : tRetN D σ H := q
theorem i_next (q : D.nx σ H) : tNext D σ H := q
theorem i_ifs {c : TT} {t u : TS} (q : c σ H fun b H1 => if b = true then t D σ H1 else u D σ H1) : tIfS c t u D σ H := q
theorem i_drop {te : TE} (q : te σ H fun _ H1 => D.nx σ H1) : tDrop te D σ H := q
theorem i_par {i j : Nat} {ta : TA} (q : ta σ H fun vs H1 => ∃ v w, vs = [v, w] ∧ D.nx ((σ.set i (some v)).set j (some w)) H1) : tPar i j ta D σ H := q
theorem i_two {v w : V} {R : V → V → Prop} (q : R v w) : ∃ v' w', [v, w] = [v', w'] ∧ R v' w' := ⟨v, w, rfl, q⟩
theorem i_gsub {to ti : TE} {t : TSet} {v : V} {R : L2.St → Hp → Prop} (q : to σ H fun o H1 => ti σ H1 fun i H2 => t o i v H2 fun H3 => R σ H3) : gSub to ti t v σ H R := q
theorem i_setL {p : Addr} {xs : List V} {k : Int} {j : Nat} {v : V} {R : Hp → Prop} (h : H p = some (.lst xs)) (e : ixN xs.length k = some j) (q : R (upd H p (.lst (xs.set j v)))) : rSetL (.ref p) (.int k) v H R := ⟨p, xs, k, j, rfl, rfl, h, e, q⟩
theorem i_for {wi : TI} {g : TG} {tb : TS} (q : wi σ H fun J H1 => ∃ W : Nat → Nat → L2.St → Hp → Prop, (∃ m, W 0 m σ H1) ∧ ∀ i m σ H, W i m σ H →
    (J.stop i H ∧ D.nx σ H) ∨ (J.go i H ∧ ∃ N : L2.St → Hp → Prop, (∀ σ' H', N σ' H' → ∃ m', m' < m ∧ W (i + 1) m' σ' H') ∧ ∀ x H', J.yld i H x H' → g x σ H' fun σ2 H2 => tb { D with nx := N, ct := N, bk := D.nx } σ2 H2)) : tFor wi g tb D σ H := q
theorem i_rng1 {ta : TA} {R : It → Hp → Prop} (q : ta σ H fun vs H1 => ∃ j : Int, vs = [.int j] ∧ -(2 ^ 62) ≤ j ∧ j < 2 ^ 62 ∧ R (Itr 0 j.toNat) H1) : iRng1 ta σ H R := q
end
theorem i_ite {b : Bool} {A B : Prop} (h1 : b = true → A) (h2 : b = false → B) : if b = true then A else B := by
  cases b with
  | true => rw [if_pos rfl]; exact h1 rfl
  | false => rw [if_neg Bool.false_ne_true]; exact h2 rfl
theorem i_dec {p : Prop} [Decidable p] {A B : Prop} (h1 : p → A) (h2 : ¬ p → B) : if decide p = true then A else B := i_ite (fun h => h1 (of_decide_eq_true h)) fun h => h2 (of_decide_eq_false h)
theorem i_isT {b : Bool} {A B : Prop} (hb : b = true) (h : A) : if b = true then A else B := by rw [if_pos hb]; exact h
theorem i_isF {b : Bool} {A B : Prop} (hb : b = false) (h : B) : if b = true then A else B := by rw [if_neg (by rw [hb]; exact Bool.false_ne_true)]; exact h
/-! ### heaps -/
theorem old {H : Hp} {a p : Addr} {o u : HO} (h : H a = some o) (hp : H p = none) : upd H p u a = some o := by rw [upd_ne (ne_of_none h hp)]; exact h
theorem oldw {H : Hp} {a p : Addr} {o u : HO} (n : a ≠ p) (h : H a = some o) : upd H p u a = some o := by rw [upd_ne n]; exact h
theorem none_of {H : Hp} {p q : Addr} {o : HO} (h : upd H p o q = none) : H q = none := by
  by_cases e : q = p
  · rw [e, upd_same] at h; cases h
  · rw [upd_ne e] at h; exact h
theorem ne_new {H : Hp} {p q : Addr} {o : HO} (h : upd H p o q = none) : q ≠ p := by
  intro e
  rw [e, upd_same] at h
  cases h
/-- all that is tracked but a stays as it is -/
def Kp (a : Addr) (H H' : Hp) : Prop := ∀ b o, b ≠ a → H b = some o → H' b = some o
theorem Kp.refl {a : Addr} {H : Hp} : Kp a H H := fun _ _ _ h => h
theorem Kp.trans {a : Addr} {H H1 H2 : Hp} (k : Kp a H H1) (l : Kp a H1 H2) : Kp a H H2 := fun b o n h => l b o n (k b o n h)
theorem Kp.at {a b : Addr} {H H' : Hp} {o : HO} (k : Kp a H H') (n : b ≠ a) (h : H b = some o) : H' b = some o := k b o n h
theorem Kp.box {a : Addr} {H : Hp} {o : HO} : Kp a H (upd H a o) := fun b u n h => by rw [upd_ne n]; exact h
theorem Kp.new {a p : Addr} {H H' : Hp} {o : HO} (k : Kp a H H') (hp : H' p = none) : Kp a H (upd H' p o) := fun b u n h => old (k b u n h) hp
theorem Kp.wr {a p : Addr} {H H' : Hp} {o u : HO} (k : Kp a H H') (hp : H p = none) (hn : H' p = some u) : Kp a H (upd H' p o) := fun b v n h => oldw (ne_of_none h hp) (k b v n h)
theorem Kp.bx {a : Addr} {H H' : Hp} {o : HO} (k : Kp a H H') : Kp a H (upd H' a o) := fun b u n h => oldw n (k b u n h)
theorem Kp.sq {K : PySem.W.Frag} {a b : Addr} {H H' : Hp} {xs : List V} (k : Kp a H H') (n : b ≠ a) (h : SqL K H b xs) : SqL K H' b xs := by
  rcases h with (h | ⟨o, h⟩) | h
  · exact .inl (.inl (k _ _ n h))
  · exact .inl (.inr ⟨o, k _ _ n h⟩)
  · exact .inr h
/-! ### the drawing box -/
def BoxO (n : Nat) (o : HO) : Prop := ∃ (x y c : Int), o = .lst [.int x, .int y, .int c] ∧ 0 ≤ y ∧ y < 2147483647 ∧ 0 ≤ c ∧ c ≤ n
theorem BoxO.mono {n m : Nat} {o : HO} (h : BoxO n o) (l : n ≤ m) : BoxO m o := let ⟨x, y, c, e, h1, h2, h3, h4⟩ := h; ⟨x, y, c, e, h1, h2, h3, by omega⟩
/-- a box stands at a, at most n draws were made -/
def BoxAt (n : Nat) (H : Hp) (a : Addr) : Prop := ∃ o, H a = some o ∧ BoxO n o
theorem BoxAt.mono {n m : Nat} {H : Hp} {a : Addr} (h : BoxAt n H a) (l : n ≤ m) : BoxAt m H a := let ⟨o, h1, h2⟩ := h; ⟨o, h1, h2.mono l⟩
theorem BoxAt.of {n : Nat} {H : Hp} {a : Addr} {o : HO} (h : BoxO n o) : BoxAt n (upd H a o) a := ⟨o, upd_same, h⟩
theorem BoxAt.new {n : Nat} {H : Hp} {a p : Addr} {o : HO} (h : BoxAt n H a) (hp : H p = none) : BoxAt n (upd H p o) a := let ⟨u, h1, h2⟩ := h; ⟨u, old h1 hp, h2⟩
theorem BoxAt.wr {n : Nat} {H : Hp} {a p : Addr} {o : HO} (h : BoxAt n H a) (hp : a ≠ p) : BoxAt n (upd H p o) a := let ⟨u, h1, h2⟩ := h; ⟨u, oldw hp h1, h2⟩
theorem BoxAt.ne {n : Nat} {H : Hp} {a p : Addr} (h : BoxAt n H a) (hp : H p = none) : p ≠ a := let ⟨_, h1, _⟩ := h; (ne_of_none h1 hp).symm
theorem BoxAt.not {n : Nat} {H : Hp} {a p : Addr} {o : HO} (h : BoxAt n H a) (hp : H p = some o) (d : ∀ x y c : Int, o ≠ .lst [.int x, .int y, .int c]) : p ≠ a := by
  obtain ⟨u, h1, x, y, c, e, _⟩ := h
  intro z
  rw [z, h1, e] at hp
  exact d x y c (Option.some.inj hp).symm
/-- _law_take(box, m) -/
def sp_l_take : Sp := fun vs H Q _ => ∃ (a : Addr) (m : Int) (n : Nat), vs = [.ref a, .int m] ∧ BoxAt n H a ∧ n ≤ 1000000 ∧ 0 < m ∧ m < 1073741824 ∧ ∀ (r : Int) (o : HO), 0 ≤ r → r < m → BoxO (n + 1) o → Q (.int r) (upd H a o)
/-- _law_box(cell) -/
def sp_l_box : Sp := fun vs H Q _ => ∃ i : Int, vs = [.int i] ∧ ∀ (p : Addr) (o : HO), H p = none → BoxO 0 o → Q (.ref p) (upd H p o)
/-- _law_cell(script, k) -/
def sp_l_cell (K : PySem.W.Frag) : Sp := fun vs H Q _ => ∃ (a : Addr) (ns : List Int) (k : Int), vs = [.ref a, .int k] ∧ SqL K H a (ns.map V.int) ∧ 0 ≤ k ∧ ∀ i : Int, Q (.int i) H
theorem few {α : Type} {xs : List α} (h : Nat.ble xs.length 1000 = true := by rfl) : xs.length ≤ sizeLine := Nat.le_trans (Nat.le_of_ble_eq_true h) (by decide)
/-! ### kinds of values -/
inductive Kd (H : Hp) : V → String → Prop
  | non : Kd H .non "NoneType"
  | bl (b : Bool) : Kd H (.bl b) "bool"
  | int (i : Int) : Kd H (.int i) "int"
  | str (x : Str) : Kd H (.str x) "str"
  | lst {a : Addr} {xs : List V} (e : H a = some (.lst xs)) : Kd H (.ref a) "list"
  | tup {a : Addr} {xs : List V} (e : H a = some (.tup xs)) : Kd H (.ref a) "tuple"
  | dct {a : Addr} {kvs : List (Key × V)} (e : H a = some (.dK kvs)) : Kd H (.ref a) "dict"
theorem Kd.ty {K : PySem.W.Frag} {H : Hp} {v : V} {T : String} (k : Kd H v T) : TyX K H v (.type T) := by
  cases k with
  | non => exact .base .non
  | bl b => exact .base (.bl b)
  | int i => exact .base (.int i)
  | str x => exact .base (.str x)
  | lst e => exact .base (.lst e)
  | tup e => exact .base (.tup e)
  | dct e => exact .base (.dK e)
theorem Kd.same {H H' : Hp} {v : V} {T : String} (k : Kd H v T) (s : Same H H') : Kd H' v T := by
  cases k with
  | non => exact .non
  | bl b => exact .bl b
  | int i => exact .int i
  | str x => exact .str x
  | lst e => exact .lst (s _ _ e)
  | tup e => exact .tup (s _ _ e)
  | dct e => exact .dct (s _ _ e)
theorem Kd.kp {a : Addr} {H H' : Hp} {v : V} {T : String} (k : Kd H v T) (n : v ≠ .ref a) (s : Kp a H H') : Kd H' v T := by
  cases k with
  | non => exact .non
  | bl b => exact .bl b
  | int i => exact .int i
  | str x => exact .str x
  | lst e => exact .lst (s _ _ (fun z => n (by rw [z])) e)
  | tup e => exact .tup (s _ _ (fun z => n (by rw [z])) e)
  | dct e => exact .dct (s _ _ (fun z => n (by rw [z])) e)
theorem i_isi {K : PySem.W.Frag} {H : Hp} {Q : VK} {v : V} {T C : String} {b : Bool} (k : Kd H v T) (e : kitB T C = some b) (q : Q (.bl b) H) : rIsi K [v, .ty C] H Q := ⟨v, .ty C, .type T, .type C, b, rfl, .ty C, k.ty, kit_ty e, q⟩
theorem same_new {H : Hp} {p : Addr} {o : HO} (hp : H p = none) : Same H (upd H p o) := fun _ _ h => old h hp
theorem Same.new {H H' : Hp} {p : Addr} {o : HO} (s : Same H H') (hp : H' p = none) : Same H (upd H' p o) := fun b u h => old (s b u h) hp
theorem Same.wr {H H' : Hp} {p : Addr} {o : HO} (s : Same H H') (hp : H p = none) : Same H (upd H' p o) := fun b u h => oldw (ne_of_none h hp) (s b u h)
theorem Same.kp {a : Addr} {H H' : Hp} (s : Same H H') : Kp a H H' := fun b o _ h => s b o h
/-- is_integer(v, lo, hi) -/
def isI : V → Int → Int → Bool
  | .int i, lo, hi => decide (lo ≤ i) && decide (i ≤ hi)
  | _, _, _ => false
def sp_is_integer : Sp := fun vs H Q _ => ∃ (v : V) (lo hi : Int) (T : String), vs = [v, .int lo, .int hi] ∧ Kd H v T ∧ Q (.bl (isI v lo hi)) H
end G
/-! # LE: comprehensions over plain items -/
namespace G
open PySem PySem.Spec PyProof.Rows L2
/-- the i-th of the items, as a value, the heap as it was -/
def YI {α : Type} (items : List α) (val : α → V) : Nat → Hp → V → Hp → Prop := fun i H x H' => H' = H ∧ ∃ c, items[i]? = some c ∧ x = val c
theorem walk_strI {z : Str} : Walk (Its z) z.cps.toList.length (fun _ => True) (YI z.cps.toList fun c => .str ⟨#[c]⟩) := by
  rw [show z.cps.toList.length = z.cps.size from rfl]
  exact walk_str.mono (fun _ h => h) fun i H x H' _ _ ⟨h1, c, h2, h3⟩ => ⟨h1, c, by rw [Array.getElem?_toList]; exact h2, h3⟩
theorem walk_listI {K : PySem.W.Frag} {a : Addr} {xs : List V} : Walk (Itl K a) xs.length (fun H => SqL K H a xs) (YI xs id) :=
  walk_list.mono (fun _ h => h) fun i H x H' _ _ ⟨h1, h2⟩ => ⟨h1, x, h2, rfl⟩
theorem walk_tupI {K : PySem.W.Frag} {a : Addr} {xs : List V} : Walk (Itt K a) xs.length (fun H => SqT K H a xs) (YI xs id) :=
  walk_tup.mono (fun _ h => h) fun i H x H' _ _ ⟨h1, h2⟩ => ⟨h1, x, h2, rfl⟩
theorem take_get {α : Type} {l : List α} {i : Nat} {x : α} (h : l[i]? = some x) : l.take (i + 1) = l.take i ++ [x] := by
  rw [List.take_add_one, h]
  rfl
section
variable {α : Type} {J : It} {items : List α} {val : α → V} {Gd : Hp → Prop} {g : TG} {tt : TT} {te : TE} {vs : List Nat} {σ : L2.St} {H1 : Hp} {D : Addr} {Qd : Hp → Prop}
/-- [e for x in items if t], e and t leave the heap as it is -/
theorem lc_flt (w : Walk J items.length Gd (YI items val)) (f : α → Option V) (hG : ∀ F, Gd (upd H1 D (.lst F))) (hlen : items.length ≤ sizeLine)
    (hs : ∀ (c : α) (F : List V) (Ny : VK) (Nn : Hp → Prop), c ∈ items → (∀ y, f c = some y → Ny y (upd H1 D (.lst F))) → (f c = none → Nn (upd H1 D (.lst F))) →
      g (val c) (wipe σ vs) (upd H1 D (.lst F)) fun σ2 H2 => wipe σ2 vs = wipe σ vs ∧ tt σ2 H2 fun b H3 => if b = true then te σ2 H3 Ny else Nn H3)
    (hd : Qd (upd H1 D (.lst (items.filterMap f)))) : ∃ W : Nat → Nat → Hp → Prop, (∃ m, W 0 m (upd H1 D (.lst []))) ∧ ∀ i m H, W i m H →
      (J.stop i H ∧ Qd H) ∨ (J.go i H ∧ ∃ Nx : Hp → Prop, (∀ H', Nx H' → ∃ m', m' < m ∧ W (i + 1) m' H') ∧ ∀ x H', J.yld i H x H' → g x (wipe σ vs) H' fun σ2 H2 => wipe σ2 vs = wipe σ vs ∧ tt σ2 H2 fun b H3 =>
        if b = true then te σ2 H3 fun y H4 => ∃ acc, H4 D = some (.lst acc) ∧ acc.length < sizeLine ∧ Nx (upd H4 D (.lst (acc ++ [y]))) else Nx H3) := by
  refine lc_it w (fun i H => H = upd H1 D (.lst ((items.take i).filterMap f))) rfl (fun i H _ e => e ▸ hG _) (fun i x H H' hi e y => ?_) fun H e => ?_
  · subst e
    obtain ⟨rfl, c, hc, rfl⟩ := y
    have hm : c ∈ items := List.mem_of_getElem? hc
    refine hs c _ _ _ hm (fun y ef => ?_) fun ef => ?_
    · refine ⟨_, upd_same, ?_, ?_⟩
      · have h5 := List.length_filterMap_le f (items.take i)
        rw [List.length_take] at h5
        omega
      · rw [upd_upd, take_get hc, List.filterMap_append]
        simp [ef]
    · show _ = _
      rw [take_get hc, List.filterMap_append]
      simp [ef]
  · rw [e, List.take_length]
    exact hd
end
section
variable {σ : L2.St} {H : Hp} {Q : VK} {K : PySem.W.Frag}
theorem i_lc {wi : TI} {g : TG} {tt : TT} {te : TE} {vs : List Nat} (q : wi σ H fun J H1 => ∀ D, H1 D = none → ∃ W : Nat → Nat → Hp → Prop, (∃ m, W 0 m (upd H1 D (.lst []))) ∧ ∀ i m H, W i m H →
  (J.stop i H ∧ Q (.ref D) H) ∨ (J.go i H ∧ ∃ Nx : Hp → Prop, (∀ H', Nx H' → ∃ m', m' < m ∧ W (i + 1) m' H') ∧ ∀ x H', J.yld i H x H' → g x (wipe σ vs) H' fun σ2 H2 => wipe σ2 vs = wipe σ vs ∧ tt σ2 H2 fun b H3 =>
    if b = true then te σ2 H3 fun y H4 => ∃ acc, H4 D = some (.lst acc) ∧ acc.length < sizeLine ∧ Nx (upd H4 D (.lst (acc ++ [y]))) else Nx H3)) : tLc wi g tt te vs σ H Q := q
theorem i_iStr {te : TE} {R : It → Hp → Prop} (q : te σ H fun v H1 => ∃ x, v = .str x ∧ R (Its x) H1) : iStr te σ H R := q
theorem i_str {x : Str} {R : Str → Prop} (q : R x) : ∃ y, V.str x = V.str y ∧ R y := ⟨x, rfl, q⟩
theorem i_iList {tl : TE} {R : It → Hp → Prop} (q : tl σ H fun x H1 => ∃ a, x = .ref a ∧ (∃ xs, SqL K H1 a xs) ∧ R (Itl K a) H1) : iList K tl σ H R := q
theorem i_iTup {tl : TE} {R : It → Hp → Prop} (q : tl σ H fun x H1 => ∃ a, x = .ref a ∧ (∃ xs, SqT K H1 a xs) ∧ R (Itt K a) H1) : iTup K tl σ H R := q
theorem i_yes {R : Bool → Hp → Prop} (q : R true H) : tYes σ H R := q
theorem i_M1 {r : V → List V → Hp → VK → Prop} {to te : TE} (q : to σ H fun x H1 => (∃ a, x = .str a) ∧ te σ H1 fun y H2 => r x [y] H2 Q) : tM1 r to te σ H Q := q
theorem i_all {p : Addr} {bs : List Bool} (h : SqL K H p (bs.map V.bl)) (q : Q (.bl (bs.all id)) H) : rAll K [.ref p] H Q := ⟨p, bs, rfl, h, q⟩
theorem i_slS {z : Str} {lo hi : Option Int} (h : z.length ≤ sizeLine) (q : Q (.str (cutS z lo hi)) H) : rSlS (.str z) lo hi H Q := ⟨z, rfl, h, q⟩
theorem i_isB {a b : Bool} (q : Q (.bl (decide (a = b))) H) : rIsB (.bl a) (.bl b) H Q := ⟨a, b, rfl, rfl, q⟩
theorem i_callK {sp : Sp} {gV : List V → List V → List V} {E : XK} {t tk : TA} (q : t σ H fun vs H1 => tk σ H1 fun zs H2 => sp (gV vs zs) H2 Q E) : tCallK sp gV E t tk σ H Q := q
end
/-! ### one sign compared with another -/
theorem sing_lt (a b : Nat) : decide (([a] : List Nat) < [b]) = decide (a < b) := by
  by_cases h : a < b
  · rw [decide_eq_true h]
    exact decide_eq_true (List.cons_lt_cons_iff.mpr (.inl h))
  · rw [decide_eq_false h]
    refine decide_eq_false fun q => ?_
    rcases List.cons_lt_cons_iff.mp q with q | ⟨_, q⟩
    · exact h q
    · exact absurd q (List.not_lt_nil _)
/-! ### a list compared with an empty one: no item is looked at -/
def rEqNil (K : PySem.W.Frag) (neg : Bool) : R2 := fun x y H Q => ∃ p q xs, x = .ref p ∧ y = .ref q ∧ SqL K H p xs ∧ SqL K H q [] ∧ Q (.bl (if neg then !xs.isEmpty else xs.isEmpty)) H
theorem nil_lists {X : Cx} {pins : List (Addr × Obj)} {σ : L2.St} {H : Hp} {s : Shared} {p q : Addr} {xs : List V} (I : Inv X pins σ H s) (hp : SqL X.K H p xs) (hq : SqL X.K H q []) :
    ∃ its : List Value, its.length = xs.length ∧ s.heap.IsList p its.toArray ∧ s.heap.IsList q #[] := by
  obtain ⟨its, rv, ⟨o, n, h1, h2, _, h3⟩, _⟩ := I.list hp
  obtain ⟨its2, rv2, ⟨o2, n2, g1, g2, _, g3⟩, _⟩ := I.list hq
  have e : its2 = [] := List.eq_nil_of_length_eq_zero rv2.length.symm
  subst e
  exact ⟨its, rv.length.symm, ⟨o, h1, h2, n, h3⟩, ⟨o2, g1, g2, n2, g3⟩⟩
section
variable {X : Cx}
theorem op_eqNil (hu : X.A.units + 64 < cLine) : OpR X (compareOp .Eq) (rEqNil X.K false) := by
  intro pins s σ H x y v u Q I rx ry h
  obtain ⟨p, q, xs, rfl, rfl, hp, hq, k⟩ := h
  cases (show v = Value.ref p from rx)
  cases (show u = Value.ref q from ry)
  obtain ⟨its, hl, h1, h2⟩ := nil_lists I hp hq
  cases xs with
  | nil =>
    have e : its = [] := List.eq_nil_of_length_eq_zero hl
    subst e
    exact SeqAt.RcAt.lists (e := fun _ => true) h1 h2 rfl (by omega) (fun j j1 _ => absurd j1 (by simp)) _ _ _ _ ⟨.bl true, H, I, rfl, k⟩
  | cons a r => exact SeqAt.RcAt.lists_lengths h1 h2 (by simp [hl]) (by omega) _ _ _ _ ⟨.bl false, H, I, rfl, k⟩
theorem op_neNil (hu : X.A.units + 64 < cLine) : OpR X (compareOp .NotEq) (rEqNil X.K true) := by
  intro pins s σ H x y v u Q I rx ry h
  obtain ⟨p, q, xs, rfl, rfl, hp, hq, k⟩ := h
  cases (show v = Value.ref p from rx)
  cases (show u = Value.ref q from ry)
  obtain ⟨its, hl, h1, h2⟩ := nil_lists I hp hq
  cases xs with
  | nil =>
    have e : its = [] := List.eq_nil_of_length_eq_zero hl
    subst e
    exact SeqAt.RcNeAt.lists (e := fun _ => true) h1 h2 rfl (by omega) (fun j j1 _ => absurd j1 (by simp)) _ _ _ _ ⟨.bl false, H, I, rfl, k⟩
  | cons a r => exact SeqAt.RcNeAt.lists_lengths h1 h2 (by simp [hl]) (by omega) _ _ _ _ ⟨.bl true, H, I, rfl, k⟩
end
theorem i_eqNil {K : PySem.W.Frag} {neg : Bool} {H : Hp} {Q : VK} {p q : Addr} {xs : List V} (hp : SqL K H p xs) (hq : SqL K H q []) (k : Q (.bl (if neg then !xs.isEmpty else xs.isEmpty)) H) : rEqNil K neg (.ref p) (.ref q) H Q := ⟨p, q, xs, rfl, rfl, hp, hq, k⟩
/-! ### names and payloads -/
def plainC (c : Nat) : Bool := decide (32 ≤ c) && decide (c ≤ 126) && !decide (c = 37)
theorem plainC_t {c : Nat} (h1 : (32 : Int) ≤ (c : Int)) (h2 : (c : Int) ≤ 126) : plainC c = !decide (V.int (c : Int) = V.int 37) := by
  have a1 : 32 ≤ c := by omega
  have a2 : c ≤ 126 := by omega
  unfold plainC
  rw [decide_eq_true a1, decide_eq_true a2, Bool.true_and, Bool.true_and]
  by_cases h : c = 37
  · rw [decide_eq_true h, decide_eq_true (show V.int (c : Int) = V.int 37 by rw [h]; rfl)]
  · rw [decide_eq_false h, decide_eq_false (show ¬ V.int (c : Int) = V.int 37 from fun z => h (by injection z with z; omega))]
theorem plainC_f {c : Nat} (h : ¬ (32 : Int) ≤ (c : Int) ∨ ¬ (c : Int) ≤ 126) : plainC c = false := by
  unfold plainC
  rcases h with h | h
  · rw [decide_eq_false (show ¬ 32 ≤ c by omega)]; rfl
  · rw [decide_eq_false (show ¬ c ≤ 126 by omega), Bool.and_false]; rfl
def plainS (z : Str) : Bool := z.cps.toList.all plainC
def nameC (c : Nat) : Bool := decide (97 ≤ c) && decide (c ≤ 122)
theorem nameC_t {c : Nat} (h : (!decide (([c] : List Nat) < [97])) = true) : nameC c = !decide (([122] : List Nat) < [c]) := by
  rw [sing_lt] at h ⊢
  have h1 : ¬ c < 97 := by simpa using h
  unfold nameC
  rw [decide_eq_true (by omega), Bool.true_and]
  by_cases q : c ≤ 122
  · rw [decide_eq_true q, decide_eq_false (by omega)]; rfl
  · rw [decide_eq_false q, decide_eq_true (by omega)]; rfl
theorem nameC_f {c : Nat} (h : (!decide (([c] : List Nat) < [97])) = false) : nameC c = false := by
  rw [sing_lt] at h
  have h1 : c < 97 := by simpa using h
  unfold nameC
  rw [decide_eq_false (by omega), Bool.false_and]
def nameS (z : Str) : Bool := decide (0 < z.length) && decide (z.length ≤ 6) && z.cps.toList.all nameC
theorem nameS_len {z : Str} (h : ¬ (0 < z.length ∧ z.length ≤ 6)) : nameS z = false := by
  unfold nameS
  by_cases q : 0 < z.length
  · rw [decide_eq_false (show ¬ z.length ≤ 6 from fun r => h ⟨q, r⟩), Bool.and_false, Bool.false_and]
  · rw [decide_eq_false q, Bool.false_and, Bool.false_and]
def sp_is_plain : Sp := fun vs H Q _ => ∃ z : Str, vs = [.str z] ∧ z.length ≤ sizeLine ∧ ∀ H', Same H H' → Q (.bl (plainS z)) H'
def isName : V → Bool
  | .str z => nameS z
  | _ => false
def isPay : V → Bool
  | .str z => decide (z.length ≤ 32) && plainS z
  | _ => false
/-- a text within the line -/
def fitV : V → Prop
  | .str z => z.length ≤ sizeLine
  | _ => True
def sp_is_name : Sp := fun vs H Q _ => ∃ (v : V) (T : String), vs = [v] ∧ Kd H v T ∧ fitV v ∧ ∀ H', Same H H' → Q (.bl (isName v)) H'
def sp_is_payload : Sp := fun vs H Q _ => ∃ (v : V) (T : String), vs = [v] ∧ Kd H v T ∧ fitV v ∧ ∀ H', Same H H' → Q (.bl (isPay v)) H'
/-! ### an item of a list at a drawn place; joined texts -/
theorem menu {α : Type} {xs : List α} {r : Int} (h0 : 0 ≤ r) (h1 : r < (xs.length : Nat)) : ∃ v, v ∈ xs ∧ atI xs r = some v := by
  have hl : r.toNat < xs.length := by omega
  refine ⟨xs[r.toNat], List.getElem_mem hl, ?_⟩
  simp [atI, ixN, h0, h1, hl]
theorem joinL_nil : ∀ l : List (List Nat), TL.joinL [] l = l.flatten
  | [] => rfl
  | [p] => by simp [TL.joinL]
  | p :: q :: r => by
    show p ++ ([] ++ TL.joinL [] (q :: r)) = _
    rw [joinL_nil (q :: r)]
    rfl
theorem join_tl (ys : List Str) : (Txt.join Str.empty ys).cps.toList = (ys.map fun y => y.cps.toList).flatten := by
  rw [TL.join_eq]
  have e := TL.tl_join Str.empty ys
  rw [show TL.tl Str.empty = [] from rfl, joinL_nil] at e
  exact e
theorem str_len (z : Str) : z.length = z.cps.toList.length := rfl
theorem app_tl (x y : Str) : (x ++ y).cps.toList = x.cps.toList ++ y.cps.toList := TL.tl_append x y
theorem flat_len {l : List (List Nat)} {m : Nat} (h : ∀ p ∈ l, p.length = m) : l.flatten.length = l.length * m := by
  induction l with
  | nil => simp
  | cons a r ih =>
    rw [List.flatten_cons, List.length_append, h a List.mem_cons_self, ih fun p hp => h p (List.mem_cons_of_mem _ hp), List.length_cons, Nat.add_mul, Nat.one_mul, Nat.add_comm]
theorem cut_mem {z : Str} {lo hi : Option Int} {c : Nat} (h : c ∈ (cutS z lo hi).cps.toList) : c ∈ z.cps.toList := by
  unfold cutS at h
  simp only [List.toList_toArray] at h
  exact List.mem_of_mem_drop (List.mem_of_mem_take h)
theorem cut_len (z : Str) (lo hi : Option Int) : (cutS z lo hi).length ≤ z.length := by
  rw [str_len, str_len]
  unfold cutS
  simp only [List.toList_toArray, List.length_take, List.length_drop]
  omega
theorem i_dnew {σ : L2.St} {H : Hp} {Q : VK} (q : ∀ p, H p = none → Q (.ref p) (upd H p (.dK []))) : tDNewK σ H Q := q
theorem i_disp1 {σ : L2.St} {H : Hp} {Q : VK} {k : Key} {x y : V} (e : x = kV k) (q : ∀ p, H p = none → Q (.ref p) (upd H p (.dK [(k, y)]))) : tDisp [(tC x, tC y)] σ H Q := fun p hp => by
  subst e
  refine ⟨upd_same, [(k, y)], rfl, Nat.le_of_ble_eq_true rfl, ?_⟩
  rw [upd_upd]
  exact q p hp
theorem i_menuL {K : PySem.W.Frag} {H : Hp} {Q : VK} {p : Addr} {xs : List V} {r : Int} (h : SqL K H p xs) (h0 : 0 ≤ r) (h1 : r < (xs.length : Nat)) (q : ∀ v, v ∈ xs → Q v H) : rIxL K (.ref p) (.int r) H Q := let ⟨_, hv, e⟩ := menu h0 h1; i_ixL h e (q _ hv)
theorem i_menuS {H : Hp} {Q : VK} {z : Str} {r : Int} (l : z.length ≤ sizeLine) (h0 : 0 ≤ r) (h1 : r < (z.length : Nat)) (q : ∀ c, c ∈ z.cps.toList → Q (.str ⟨#[c]⟩) H) : rIxS (.str z) (.int r) H Q := let ⟨_, hv, e⟩ := menu (xs := z.cps.toList) h0 h1; i_ixS l e (q _ hv)
end G
/-! # LF: calls with keywords alone -/
namespace G
open PySem PySem.Spec PyProof.Rows L2
/-- the values in the parameters' order: places in (positional ++ keywords) -/
def gp (perm : List Nat) {α : Type} (us ws : List α) : List α := perm.filterMap fun i => (us ++ ws)[i]?
theorem gp_rel {perm : List Nat} : ∀ {vs : List V} {us : List Value} {zs : List V} {ws : List Value}, Vals vs us → Vals zs ws → Vals (gp perm vs zs) (gp perm us ws) := by
  intro vs us zs ws r q
  have rq := r.append q
  unfold gp
  induction perm with
  | nil => exact .nil
  | cons i p ih =>
    cases e : (vs ++ zs)[i]? with
    | none =>
      rw [List.filterMap_cons_none e, List.filterMap_cons_none (Vals.none_of rq e)]
      exact ih
    | some x =>
      obtain ⟨u, hu, ru⟩ := rq.get e
      rw [List.filterMap_cons_some e, List.filterMap_cons_some hu]
      exact .cons ru ih
theorem kbn_of {K : PySem.W.Frag} {x qual : Str} {params : Arguments} {body : List Stmt} {scope : Scope} {kws : List (Str × V)} {f : Addr} {fd : FuncData} {ps : List Str} (F : FunD K x qual params body scope [] kws f fd) (n : Nat) (ks : List Str) (perm : List Nat)
    (h : ∀ (kV doc pm : Value) (an : Option Addr) (cdv ct : Value) (us ws : List Value), us.length = n → ws.length = ks.length → bindArgs (PySem.W.fnOf x qual params body scope .none kV doc pm an cdv ct) ⟨us, ks.zip ws⟩ = pure (ps.zip (gp perm us ws))) : KBn K fd ps n ks (gp perm) (gp perm) := by
  obtain ⟨oc, od, dV, kV, doc, pm, an, cdv, ct, osl, rfl, lk, hcd, hD, hK⟩ := F.ex
  rcases hD with ⟨_, rfl⟩ | ⟨e, _⟩
  · exact ⟨fun s us ws _ h1 h2 => .of_eq (h kV doc pm an cdv ct us ws h1 h2), gp_rel⟩
  · exact absurd rfl e
def tCallN0 (m : Nat) (sp : Sp) (gV : List V → List V → List V) (E : XK) (tk : TA) : TE := fun σ H Q => tk σ H fun zs H2 => zs.length = m ∧ sp (gV [] zs) H2 Q E
section
variable {X : Cx} {cx : CXT} {k : Nat} {f : Addr} {fd : FuncData} {ps ks : List Str} {sp : Sp} {E : XK} {x : Str} {p pos : Pos} {kws : List Keyword} {tk : TA} {g : List Value → List Value → List Value} {gV : List V → List V → List V}
theorem pe_callN0 (F : FnOk X.prog X.w X.K X.mg X.base cx k f fd ps sp) (hr : Room k X.A) (hg : Gl X x) (hm : X.mg x = some (.ref f)) (hk : PySem.W.keepIn X.K (.ref f) = true) (hb : KBn X.K fd ps 0 ks g gV) (hx : Passes cx X E) (hkw : PK X kws tk)
    (q1 : (backToKw pos (keywordEach kws X.env)).all (·.1.isSome) = true := by rfl) (q2 : (backToKw pos (keywordEach kws X.env)).filterMap (·.1) = ks := by rfl) (q3 : (x == ("__debug__" : Str)) = false := by decide)
    (q4 : ((backTo pos (starEach [] X.env)).any (·.1) || (backToKw pos (keywordEach kws X.env)).any (·.1.isNone)) = false := by rfl) : PE X (.Call (.Name x p) [] kws pos) (tCallN0 ks.length sp gV E tk) := by
  refine ⟨fun pins s σ H Q I h => wpAny_Call_Name_kw (ld_glob I hg hm (PySem.W.callWith_KW0 (h₀ := X.base) I.ok.mod.kin hk q1 (thn (hkw.run pos pins s σ H _ I h) fun ws s2 ⟨zs, H2, I2, rz, l2, hs⟩ => ⟨I2.kIn, ?_⟩) q4) q3)⟩
  have lw : ws.length = ks.length := rz.length ▸ l2
  rw [q2]
  refine wpAny_call (codeAny_mono (F.run X.A X.stack s2 H2 ⟨[], ks.zip ws⟩ (g [] ws) (gV [] zs) Q E hr I2.env0 (hb.to s2 [] ws I2.kIn rfl lw) (hb.rel .nil rz) hs) fun res s' z => ?_)
  rcases res with e | fl
  · exact hx pins σ H2 s2 e s' I2 z
  · cases fl <;> first | exact I2.after z | exact False.elim z
end
theorem i_callN0 {σ : L2.St} {H : Hp} {Q : VK} {m : Nat} {sp : Sp} {gV : List V → List V → List V} {E : XK} {tk : TA} (q : tk σ H fun zs H2 => zs.length = m ∧ sp (gV [] zs) H2 Q E) : tCallN0 m sp gV E tk σ H Q := q
theorem i_notB {H : Hp} {Q : VK} {a b : Bool} (q : Q (.bl (!decide (a = b))) H) : rNotB (.bl a) (.bl b) H Q := ⟨a, b, rfl, rfl, q⟩
theorem i_repr {K : PySem.W.Frag} {H : Hp} {Q : VK} {v : V} {d : PyData} (h : Dq K H v d) (ok : Okd 16000000 60 d) (q : Q (.str d.shown) H) : rRepr K [v] H Q := ⟨v, d, rfl, h, ok, q⟩
theorem same_kp {p : Addr} {H X Y : Hp} (s : Same H X) (hp : H p = none) (k : Kp p X Y) : Same H Y := fun b o h => k b o (ne_of_none h hp) (s b o h)
theorem BoxAt.same {n : Nat} {H H' : Hp} {a : Addr} (b : BoxAt n H a) (s : Same H H') : BoxAt n H' a := let ⟨o, h1, h2⟩ := b; ⟨o, s _ _ h1, h2⟩
theorem Okd.sm {n k : Nat} {d : PyData} (h : Okd n k d) (hn : Nat.ble n 16000000 = true := by rfl) (hk : Nat.ble k 60 = true := by rfl) : Okd 16000000 60 d := h.mono (Nat.le_of_ble_eq_true hn) (Nat.le_of_ble_eq_true hk)
theorem same_kp' {p : Addr} {H X Y : Hp} (k : Kp p X Y) (hp : H p = none) (s : Same H X) : Same H Y := same_kp s hp k
theorem same_tr {H X Y : Hp} (t : Same X Y) (s : Same H X) : Same H Y := s.trans t
theorem kd_kp {a : Addr} {H H' : Hp} {v : V} {T : String} (s : Kp a H H') (n : v ≠ .ref a) (k : Kd H v T) : Kd H' v T := k.kp n s
theorem kd_same {H H' : Hp} {v : V} {T : String} (s : Same H H') (k : Kd H v T) : Kd H' v T := k.same s
theorem kd_new {H : Hp} {p : Addr} {o : HO} {v : V} {T : String} (hp : H p = none) (k : Kd H v T) : Kd (upd H p o) v T := k.same (same_new hp)
theorem take_ {H : Hp} {Q : VK} {E : XK} {a : Addr} {m : Int} {n : Nat} (bx : BoxAt n H a) (hn : n ≤ 1000000) (h1 : 0 < m) (h2 : m < 1073741824) (q : ∀ (r : Int) (H' : Hp), 0 ≤ r → r < m → BoxAt (n + 1) H' a → Kp a H H' → Q (.int r) H') : sp_l_take [.ref a, .int m] H Q E :=
  ⟨a, m, n, rfl, bx, hn, h1, h2, fun r _ h0 h1 ho => q r _ h0 h1 (.of ho) .box⟩
theorem box_same {n : Nat} {H H' : Hp} {a : Addr} (s : Same H H') (b : BoxAt n H a) : BoxAt n H' a := b.same s
theorem kp_tr {a : Addr} {H H1 H2 : Hp} (l : Kp a H1 H2) (k : Kp a H H1) : Kp a H H2 := k.trans l
theorem kp_same {a : Addr} {H H1 H2 : Hp} (l : Same H1 H2) (k : Kp a H H1) : Kp a H H2 := fun b o n h => l b o (k b o n h)
theorem old' {H : Hp} {a p : Addr} {o u : HO} (hp : H p = none) (h : H a = some o) : upd H p u a = some o := old h hp
theorem box_new {n : Nat} {H : Hp} {a p : Addr} {o : HO} (hp : H p = none) (h : BoxAt n H a) : BoxAt n (upd H p o) a := h.new hp
theorem box_wr {n : Nat} {H : Hp} {a p : Addr} {o : HO} (hp : a ≠ p) (h : BoxAt n H a) : BoxAt n (upd H p o) a := h.wr hp
theorem kp_new {a p : Addr} {H H' : Hp} {o : HO} (hp : H' p = none) (k : Kp a H H') : Kp a H (upd H' p o) := k.new hp
theorem same_nw {H H' : Hp} {p : Addr} {o : HO} (hp : H' p = none) (s : Same H H') : Same H (upd H' p o) := G.Same.new s hp
end G
/-! # LG: own exceptions whose __init__ says super().__init__(f) and self.f = f -/
namespace PySem
namespace XV
open PySem.W PySem.Calls PyProof.Rows PySem.HandSPX Builtin Builtin.ObjectAttr
def xA (f : Str) (p1 p2 : Pos) : Arguments := { posonlyargs := [], args := [{ arg := "self", annotation := none, pos := p1 }, { arg := f, annotation := none, pos := p2 }], vararg := none, kwonlyargs := [], kw_defaults := [], kwarg := none, defaults := [] }
def xB (f : Str) (s0 s1 a0 v0 c0 e0 g0 g1 g2 g3 : Pos) : List Stmt :=
  [.Expr (.Call (.Attribute (.Call (.Name "super" s0) [] [] s1) "__init__" a0) [.Name f v0] [] c0) e0, .Assign [.Attribute (.Name "self" g2) f g1] (.Name f g3) g0]
def xS (f : Str) : Scope := { kind := .function, names := [(PySem.Str.ofString "self", .local), (f, .local), (PySem.Str.ofString "__class__", .free), (PySem.Str.ofString "super", .globalImplicit)], isGenerator := false, isCoroutine := false, more := [] }
/-- what the field's name must be -/
structure FName (f : Str) : Prop where
  lf : (xS f).names.lookup f = some .local
  lc : (xS f).names.lookup ("__class__" : Str) = some .free
  ls : (xS f).names.lookup ("super" : Str) = some .globalImplicit
  ns : (("self" : Str) == f) = false
  nd : (f == ("__debug__" : Str)) = false
  bd : ∀ (qual : Str) (p1 p2 : Pos) (body : List Stmt) (doc pm : Value) (an : Option Addr) (cdv ct : Value) (cc : Addr) (x v : Value), bindArgs (ksFn "__init__" qual (xA f p1 p2) body (xS f) .none .none doc pm an cdv ct cc) ⟨[x, v], []⟩ = pure [(PySem.Str.ofString "self", x), (f, v)]
theorem fname_value : FName "value" := ⟨by decide +kernel, by decide +kernel, by decide +kernel, by decide +kernel, by decide +kernel, fun _ _ _ _ _ _ _ _ _ _ _ _ => by first | rfl | with_unfolding_all rfl⟩
theorem fname_count : FName "count" := ⟨by decide +kernel, by decide +kernel, by decide +kernel, by decide +kernel, by decide +kernel, fun _ _ _ _ _ _ _ _ _ _ _ _ => by first | rfl | with_unfolding_all rfl⟩
theorem fname_number : FName "number" := ⟨by decide +kernel, by decide +kernel, by decide +kernel, by decide +kernel, by decide +kernel, fun _ _ _ _ _ _ _ _ _ _ _ _ => by first | rfl | with_unfolding_all rfl⟩
/-- what the written part says of the class at C, over the built-in B, and of its __init__ at fI -/
structure XTxt (P : Program) (K : Frag) (f : Str) (C fI : Addr) (newId initId : String) (bmB : List Value) (B : String) : Prop where
  ini : excInitIn K C bmB newId = true
  ovr : excOver K C bmB = true
  sa : findIn K (.ref C) "__setattr__" = some (some (.builtin "object.__setattr__"))
  noF : findIn K (.ref C) f = some none
  hd : hasDictIn K C = true
  iC : findIn K (.ref C) "__init__" = some (some (.ref fI))
  tI : typeIn K (.ref fI) = some (.type "function")
  sup : ks_superIn K C C "__init__" = some (some (.builtin initId))
  subB : subIn K (.ref C) (.type B) = some true
  slf : mroIn K C (.ref C) = some true
  th : nsIn K cStatics "thirdparty.any" = some none
  sg : nsIn K mainGlobals "super" = some none
  tp : (P.main.scope.names.lookup ("super" : Str)).isSome = false
  fn : ∃ (oc : Value) (od : Option Addr) (doc pm : Value) (an : Option Addr) (cda : Addr) (ct : Value) (cc : Addr) (osl : Array (Option Value)) (cl : Value) (cld : Option Addr) (csl : Array (Option Value)) (ccl : Value) (cdd : Option Addr) (ccs : Array (Option Value)) (vs : Array Value)
      (file : Str) (tf : Tok) (qual : Str) (p1 p2 s0 s1 a0 v0 c0 e0 g0 g1 g2 g3 : Pos),
    K.lookup fI = some ⟨oc, od, .func (ksFn "__init__" qual (xA f p1 p2) (xB f s0 s1 a0 v0 c0 e0 g0 g1 g2 g3) (xS f) .none .none doc pm an (.ref cda) ct cc), osl⟩ ∧ codeIn K (.ref cda) qual = true ∧
    K.lookup cc = some ⟨cl, cld, .cell (some (.ref C)), csl⟩ ∧ K.lookup cda = some ⟨ccl, cdd, .fields vs, ccs⟩ ∧ vs[2]? = some (.str file tf) ∧ ((P.main.file : Str) == file) = true ∧ (a0.endLine == c0.line) = true
structure XInit (h h' : Heap) (x C dx : Addr) (f : Str) (v : Value) : Prop where
  keep : ∀ b o, b ≠ x → h.get? b = some o → h'.get? b = some o
  obj : ∃ t1 : Addr, h'.get? x = some { cls := .ref C, dict := some dx, data := .fields #[.ref t1, .none, .none, .none, .bool false, .none] }
  dbig : h.objs.size ≤ dx
  dne : dx ≠ x
  ns : h'.Ns1 dx (fun y => if y = f then some v else none)
section
variable {prog : Program} {w : World} {A : Around} {E : Value → Shared → Prop} {R : Result → Shared → Prop} {s : Shared} {K : Frag} {mg mb : Str → Option Value} {C fI : Addr} {f : Str} {B newId initId : String} {bmB : List Value}
theorem eval_sup {env : Env} {s0 s1 a0 v0 c0 : Pos} (hl : (a0.endLine == c0.line) = true) : eval (.Call (.Attribute (.Call (.Name "super" s0) [] [] s1) "__init__" a0) [.Name f v0] [] c0) env = (do
      let ov ← attributeBase (.Call (.Name "super" s0) [] [] s1) "__init__" env (eval (.Call (.Name "super" s0) [] [] s1) env)
      standAt a0.atName
      let (f', first) ← holding [ov] (getMethod ov "__init__" (L2.plainOf (.Call (.Name "super" s0) [] [] s1) env))
      callWith c0 f' first (backTo c0 (starEach [.Name f v0] env)) []) := by
  have e : eval (.Call (.Attribute (.Call (.Name "super" s0) [] [] s1) "__init__" a0) [.Name f v0] [] c0) env = (do
      let ov ← attributeBase (.Call (.Name "super" s0) [] [] s1) "__init__" env (eval (.Call (.Name "super" s0) [] [] s1) env)
      standAt a0.atName
      methodCall (.Call (.Name "super" s0) [] [] s1) "__init__" a0 c0 env ov 1 (backTo c0 (starEach [.Name f v0] env)) []) := by rfl
  rw [e]
  simp only [L2.mcall_line (show methodCallForm 1 (backTo c0 (starEach [.Name f v0] env)) [] = true from rfl) hl]
/-- self.f = v of an exception that has no dict yet -/
theorem x_store (SF : StoreFacts B bmB "object.__setattr__" "object") {x t : Addr} {v : Value} (X : K.In s.heap) (hx : s.heap.get? x = some (excO C t)) (hov : excOver K C bmB = true) (hd : hasDictIn K C = true) (sa : findIn K (.ref C) "__setattr__" = some (some (.builtin "object.__setattr__"))) (nf : findIn K (.ref C) f = some none) {Q : Unit → Shared → Prop}
    (hq : ∀ h' tk dx, (∀ b o, b ≠ x → s.heap.get? b = some o → h'.get? b = some o) → s.heap.objs.size ≤ dx → dx ≠ x → h'.get? x = some { cls := .ref C, dict := some dx, data := .fields #[.ref t, .none, .none, .none, .bool false, .none] } →
      h'.Ns1 dx (fun y => if y = f then some v else none) → Q () { s with heap := h', toks := tk }) : wpAny (model prog w) A (setAttr (.ref x) f v) Q E s := by
  refine set_plain X (ox := excO C t) (od := none) ⟨hx, rfl, rfl, trivial⟩ sa ?_
  have tkr : takerIn K C f = some none := by unfold takerIn; rw [nf] <;> rfl
  obtain ⟨cd, hc, hdc⟩ := any_some hd
  have hcls : W.Looks (model prog w) s.heap (classData C) cd := W.looks_clsIn X hc
  have hxs : x ≠ s.heap.objs.size := Nat.ne_of_lt (Heap.lt_size hx)
  refine osa_openX (s := { s with toks := s.toks + 1 }) (od := none) SF X ⟨hx, rfl, rfl, trivial⟩ hov tkr fun b => ?_
  obtain ⟨hp, g, d, t', os⟩ := s
  obtain ⟨nm, bs, mro, ns, qn, hdd, sn, sb, ab, col, del⟩ := cd
  dsimp only at hdc
  subst hdc
  show wpAny _ _ (storeInOwnDict (.ref x) (.ref C) _ f v b) _ _ _
  unfold storeInOwnDict ownDictForStores
  repeat (first | with_reducible refine store_in_new ?_ ?_ | with_reducible refine wpAny_loadPart_at hx ?_ | with_reducible refine hcls.at ?_ | wp_step)
  · exact ⟨_, #[], _, (Heap.get?_update_ne _ _ _ _ hxs.symm).trans (Heap.get?_push_at rfl rfl), rfl, fun e he => absurd he (by simp), fun _ => rfl⟩
  · intro h' tk' hn' hs
    have hx1 : (hp.push { cls := .type "dict", data := .dict #[] }).get? x = some (excO C t) := Heap.get?_push_of_some _ hx
    refine hq h' tk' hp.objs.size (fun b o hb ho => ?_) (Nat.le_refl _) hxs.symm ?_ hn'
    · exact (hs.2 b (Nat.ne_of_lt (Heap.lt_size ho))).trans ((Heap.get?_update_ne _ _ _ _ hb).trans (Heap.get?_push_of_some _ ho))
    · exact (hs.2 x hxs).trans (Heap.get?_update_self _ hx1 rfl)
/-- super().__init__(v), called: the wrapper at u -/
theorem x_super (FB : ExcBaseFacts B newId initId bmB) {x t u : Addr} {v : Value} {Q : Value → Shared → Prop} (X : K.In s.heap) (ini : excInitIn K C bmB newId = true) (hx : s.heap.get? x = some (excO C t)) (hu : s.heap.get? u = some (kxs_mw initId x))
    (hq : ∀ h' t1, (∀ b o, b ≠ x → s.heap.get? b = some o → h'.get? b = some o) → h'.get? x = some (excO C t1) → Q .none { s with heap := h' }) : wpAny (model prog w) A (call (.ref u) [v]) Q E s := by
  obtain ⟨nm, N', qn, bs, bm, hdct, sn, sub, ab, col, dd, k0, k1, k2, k3, k5, hC, hT⟩ := excInit_of X ini
  obtain ⟨hh, g, d, tk, os⟩ := s
  refine wpAny_call (codeAny_of_tree ?_)
  show wpAny _ A.in1 (callAny (.ref u) ⟨[v], []⟩) _ _ _
  simp only [callAny]
  refine wpAny_bind (wpAny_load hu ?_)
  simp only [kxs_mw, show (Value.type "method-wrapper" == Value.type "method" || Value.type "method-wrapper" == Value.type "builtin_function_or_method" || Value.type "method-wrapper" == Value.type "method-wrapper") = true by decide, if_true]
  refine KFB.if_so (by decide) (wpAny_bind (check_bound_init FB.toExcCallFacts hC hx rfl (wpAny_bind (wpAny_pure (wpAny_pure ⟨plainId_quiet FB.init.plain _, codeAny_builtin FB.initEntry ?_⟩)))))
  exact exc_init_tree (cls := .ref C) (t0 := t) (dv := none) (c2 := .none) (c3 := .none) (b4 := .bool false) hx (by rw [sizeLine_eq]; exact (by decide : 1 ≤ 16777216)) fun h' k e _ => hq h' _ k e
theorem x_init (FB : ExcBaseFacts B newId initId bmB) (KF : KxsFacts B initId) (SF : StoreFacts B bmB "object.__setattr__" "object") (N : FName f) (T : XTxt prog K f C fI newId initId bmB B) {x t0 : Addr} {v : Value}
    (X : K.In s.heap) (G : s.heap.Ns mainGlobals mg) (Bn : s.heap.Ns builtinsNs mb) (hbb : ∀ x : Str, x ≠ "__name__" → mb x = bootBuiltins x) (hlim : s.heap.NoLimit) (hx : s.heap.get? x = some (excO C t0)) (hnx : K.lookup x = none) (hroom : A.depth < recursionLimit)
    (hq : ∀ h' tk dx, XInit s.heap h' x C dx f v → R (.ok (.ret .none)) { s with heap := h', toks := tk }) : codeAny (model prog w) A (.call (.ref fI) ⟨[.ref x, v], []⟩) R s := by
  obtain ⟨oc, od, doc, pm, an, cda, ct, cc, osl, cl, cld, csl, ccl, cdd, ccs, vs, file, tf, qual, p1, p2, s0, s1, a0, v0, c0, e0, g0, g1, g2, g3, lk, hcd, hcell, hcode, hvs, hfile, hline⟩ := T.fn
  refine ks_codeAny_call_defAt (fd := ksFn "__init__" qual (xA f p1 p2) (xB f s0 s1 a0 v0 c0 e0 g0 g1 g2 g3) (xS f) .none .none doc pm an (.ref cda) ct cc) (body := xB f s0 s1 a0 v0 c0 e0 g0 g1 g2 g3) (binds := [("self", .ref x), (f, v)]) hroom (X _ _ lk) rfl hlim (codeRec_of X hcd) rfl
    (BindsTo.of_eq (N.bd _ _ _ _ _ _ _ _ _ _ _ _)) ?hce ?hlo (fun h1 hns hk => ?_)
  case hce =>
    intro y hy
    have hy' : y ∈ [(PySem.Str.ofString "self", NameKind.local), (f, .local), (PySem.Str.ofString "__class__", .free), (PySem.Str.ofString "super", .globalImplicit)] := hy
    simp only [List.mem_cons, List.not_mem_nil, or_false] at hy'
    rcases hy' with rfl | rfl | rfl | rfl <;> exact fun z => nomatch z
  case hlo =>
    intro y hy
    simp only [List.mem_cons, List.not_mem_nil, or_false] at hy
    rcases hy with rfl | rfl
    · rfl
    · exact N.lf
  have X1 : K.In h1 := X.keeps hk
  have hx1 := hk _ _ hx
  have lf : ([("self", .ref x), (f, v)] : List (Str × Value)).reverse.lookup f = some v := by
    show List.lookup f [(f, v), (("self" : Str), Value.ref x)] = some v
    simp [List.lookup]
  have ls : ([("self", .ref x), (f, v)] : List (Str × Value)).reverse.lookup ("self" : Str) = some (.ref x) := by
    show List.lookup ("self" : Str) [(f, v), (("self" : Str), Value.ref x)] = some (.ref x)
    simp only [List.lookup, N.ns]
    rfl
  obtain ⟨cd, hcC, _⟩ := any_some T.hd
  obtain ⟨oD, hD1, hD2⟩ : ∃ oD, h1.get? C = some oD ∧ oD.data = .cls cd := by
    unfold clsIn at hcC
    split at hcC
    · rename_i c d cd' sl ho
      cases hcC
      exact ⟨_, X1 _ _ ho, rfl⟩
    · cases hcC
  have I1 : InstAt h1 x (excO C t0) C none := ⟨hx1, rfl, rfl, trivial⟩
  have hsz : s.heap.objs.size < h1.objs.size := hns.lt
  have hxL : x ≠ s.heap.objs.size := Nat.ne_of_lt (Heap.lt_size hx)
  refine ks_wpAt_execs_cons (ks_wpAt_Expr_any (ks_wpAt_MethodCall ?_ (eval_sup hline)))
  refine ks_wpAt_super_base N.ls N.lc (by decide +kernel) rfl (X1 _ _ lk) rfl rfl rfl (X1 _ _ hcode) rfl hvs hfile T.tp ?_
  refine ks_loadName_global rfl N.ls (loadGlobal_builtin (G.keeps hk) (mg_none_of X G T.sg) (Bn.keeps hk) ((hbb _ (by decide +kernel)).trans (by decide +kernel)) ⟨rfl, ?_⟩)
  refine wpAny_loadName_free rfl N.lc rfl ⟨_, X1 _ _ hcell, rfl⟩ ?_
  refine wpAny_loadName_local rfl (show (xS f).names.lookup ("self" : Str) = some .local from rfl) hns ls ?_
  refine ks_wpAny_isType_cls hD1 hD2 ⟨rfl, ?_⟩
  refine ks_wpAny_call_super hD1 hD2 hx1 rfl (fun c => fun z => nomatch z) (looks_mroIn X1 T.slf) (fun h2 e2 k2 => ?_)
  have X2 : K.In h2 := X1.keeps k2
  have I2 : InstAt h2 x (excO C t0) C none := ⟨k2 _ _ hx1, rfl, rfl, trivial⟩
  have hm : alongIn K "__init__" ((cd.mro.dropWhile (· != .ref C)).drop 1) = some (some (.builtin initId)) := by
    have z := T.sup
    unfold ks_superIn at z
    rw [hcC] at z
    exact z
  refine kxs_getMethod KF e2 (looks_opaque X2 T.th) (l₀ := cd.mro) (fun A Q E s k q => wpAny_bind ((looks_clsIn X2 hcC) A _ E s k (wpAny_pure q))) rfl X2 hm (I2.type.andThen (looks_subIn X2 T.subB)) (ks_ne X1 I1 hcC) (by decide +kernel) ?_
  have k3 : ∀ b o, h1.get? b = some o → (h2.push (kxs_mw initId x)).get? b = some o := fun b o z => Heap.get?_push_of_some _ (k2 b o z)
  refine kxs_callWith (i := initId) (x := x) rfl ?_
  refine evalArgs_plain (x := eval (.Name f v0) _) (rest := []) (spliced_cons ?_)
  refine wpAny_Name (wpAny_loadName_local rfl ?_ (hns.keeps k3) lf ?_) N.nd
  · exact N.lf
  refine spliced_nil ⟨Heap.get?_push_at rfl rfl, ?_⟩
  show wpAny _ _ (call (.ref h2.objs.size) [v]) _ _ _
  refine x_super FB (X2.keeps fun b o z => Heap.get?_push_of_some _ z) T.ini (Heap.get?_push_of_some _ (k2 _ _ hx1)) (Heap.get?_push_at rfl rfl) (fun h4 t1 k4 hx4 => ?_)
  have k14 : ∀ b o, b ≠ x → h1.get? b = some o → h4.get? b = some o := fun b o hb z => k4 b o hb (k3 b o z)
  have X4 : K.In h4 := fun a o z => k14 a o (fun y => by rw [y, hnx] at z; cases z) (X1 a o z)
  have hns4 : h4.Ns s.heap.objs.size (fun y => ([("self", .ref x), (f, v)] : List (Str × Value)).reverse.lookup y) := let ⟨o, es, n, q, dd, r⟩ := hns; ⟨o, es, n, k14 _ _ hxL.symm q, dd, r⟩
  show wpAt _ _ _ (execs _ _) _ _ _
  refine ks_wpAt_execs_cons (ks_wpAt_Assign_Attr (wpAt_of_wpAny ?_))
  refine wpAny_Name (wpAny_loadName_local rfl ?_ hns4 lf ?_) N.nd
  · exact N.lf
  refine wpAny_Name (wpAny_loadName_local rfl (show (xS f).names.lookup ("self" : Str) = some .local from rfl) hns4 ls ?_) (by decide +kernel)
  refine x_store SF X4 hx4 T.ovr T.hd T.sa T.noF (fun h5 tk5 dx k5 db dn hx5 n5 => ?_)
  show wpAt _ _ _ (execs _ _) _ _ _
  refine wpAt_of_wpAny (wpAny_execs_nil ?_)
  have big : s.heap.objs.size ≤ dx := by
    have z : s.heap.objs.size < h4.objs.size := hns4.lt
    exact Nat.le_of_lt (Nat.lt_of_lt_of_le z db)
  exact hq h5 tk5 dx ⟨fun b o hb z => k5 b o hb (k14 b o hb (hk b o z)), ⟨t1, hx5⟩, big, dn, n5⟩
/-- C(v), made -/
structure XMade (h h' : Heap) (e C d : Addr) (f : Str) (v : Value) : Prop where
  keep : ∀ b o, h.get? b = some o → h'.get? b = some o
  new : h.objs.size ≤ e
  obj : ∃ oe vs, h'.get? e = some oe ∧ oe.cls = .ref C ∧ oe.dict = some d ∧ oe.data = .fields vs ∧ vs[1]? = some .none
  dbig : h.objs.size ≤ d
  dne : d ≠ e
  ns : h'.Ns1 d (fun y => if y = f then some v else none)
theorem x_made (FB : ExcBaseFacts B newId initId bmB) (KF : KxsFacts B initId) (SF : StoreFacts B bmB "object.__setattr__" "object") (N : FName f) (T : XTxt prog K f C fI newId initId bmB B) {v : Value}
    (X : K.In s.heap) (G : s.heap.Ns mainGlobals mg) (Bn : s.heap.Ns builtinsNs mb) (hbb : ∀ x : Str, x ≠ "__name__" → mb x = bootBuiltins x) (hlim : s.heap.NoLimit) (hroom : A.depth + 1 < recursionLimit)
    (hq : ∀ h' tk e d, XMade s.heap h' e C d f v → R (.ok (.ret (.ref e))) { s with heap := h', toks := tk }) : codeAny (model prog w) A (.call (.ref C) ⟨[v], []⟩) R s := by
  obtain ⟨nm, N', qn, bs, bm, hdct, sn, sub, ab, col, dd, k0, k1, k2, k3, k5, hC, hT⟩ := excInit_of X T.ini
  obtain ⟨hp, g, dr, tk, os⟩ := s
  have kk : ∀ b o, hp.get? b = some o → ((hp.push (kdv_tup [v])).push (excO C hp.objs.size)).get? b = some o := fun b o z => Heap.get?_push_of_some _ (Heap.get?_push_of_some _ z)
  have hget : ((hp.push (kdv_tup [v])).push (excO C hp.objs.size)).get? (hp.objs.size + 1) = some (excO C hp.objs.size) := by heap_get
  have hnx : K.lookup (hp.objs.size + 1) = none := by
    rcases Option.eq_none_or_eq_some (K.lookup (hp.objs.size + 1)) with z | ⟨o, z⟩
    · exact z
    · have q : hp.get? (hp.objs.size + 1) = some o := X _ _ z
      exact absurd (Nat.lt_of_succ_lt (Heap.lt_size q)) (Nat.lt_irrefl _)
  refine HandSPX.call_own FB hT hC (looks_findIn X T.iC) (fun self => bind_fn X self T.tI) (by rw [sizeLine_eq]; exact (by decide : 1 ≤ 16777216)) ?_
  refine x_init (s := ⟨(hp.push (kdv_tup [v])).push (excO C hp.objs.size), g, dr, tk, os⟩) FB KF SF N T (X.keeps kk) (G.keeps kk) (Bn.keeps kk) hbb (hlim.keeps kk) hget hnx ?_ (fun h' tk' dx M => ?_)
  · exact hroom
  · obtain ⟨k', ⟨t1, hx⟩, dn, dne, hns⟩ := M
    have oldk : ∀ b o, hp.get? b = some o → h'.get? b = some o := fun b o z => k' b o (Nat.ne_of_lt (Nat.lt_succ_of_lt (Heap.lt_size z))) (kk b o z)
    have z : hp.objs.size + 1 + 1 ≤ dx := by
      have q := dn
      rw [Heap.size_push, Heap.size_push] at q
      exact q
    exact ⟨rfl, hq h' tk' (hp.objs.size + 1) dx ⟨oldk, Nat.le_succ _, ⟨_, _, hx, rfl, rfl, rfl, rfl⟩, Nat.le_trans (Nat.le_trans (Nat.le_succ _) (Nat.le_succ _)) z, dne, hns⟩⟩
end
end XV
end PySem
/-! # LH: raise and try over the own exceptions of LG -/
namespace G
open PySem PySem.Spec PyProof.Rows L2
/-- the except clauses and what they wish: «X as n», «X», or clauses that are never come to -/
inductive HG (X : Cx) : List ExceptHandler → (Ends → WX) → Prop
  | stop (hds : List ExceptHandler) : HG X hds (fun _ _ _ _ _ => False)
  | as_ {x n : Str} {c : Value} {i : Nat} {ts : Addr → Value → Option Addr → TS} {b₀ : Stmt} {suite : List Stmt} {np p' : Pos} {hds : List ExceptHandler} {W : Ends → WX} (nd : X.N.Nodup) (hi : X.N[i]? = some n) (hl : X.env.kindOf n = some .local) (hc : Names X x c)
      (hsu : ∀ (a : Addr) (oe : Obj) (cls : Value) (d : Option Addr) (pn : List (Addr × Obj)), Zc cls d oe → (∃ vs, oe.data = .fields vs) → PSs (X.suite a ((a, oe) :: pn)) (b₀ :: suite) (ts a cls d)) (r : HG X hds W) :
      HG X (.ExceptHandler (some (.Name x np)) (some n) (b₀ :: suite) p' :: hds) (fun D => wAs X.K c i ts (W D) D)
  | only {x : Str} {c : Value} {ts : Addr → Value → Option Addr → TS} {b₀ : Stmt} {suite : List Stmt} {np p' : Pos} {hds : List ExceptHandler} {W : Ends → WX} (hc : Names X x c)
      (hsu : ∀ (a : Addr) (oe : Obj) (cls : Value) (d : Option Addr) (pn : List (Addr × Obj)), Zc cls d oe → (∃ vs, oe.data = .fields vs) → PSs (X.suite a ((a, oe) :: pn)) (b₀ :: suite) (ts a cls d)) (r : HG X hds W) :
      HG X (.ExceptHandler (some (.Name x np)) none (b₀ :: suite) p' :: hds) (fun D => wOnly X.K c ts (W D) D)
section
variable {X : Cx} {body : List Stmt} {hds : List ExceptHandler} {pos : Pos} {tb : WX → TS} {W : Ends → WX} {hd0 : ExceptHandler}
theorem ps_tryG (hs : X.stack = X.env :: X.outer) (hf : X.env.frame = some X.env.locals)
    (hb : ∀ (W : WX) (pn : List (Addr × Obj)) (xe : Value → Shared → Prop), Takes (X.tr pn xe) W → PassesOwn (model X.prog X.w) X.A X.env xe → PSs (X.tr pn xe) body (tb W)) (hh : HG X (hd0 :: hds) W) :
    PS X (.Try body (hd0 :: hds) [] [] pos) (fun D σ H => tb (W D) D σ H) := ⟨fun pins s σ H D I h => by
  have ok := I.ok
  have fr : X.A.frames = some (X.env :: X.outer) := hs ▸ ok.frames
  refine wpAny_Try_except (wpAny_mono ((hb (W D) (X.pn ++ pins) (fun e s₁ => wpAny (model X.prog X.w) X.A (noteFrame e X.env) (fun _ s₂ => wpAny (model X.prog X.w) X.A (setFlight e none) (fun _ s₃ => wpAny (model X.prog X.w) X.A (handleBy e X.env (hd0 :: hds)) (SP X pins D) X.xe s₃) X.xe s₂) X.xe s₁) (fun u s' xx => ?_)
    PassesOwn.looking).run [] s σ H D (I.toTry _) h) (fun fl s1 z => ?_) fun _ _ z => z)
  · obtain ⟨ea, B, sI, pins', σ', H', cls, d, rfl, J', nb, up, sky, na, os, ag, w⟩ := xx
    have J : Inv X pins σ' H' sI := J'.ofTry ok
    refine Sky.land Zc.steady fr hf (hs ▸ sky) fun h3 fl3 up3 => ?_
    have J3 : Inv X pins σ' H' { s' with heap := h3 } := J.landed nb fl3.1 (up.trans up3) os ag
    obtain ⟨oe3, vs3, he3, hz3, hd3⟩ := fl3.there
    have nfr : ea ∉ frs (X.env :: X.outer) := fun hm => by
      obtain ⟨_, o', e', hnf⟩ := fl3.2.2.1.mem hm
      rw [he3] at e'
      cases e'
      exact hnf _ hd3
    have nL : ea ≠ X.env.locals := fun z => nfr (List.mem_filterMap.mpr ⟨X.env, List.mem_cons_self, hf.trans (congrArg some z.symm)⟩)
    have nF : ea ∉ X.fs := fun hm => let ⟨e, he, q⟩ := List.mem_filterMap.mp hm; nfr (List.mem_filterMap.mpr ⟨e, List.mem_cons_of_mem _ he, q⟩)
    have S3 := J3.suite he3 hd3 na nL nF
    have LT : PySem.W.Looks (model X.prog X.w) h3 (typeOf (.ref ea)) cls := fun A Q E s k q => wpAny_typeOf_ref (k _ _ he3) (hz3.1 ▸ q)
    have test : ∀ {x : Str} {c : Value} {np : Pos} {Q : Value → Shared → Prop} {E : Value → Shared → Prop}, Names X x c → Q c { s' with heap := h3 } → wpAny (model X.prog X.w) (X.A.mark (some (.ref ea))) (eval (.Name x np) X.env) Q E { s' with heap := h3 } := fun {x c np Q E} hc q => by
      obtain ⟨g1, g2, g3 | ⟨g3, g4, g5⟩⟩ := hc
      · exact ld_glob (X := X.suite ea ((ea, oe3) :: (X.pn ++ pins))) S3 g1 g3 q g2
      · exact ld_blt (X := X.suite ea ((ea, oe3) :: (X.pn ++ pins))) S3 g1 g3 g4 q g5 g2
    have go : ∀ {hl : List ExceptHandler} {W' : Ends → WX}, HG X hl W' → W' D cls d σ' H' → wpAny (model X.prog X.w) X.A (handleBy (.ref ea) X.env hl) (SP X pins D) X.xe { s' with heap := h3 } := by
      intro hl W' hk
      induction hk with
      | stop hds => exact fun z => False.elim z
      | as_ nd hi hln hc hsu r ih =>
        rintro ⟨b, hb1, hyes, hno⟩
        refine wpAny_handleBy_cons (codeAny_handlers_test (test hc ((PySem.W.exm_one (M := model X.prog X.w) J3.kIn LT hb1).here ?_))) (fun q => nomatch q)
        cases b with
        | false => exact ih (hno rfl)
        | true =>
          refine codeAny_handlers_suite_as (HandSPX.lands_againZ fl3 fun h4 fl4 up4 => ?_)
          have J4 : Inv X pins σ' H' { s' with heap := h4 } := J.landed nb fl4.1 ((up.trans up3).trans up4) os ag
          obtain ⟨oe4, vs4, he4, hz4, hd4⟩ := fl4.there
          refine store_ok (X := X.suite ea ((ea, oe4) :: (X.pn ++ pins))) (v := .ref ea) (J4.suite he4 hd4 na nL nF) nd hi (.inl hln) rfl (fun s5 S5 => ?_) (.inr hln)
          refine wpAny_mono ((hsu ea oe4 cls d (X.pn ++ pins) hz4 ⟨_, hd4⟩).run [] s5 _ H' _ S5 (hyes rfl ea na)) (fun f6 s6 z => ?_) (fun _ _ z => False.elim z)
          cases f6 with
          | ret u => exact let ⟨_, _, _, S6, r6, q6⟩ := z; gone_ok (S6.unsuite ok) nd hi hln fun s7 J7 => ⟨_, _, _, J7, r6, q6⟩
          | next => exact let ⟨_, _, S6, q6⟩ := z; gone_ok (S6.unsuite ok) nd hi hln fun s7 J7 => ⟨_, _, J7, q6⟩
          | brk => exact let ⟨_, _, S6, q6⟩ := z; gone_ok (S6.unsuite ok) nd hi hln fun s7 J7 => ⟨_, _, J7, q6⟩
          | cont => exact let ⟨_, _, S6, q6⟩ := z; gone_ok (S6.unsuite ok) nd hi hln fun s7 J7 => ⟨_, _, J7, q6⟩
      | only hc hsu r ih =>
        rintro ⟨b, hb1, hyes, hno⟩
        refine wpAny_handleBy_cons (codeAny_handlers_test (test hc ((PySem.W.exm_one (M := model X.prog X.w) J3.kIn LT hb1).here ?_))) (fun q => nomatch q)
        cases b with
        | false => exact ih (hno rfl)
        | true =>
          refine codeAny_handlers_suite (HandSPX.lands_againZ fl3 fun h4 fl4 up4 => ?_)
          have J4 : Inv X pins σ' H' { s' with heap := h4 } := J.landed nb fl4.1 ((up.trans up3).trans up4) os ag
          obtain ⟨oe4, vs4, he4, hz4, hd4⟩ := fl4.there
          refine wpAny_mono ((hsu ea oe4 cls d (X.pn ++ pins) hz4 ⟨_, hd4⟩).run [] _ _ H' _ (J4.suite he4 hd4 na nL nF) (hyes rfl ea na)) (fun f6 s6 z => ?_) (fun _ _ z => False.elim z)
          cases f6 with
          | ret u => exact let ⟨_, _, _, S6, r6, q6⟩ := z; ⟨_, _, _, S6.unsuite ok, r6, q6⟩
          | next => exact let ⟨_, _, S6, q6⟩ := z; ⟨_, _, S6.unsuite ok, q6⟩
          | brk => exact let ⟨_, _, S6, q6⟩ := z; ⟨_, _, S6.unsuite ok, q6⟩
          | cont => exact let ⟨_, _, S6, q6⟩ := z; ⟨_, _, S6.unsuite ok, q6⟩
    exact go hh w
  · cases fl with
    | ret u => exact let ⟨v, σ', H', J', r, q⟩ := z; ⟨v, σ', H', J'.ofTry ok, r, q⟩
    | next => exact let ⟨σ', H', J', q⟩ := z; wpAny_execs_nil ⟨σ', H', J'.ofTry ok, q⟩
    | brk => exact let ⟨σ', H', J', q⟩ := z; ⟨σ', H', J'.ofTry ok, q⟩
    | cont => exact let ⟨σ', H', J', q⟩ := z; ⟨σ', H', J'.ofTry ok, q⟩⟩
end
end G
/-! # LI: an own exception class X with one field, as raise and except see it; its facts by the head -/
namespace G
open PySem PySem.Spec PyProof.Rows L2
open PySem.XV (XTxt XMade FName xA xB xS x_made)
structure XC (P : Program) (K : PySem.W.Frag) (mg : Str → Option Value) (x f : Str) (C : Addr) : Prop where
  gC : mg x = some (.ref C)
  kC : PySem.W.keepIn K (.ref C) = true
  exC : PySem.W.subIn K (.ref C) (.type "BaseException") = some true
  tyC : PySem.W.typeIn K (.ref C) = some (.type "type")
  xf : XfC K C
  noF : PySem.W.findIn K (.ref C) f = some none
  made : ∀ {w : World} {A : Around} {R : Result → Shared → Prop} {s : Shared} {v : Value} {mb : Str → Option Value}, K.In s.heap → s.heap.Ns mainGlobals mg → s.heap.Ns builtinsNs mb → (∀ x : Str, x ≠ "__name__" → mb x = bootBuiltins x) → s.heap.NoLimit → A.depth + 1 < recursionLimit →
    (∀ h' tk e d, XMade s.heap h' e C d f v → R (.ok (.ret (.ref e))) { s with heap := h', toks := tk }) → codeAny (model P w) A (.call (.ref C) ⟨[v], []⟩) R s
theorem relO_x {v : V} {v' : Value} {f : Str} (r : RelV v v') (g : Str) : RelO (List.lookup g [(f, v)]) (if g = f then some v' else none) := by
  by_cases h : g = f
  · subst h
    rw [if_pos rfl, show List.lookup g [(g, v)] = some v by simp [List.lookup]]
    exact r
  · have q : (g == f) = false := by simpa using h
    rw [if_neg h, show List.lookup g [(f, v)] = none by simp [List.lookup, q]]
    trivial
/-- X(e) -/
def tMkX (C : Addr) (f : Str) (ta : TA) : L2.St → Hp → XK → Prop := fun σ H Q => ta σ H fun vs H1 => ∃ v, vs = [v] ∧ ∀ d, H1 d = none → Q (.ref C) (some d) (upd H1 d (.xd [(f, v)]))
section
variable {X : Cx} {C : Addr} {x f : Str}
theorem pmk_x {a : Expr} {ta : TA} {p pos : Pos} {k : Nat} (T : XC X.prog X.K X.mg x f C) (hr : Room k X.A) (ha : PA X [a] ta) (hg : Gl X x := by rfl) (hd : (x == ("__debug__" : Str)) = false := by decide)
    (he : starEach (a :: []) X.env = (false, eval a X.env) :: starEach [] X.env := by rfl) (hpl : (backTo pos (starEach [] X.env)).any (·.1) = false := by rfl) : PMk X (.Call (.Name x p) [a] [] pos) (tMkX C f ta) := by
  intro pins s σ H Q I h
  refine wpAny_Call_Name_kw (ld_glob I hg T.gC ?_ hd)
  refine PySem.W.callWith_K (h₀ := X.base) I.ok.mod.kin T.kC (thn (ha.run pos pins s σ H _ I h) fun us s1 hh => ?_) he hpl
  obtain ⟨vs, H1, I1, r1, v, ev, q1⟩ := hh
  subst ev
  refine ⟨I1.kIn, ?_⟩
  cases r1 with
  | cons rv rn =>
    rename_i v' us'
    cases rn
    show wpAny _ _ (call (.ref C) [v']) _ _ _
    have hlim := I1.nolimit
    obtain ⟨mb, hmb, hbb⟩ := I1.mod.blt
    have hG := I1.mod.glob.keeps I1.bk
    have hB := hmb.keeps I1.bk
    obtain ⟨hp, g, dr, tk, os⟩ := s1
    refine wpAny_call (T.made I1.kIn hG hB hbb hlim (by have := hr.dp; omega) fun h' tk' e d M => ?_)
    show MkP X pins σ Q (.ref e) ⟨h', g, dr, tk', os⟩
    obtain ⟨oe, fv, hoe, hc, hdd, hdat, h1⟩ := M.obj
    have hns := M.ns
    obtain ⟨G', g1, g2⟩ := restrict h' fun b => decide (b ≠ e)
    have gk : ∀ b, b ≠ e → G'.get? b = h'.get? b := fun b hb => g1 b (decide_eq_true hb)
    have ge : G'.get? e = none := g2 e (by simp)
    have old : ∀ b o, hp.get? b = some o → G'.get? b = some o := fun b o q => (gk b (Nat.ne_of_lt (Nat.lt_of_lt_of_le (Heap.lt_size q) M.new))).trans (M.keep b o q)
    have ob : ObjOk X.prog X.w (upd H1 d (.xd [(f, v)])) G' d (.xd [(f, v)]) := ⟨_, hns.at (fun o q => (gk d M.dne).trans q), fun g => relO_x rv g⟩
    have J : Inv X pins σ (upd H1 d (.xd [(f, v)])) ⟨G', g, dr, tk', os⟩ := I1.laid (t' := tk') old M.dbig ob
    refine ⟨e, oe, fv, ⟨G', g, dr, tk', os⟩, _, .ref C, some d, rfl, J, fun b o q => ?_, ge, hoe, ⟨hc, hdd⟩, hdat, h1, ?_, rfl, I1.bare, raises_own T.exC T.tyC, q1 d (I1.hok.fresh M.dbig)⟩
    · by_cases hb : b = e
      · have q' : G'.get? b = some o := q
        rw [hb, ge] at q'
        cases q'
      · exact (gk b hb).symm.trans q
    · rw [upd_ne (Ne.symm M.dne)]
      exact I1.hok.fresh M.new
end
/-! ### the head's facts -/
def fileOf : Option Obj → Option Str
  | some ⟨_, _, .fields vs, _⟩ => (match (vs[2]? : Option Value) with
    | some (.str fl _) => some fl
    | _ => none)
  | _ => none
theorem fileOf_ok {o : Option Obj} {file : Str} (h : fileOf o = some file) : ∃ ccl cdd ccs vs tf, o = some ⟨ccl, cdd, .fields vs, ccs⟩ ∧ vs[2]? = some (.str file tf) := by
  unfold fileOf at h
  split at h
  · split at h
    · cases h
      exact ⟨_, _, _, _, _, rfl, by assumption⟩
    · cases h
  · cases h
def cellOf : Option Obj → Option Addr
  | some ⟨_, _, .cell (some (.ref D)), _⟩ => some D
  | _ => none
theorem cellOf_ok {o : Option Obj} {D : Addr} (h : cellOf o = some D) : ∃ cl cld csl, o = some ⟨cl, cld, .cell (some (.ref D)), csl⟩ := by
  unfold cellOf at h
  split at h
  · cases h
    exact ⟨_, _, _, rfl⟩
  · cases h
def initB (K : PySem.W.Frag) (file : Str) (C : Addr) : Option Obj → Bool
  | some ⟨_, _, .func fd, _⟩ => (match fd.code, fd.closure with
    | .ref cda, [(_, cc)] => PySem.W.codeIn K (.ref cda) fd.qualname && (decide (cellOf (K.lookup cc) = some C) && decide (fileOf (K.lookup cda) = some file))
    | _, _ => false)
  | _ => false
/-- what is looked at of the class x over a built-in (newId, initId, mro bmB, name B), its field f; file: the program's -/
def xokB (K : PySem.W.Frag) (file x f : Str) (newId initId : String) (bmB : List Value) (B : String) : Bool :=
  PySem.W.excInitIn K (He.ga K x) bmB newId && (PySem.W.excOver K (He.ga K x) bmB && (decide (PySem.W.findIn K (.ref (He.ga K x)) "__setattr__" = some (some (.builtin "object.__setattr__"))) && (decide (PySem.W.findIn K (.ref (He.ga K x)) f = some none) && (PySem.W.hasDictIn K (He.ga K x) &&
  (decide (PySem.W.findIn K (.ref (He.ga K x)) "__init__" = some (some (.ref (He.ma K (He.ga K x) "__init__")))) && (decide (PySem.W.typeIn K (.ref (He.ma K (He.ga K x) "__init__")) = some (.type "function")) && (decide (PySem.W.ks_superIn K (He.ga K x) (He.ga K x) "__init__" = some (some (.builtin initId))) &&
  (decide (PySem.W.subIn K (.ref (He.ga K x)) (.type B) = some true) && (decide (PySem.W.mroIn K (He.ga K x) (.ref (He.ga K x)) = some true) && (decide (PySem.W.nsIn K cStatics "thirdparty.any" = some none) && (decide (PySem.W.nsIn K mainGlobals "super" = some none) &&
  (PySem.W.keepIn K (.ref (He.ga K x)) && (decide (PySem.W.subIn K (.ref (He.ga K x)) (.type "BaseException") = some true) && (decide (PySem.W.typeIn K (.ref (He.ga K x)) = some (.type "type")) && (xfB K (He.ga K x) && (decide (PySem.W.nsIn K mainGlobals x = some (some (.ref (He.ga K x)))) &&
  initB K file (He.ga K x) (K.lookup (He.ma K (He.ga K x) "__init__"))))))))))))))))))
/-- the statement of the class's __init__ has the form -/
def XForm (f : Str) (st : Stmt) : Prop := ∃ p1 p2 s0 s1 a0 v0 c0 e0 g0 g1 g2 g3 : Pos, defArgs st = xA f p1 p2 ∧ defBody st = xB f s0 s1 a0 v0 c0 e0 g0 g1 g2 g3 ∧ defScope st = xS f ∧ (a0.endLine == c0.line) = true
theorem xok {P : Program} {K : PySem.W.Frag} {mg : Str → Option Value} {file x f : Str} {newId initId : String} {bmB : List Value} {B : String} {st : Stmt} (FB : ExcBaseFacts B newId initId bmB) (KF : PySem.W.KxsFacts B initId) (SF : StoreFacts B bmB "object.__setattr__" "object") (N : FName f)
    (h : xokB K file x f newId initId bmB B = true) (hf : fnX K x = xval x st) (hst : XForm f st) (hfile : ((P.main.file : Str) == file) = true) (htop : (P.main.scope.names.lookup ("super" : Str)).isSome = false) (hat : ∃ h : Heap, K.In h ∧ h.Ns mainGlobals mg) : XC P K mg x f (He.ga K x) := by
  obtain ⟨h1, h⟩ := He.ba h
  obtain ⟨h2, h⟩ := He.ba h
  obtain ⟨h3, h⟩ := He.ba h
  obtain ⟨h4, h⟩ := He.ba h
  obtain ⟨h5, h⟩ := He.ba h
  obtain ⟨h6, h⟩ := He.ba h
  obtain ⟨h7, h⟩ := He.ba h
  obtain ⟨h8, h⟩ := He.ba h
  obtain ⟨h9, h⟩ := He.ba h
  obtain ⟨h10, h⟩ := He.ba h
  obtain ⟨h11, h⟩ := He.ba h
  obtain ⟨h12, h⟩ := He.ba h
  obtain ⟨h13, h⟩ := He.ba h
  obtain ⟨h14, h⟩ := He.ba h
  obtain ⟨h15, h⟩ := He.ba h
  obtain ⟨h16, h⟩ := He.ba h
  obtain ⟨h17, h18⟩ := He.ba h
  obtain ⟨p1, p2, s0, s1, a0, v0, c0, e0, g0, g1, g2, g3, ea, eb, es, el⟩ := hst
  have gx : mg x = some (.ref (He.ga K x)) := let ⟨_, hK, hN⟩ := hat; PySem.W.mg_of hK hN (of_decide_eq_true h17)
  have T : XTxt P K f (He.ga K x) (He.ma K (He.ga K x) "__init__") newId initId bmB B := by
    refine ⟨h1, h2, of_decide_eq_true h3, of_decide_eq_true h4, h5, of_decide_eq_true h6, of_decide_eq_true h7, of_decide_eq_true h8, of_decide_eq_true h9, of_decide_eq_true h10, of_decide_eq_true h11, of_decide_eq_true h12, htop, ?_⟩
    unfold fnX fnXa at hf
    cases q : K.lookup (He.ma K (He.ga K x) "__init__") with
    | none =>
      rw [q] at hf
      cases hf
    | some o =>
      obtain ⟨oc, od, dt, osl⟩ := o
      rw [q] at hf h18
      cases dt with
      | func fd =>
        obtain ⟨n1, n2, n3, n4, n5, n6, n7, n8, n9, n10, n11, n12, n13, n14, n15⟩ := fd
        have e2 : (some (n1, n2, n3, n4, n5, n6, n7.map (·.1), n15, n8, n9) : FnX) = xval x st := hf
        simp only [xval, Option.some.injEq, Prod.mk.injEq] at e2
        obtain ⟨k1, k2, k3, k4, k5, k6, k7, k8, k9, k10⟩ := e2
        subst k1 k2 k3 k4 k5 k6 k8 k9 k10
        rw [ea, eb, es]
        cases n13 with
        | ref cda =>
          match n7, k7, h18, q with
          | [], _, h18, _ => cases h18
          | _ :: _ :: _, _, h18, _ => cases h18
          | [(nm, cc)], k7, h18, q =>
            obtain ⟨d1, d2⟩ := He.ba (show (PySem.W.codeIn K (.ref cda) (x ++ ".__init__") && (decide (cellOf (K.lookup cc) = some (He.ga K x)) && decide (fileOf (K.lookup cda) = some file))) = true from h18)
            obtain ⟨d3, d4⟩ := He.ba d2
            obtain ⟨cl, cld, csl, w1⟩ := cellOf_ok (of_decide_eq_true d3)
            obtain ⟨ccl, cdd, ccs, vs, tf, w2, w3⟩ := fileOf_ok (of_decide_eq_true d4)
            have en : nm = Str.ofString "__class__" := by simpa using k7
            subst en
            exact ⟨oc, od, _, _, _, cda, _, cc, osl, cl, cld, csl, ccl, cdd, ccs, vs, file, tf, _, p1, p2, s0, s1, a0, v0, c0, e0, g0, g1, g2, g3, rfl, d1, w1, w2, w3, hfile, el⟩
        | _ => cases h18
      | _ => cases hf
  exact ⟨gx, h13, of_decide_eq_true h14, of_decide_eq_true h15, xfB_ok h16, of_decide_eq_true h4, fun a b c d e f g => x_made FB KF SF N T a b c d e f g⟩
/-- over ValueError, LookupError -/
abbrev veL : List Value := [.type "ValueError", .type "Exception", .type "BaseException", .type "object"]
abbrev leL : List Value := [.type "LookupError", .type "Exception", .type "BaseException", .type "object"]
abbrev xokV (K : PySem.W.Frag) (file x f : Str) : Bool := xokB K file x f "ValueError.__new__" "ValueError.__init__" veL "ValueError"
abbrev xokL (K : PySem.W.Frag) (file x f : Str) : Bool := xokB K file x f "LookupError.__new__" "LookupError.__init__" leL "LookupError"
theorem xv_ok {P : Program} {K : PySem.W.Frag} {mg : Str → Option Value} {file x f : Str} {st : Stmt} (N : FName f) (h : xokV K file x f = true) (hf : fnX K x = xval x st) (hst : XForm f st) (hfile : ((P.main.file : Str) == file) = true) (htop : (P.main.scope.names.lookup ("super" : Str)).isSome = false)
    (hat : ∃ h : Heap, K.In h ∧ h.Ns mainGlobals mg) : XC P K mg x f (He.ga K x) := xok F.excBase_ValueError PySem.W.kxs_ValueError F.store_ValueError N h hf hst hfile htop hat
theorem xl_ok {P : Program} {K : PySem.W.Frag} {mg : Str → Option Value} {file x f : Str} {st : Stmt} (N : FName f) (h : xokL K file x f = true) (hf : fnX K x = xval x st) (hst : XForm f st) (hfile : ((P.main.file : Str) == file) = true) (htop : (P.main.scope.names.lookup ("super" : Str)).isSome = false)
    (hat : ∃ h : Heap, K.In h ∧ h.Ns mainGlobals mg) : XC P K mg x f (He.ga K x) := xok F.excBase_LookupError PySem.W.kxs_LookupError F.store_LookupError N h hf hst hfile htop hat
end G
/-! # LJ: calls with positional and keyword values, defaults, exceptions; text * int -/
namespace G
open PySem PySem.Spec PyProof.Rows L2
/-- f(e, .., k = v, ..): n positional values, m keywords; E: what is wished of an exception, by the slots -/
def tCallU (n m : Nat) (sp : Sp) (gV : List V → List V → List V) (E : L2.St → XK) (t tk : TA) : TE := fun σ H Q => t σ H fun vs H1 => tk σ H1 fun zs H2 => vs.length = n ∧ zs.length = m ∧ sp (gV vs zs) H2 Q (E σ)
theorem takesN {X : Cx} : Takes X (fun _ _ _ _ => False) := fun u s' ⟨_, _, _, _, _, _, _, _, _, _, _, _, _, _, _, _, w⟩ => w.elim
theorem passN {X : Cx} : ∀ σ, PassesAt CX0 X σ ((fun _ => E0) σ) := fun _ _ _ _ _ _ _ h => h.elim
section
variable {X : Cx} {cx : CXT} {k n : Nat} {f : Addr} {fd : FuncData} {ps ks : List Str} {sp : Sp} {E : L2.St → XK} {x : Str} {p pos : Pos} {e : Expr} {es : List Expr} {kws : List Keyword} {t tk : TA} {g : List Value → List Value → List Value} {gV : List V → List V → List V}
theorem after_call {pins : List (Addr × Obj)} {σ : L2.St} {H : Hp} {s : Shared} {Q : VK} (I : Inv X pins σ H s) (hx : PassesAt cx X σ (E σ)) {us : List Value} {kw : List (Str × Value)} (h : codeAny (model X.prog X.w) X.A (.call (.ref f) ⟨us, kw⟩) (CR cx X.stack X.prog X.w H s Q (E σ)) s) :
    wpAny (model X.prog X.w) X.A (call (.ref f) us kw) (EP X pins σ Q) X.xe s := by
  refine wpAny_call (codeAny_mono h fun res s' z => ?_)
  rcases res with e | fl
  · exact hx pins H s e s' I z
  · cases fl <;> first | exact I.after z | exact False.elim z
theorem pe_callU (F : FnOk X.prog X.w X.K X.mg X.base cx k f fd ps sp) (hr : Room k X.A) (hg : Gl X x) (hm : X.mg x = some (.ref f)) (hk : PySem.W.keepIn X.K (.ref f) = true) (hb : KBn X.K fd ps n ks g gV) (hx : ∀ σ, PassesAt cx X σ (E σ)) (ha : PA X (e :: es) t) (hkw : PK X kws tk)
    (q1 : (backToKw pos (keywordEach kws X.env)).all (·.1.isSome) = true := by rfl) (q2 : (backToKw pos (keywordEach kws X.env)).filterMap (·.1) = ks := by rfl) (q3 : (x == ("__debug__" : Str)) = false := by decide) (q4 : starEach (e :: es) X.env = (false, eval e X.env) :: starEach es X.env := by rfl)
    (q5 : ((backTo pos (starEach (e :: es) X.env)).any (·.1) || (backToKw pos (keywordEach kws X.env)).any (·.1.isNone)) = false := by rfl) : PE X (.Call (.Name x p) (e :: es) kws pos) (tCallU n ks.length sp gV E t tk) := by
  refine ⟨fun pins s σ H Q I h => wpAny_Call_Name_kw (ld_glob I hg hm (PySem.W.callWith_KW (h₀ := X.base) I.ok.mod.kin hk q1 (thn (ha.run pos pins s σ H _ I h) fun us s1 ⟨vs, H1, I1, r, q⟩ => thn (hkw.run pos pins s1 σ H1 _ I1 q) fun ws s2 ⟨zs, H2, I2, rz, l1, l2, hs⟩ => ⟨I2.kIn, ?_⟩) q5 q4) q3)⟩
  rw [q2]
  exact after_call I2 (hx σ) (F.run X.A X.stack s2 H2 ⟨us, ks.zip ws⟩ (g us ws) (gV vs zs) Q (E σ) hr I2.env0 (hb.to s2 us ws I2.kIn (r.length ▸ l1) (rz.length ▸ l2)) (hb.rel r rz) hs)
theorem pe_callU0 (F : FnOk X.prog X.w X.K X.mg X.base cx k f fd ps sp) (hr : Room k X.A) (hg : Gl X x) (hm : X.mg x = some (.ref f)) (hk : PySem.W.keepIn X.K (.ref f) = true) (hb : KBn X.K fd ps 0 ks g gV) (hx : ∀ σ, PassesAt cx X σ (E σ)) (hkw : PK X kws tk)
    (q1 : (backToKw pos (keywordEach kws X.env)).all (·.1.isSome) = true := by rfl) (q2 : (backToKw pos (keywordEach kws X.env)).filterMap (·.1) = ks := by rfl) (q3 : (x == ("__debug__" : Str)) = false := by decide)
    (q4 : ((backTo pos (starEach [] X.env)).any (·.1) || (backToKw pos (keywordEach kws X.env)).any (·.1.isNone)) = false := by rfl) : PE X (.Call (.Name x p) [] kws pos) (tCallU 0 ks.length sp gV E tNil tk) := by
  refine ⟨fun pins s σ H Q I h => wpAny_Call_Name_kw (ld_glob I hg hm (PySem.W.callWith_KW0 (h₀ := X.base) I.ok.mod.kin hk q1 (thn (hkw.run pos pins s σ H _ I h) fun ws s2 ⟨zs, H2, I2, rz, l1, l2, hs⟩ => ⟨I2.kIn, ?_⟩) q4) q3)⟩
  rw [q2]
  exact after_call I2 (hx σ) (F.run X.A X.stack s2 H2 ⟨[], ks.zip ws⟩ (g [] ws) (gV [] zs) Q (E σ) hr I2.env0 (hb.to s2 [] ws I2.kIn rfl (rz.length ▸ l2)) (hb.rel .nil rz) hs)
end
theorem i_callU {σ : L2.St} {H : Hp} {Q : VK} {n m : Nat} {sp : Sp} {gV : List V → List V → List V} {E : L2.St → XK} {t tk : TA} (q : t σ H fun vs H1 => tk σ H1 fun zs H2 => vs.length = n ∧ zs.length = m ∧ sp (gV vs zs) H2 Q (E σ)) : tCallU n m sp gV E t tk σ H Q := q
theorem i_callS {σ : L2.St} {H : Hp} {Q : VK} {sp : Sp} {E : L2.St → XK} {t : TA} (q : t σ H fun vs H1 => sp vs H1 Q (E σ)) : tCallS sp E t σ H Q := q
/-! ### binding with keyword-only defaults -/
def gp3 (perm : List Nat) {α : Type} (mv us ws : List α) : List α := perm.filterMap fun i => (us ++ ws ++ mv)[i]?
theorem gp3_rel {perm : List Nat} {mz : List V} {mv : List Value} (rm : Vals mz mv) : ∀ {vs : List V} {us : List Value} {zs : List V} {ws : List Value}, Vals vs us → Vals zs ws → Vals (gp3 perm mz vs zs) (gp3 perm mv us ws) := by
  intro vs us zs ws r q
  have rq := (r.append q).append rm
  unfold gp3
  induction perm with
  | nil => exact .nil
  | cons i p ih =>
    cases e : (vs ++ zs ++ mz)[i]? with
    | none =>
      rw [List.filterMap_cons_none e, List.filterMap_cons_none (Vals.none_of rq e)]
      exact ih
    | some x =>
      obtain ⟨u, hu, ru⟩ := rq.get e
      rw [List.filterMap_cons_some e, List.filterMap_cons_some hu]
      exact .cons ru ih
theorem kbn_kw {K : PySem.W.Frag} {x qual : Str} {params : Arguments} {body : List Stmt} {scope : Scope} {kws : List (Str × V)} {f : Addr} {fd : FuncData} {ps : List Str} (F : FunD K x qual params body scope [] kws f fd) (hk : kws ≠ []) (n : Nat) (ks : List Str) (ms : List (Str × V)) (perm : List Nat) (hms : ∀ q ∈ ms, q ∈ kws)
    (h : ∀ (D : Addr) (doc pm : Value) (an : Option Addr) (cdv ct : Value) (us mv ws : List Value), us.length = n → mv.length = ms.length → ws.length = ks.length →
      KwChain D ((ms.map (·.1)).zip mv) (bindArgs (PySem.W.fnOf x qual params body scope .none (.ref D) doc pm an cdv ct) ⟨us, ks.zip ws⟩) (ps.zip (gp3 perm mv us ws))) : ∃ mv : List Value, KBn K fd ps n ks (gp3 perm mv) (gp3 perm (ms.map (·.2))) := by
  obtain ⟨oc, od, dV, kV, doc, pm, an, cdv, ct, osl, rfl, lk, hcd, hD, hK⟩ := F.ex
  rcases hD with ⟨_, rfl⟩ | ⟨e, _⟩
  · rcases hK with e | ⟨D, rfl, hq⟩
    · exact absurd e hk
    · obtain ⟨mv, hl, rk, hks⟩ := kwd_vals (ms := ms) fun q hm => hq q (hms q hm)
      exact ⟨mv, fun s us ws X l1 l2 => BindsTo.of_looks fun M => KwChain.looks X hks (h D doc pm an cdv ct us mv ws l1 hl l2), gp3_rel rk⟩
  · exact absurd rfl e
/-- the values that fill up are hidden in the binding -/
def KBx (K : PySem.W.Frag) (fd : FuncData) (ps : List Str) (n : Nat) (ks : List Str) (gV : List V → List V → List V) : Prop := ∃ g, KBn K fd ps n ks g gV
/-! ### text * int -/
def rMulS : R2 := fun x y H Q => ∃ (z : Str) (n : Int), x = .str z ∧ y = .int n ∧ 1 < n ∧ n < 1000000 ∧ 0 < z.length ∧ z.length * n.toNat ≤ sizeLine ∧ Q (.str ⟨(List.replicate n.toNat z.cps).foldl (· ++ ·) #[]⟩) H
theorem op_mul_str {X : Cx} : OpR X (binaryOp .Mult) rMulS := by
  intro pins s σ H x y v u Q I rx ry h
  obtain ⟨z, n, rfl, rfl, h1, h2, h3, h4, q⟩ := h
  obtain ⟨t, rfl⟩ := rx
  obtain ⟨t', rfl⟩ := ry
  have hz : sizeLine = 16777216 := sizeLine_eq
  have a1 : ¬ n < -(2 ^ 63 : Int) := by omega
  have a2 : ¬ n ≥ 2 ^ 63 := by omega
  have a3 : (n == 1 || z.length == 0) = false := by
    rw [beq_eq_false_iff_ne.mpr (show n ≠ 1 by omega), beq_eq_false_iff_ne.mpr (show z.length ≠ 0 by omega)]
    rfl
  refine PySem.P.mul_str (by rw [decide_eq_false a1, decide_eq_false a2]; rfl) (fun _ _ => ?_) (fun _ _ => ?_) ?_
  · have b1 : (z.length : Int) ≤ (2 ^ 63 - 1) / n := by
      refine Int.le_ediv_of_mul_le (by omega) ?_
      have b2 : (z.length : Int) * n = ((z.length * n.toNat : Nat) : Int) := by
        rw [Int.natCast_mul, Int.toNat_of_nonneg (by omega)]
      omega
    omega
  · unfold Builtin.Str.tooLong
    exact decide_eq_false (by omega)
  · rw [if_neg (show ¬ n < 1 by omega), if_neg (show ¬ (n == 1 || z.length == 0) = true by rw [a3]; exact Bool.false_ne_true)]
    have len : ((List.replicate n.toNat z.cps).foldl (· ++ ·) #[]).size = n.toNat * z.length := by
      have key : ∀ (k : Nat) (acc : Array Nat), ((List.replicate k z.cps).foldl (· ++ ·) acc).size = acc.size + k * z.length := by
        intro k
        induction k with
        | zero => intro acc; simp
        | succ k ih =>
          intro acc
          rw [List.replicate_succ, List.foldl_cons, ih, Array.size_append, Nat.add_mul, Nat.one_mul]
          have : z.cps.size = z.length := rfl
          omega
      rw [key]
      simp
    refine ⟨?_, ⟨.str _, H, I.tok _, ⟨_, rfl⟩, q⟩⟩
    show ((List.replicate n.toNat z.cps).foldl (· ++ ·) #[]).size ≤ sizeLine
    rw [len, Nat.mul_comm]
    exact h4
theorem ex_at {exl : List (PySem.W.Frag → Bool)} {K : PySem.W.Frag} (h : (exl.all fun e => e K) = true) (i : Nat) {e : PySem.W.Frag → Bool} (hi : exl[i]? = some e) : e K = true := List.all_eq_true.mp h e (List.mem_of_getElem? hi)
theorem isi_str {K : PySem.W.Frag} {H : Hp} {v : V} {T : String} (k : Kd H v T) : (∃ z, v = .str z) ∨ ((∀ z, v ≠ .str z) ∧ ∀ {Q : VK}, Q (.bl false) H → rIsi K [v, .ty "str"] H Q) := by
  cases k with
  | str z => exact .inl ⟨z, rfl⟩
  | non => exact .inr ⟨(fun _ z => nomatch z), fun q => i_isi .non (by decide +kernel) q⟩
  | bl b => exact .inr ⟨(fun _ z => nomatch z), fun q => i_isi (.bl b) (by decide +kernel) q⟩
  | int b => exact .inr ⟨(fun _ z => nomatch z), fun q => i_isi (.int b) (by decide +kernel) q⟩
  | lst e => exact .inr ⟨(fun _ z => nomatch z), fun q => i_isi (.lst e) (by decide +kernel) q⟩
  | tup e => exact .inr ⟨(fun _ z => nomatch z), fun q => i_isi (.tup e) (by decide +kernel) q⟩
  | dct e => exact .inr ⟨(fun _ z => nomatch z), fun q => i_isi (.dct e) (by decide +kernel) q⟩
theorem isi_strT {K : PySem.W.Frag} {H : Hp} {z : Str} {Q : VK} (q : Q (.bl true) H) : rIsi K [.str z, .ty "str"] H Q := i_isi (.str z) (by decide +kernel) q
theorem isi_list {K : PySem.W.Frag} {H : Hp} {v : V} {T : String} (k : Kd H v T) : (∃ a xs, v = .ref a ∧ H a = some (.lst xs)) ∨ (∀ {Q : VK}, Q (.bl false) H → rIsi K [v, .ty "list"] H Q) := by
  cases k with
  | lst e => exact .inl ⟨_, _, rfl, e⟩
  | non => exact .inr fun q => i_isi .non (by decide +kernel) q
  | bl b => exact .inr fun q => i_isi (.bl b) (by decide +kernel) q
  | int b => exact .inr fun q => i_isi (.int b) (by decide +kernel) q
  | str b => exact .inr fun q => i_isi (.str b) (by decide +kernel) q
  | tup e => exact .inr fun q => i_isi (.tup e) (by decide +kernel) q
  | dct e => exact .inr fun q => i_isi (.dct e) (by decide +kernel) q
theorem isi_listT {K : PySem.W.Frag} {H : Hp} {a : Addr} {xs : List V} {Q : VK} (e : H a = some (.lst xs)) (q : Q (.bl true) H) : rIsi K [.ref a, .ty "list"] H Q := i_isi (.lst e) (by decide +kernel) q
theorem isi_dict {K : PySem.W.Frag} {H : Hp} {v : V} {T : String} (k : Kd H v T) : (∃ a xs, v = .ref a ∧ H a = some (.dK xs)) ∨ (∀ {Q : VK}, Q (.bl false) H → rIsi K [v, .ty "dict"] H Q) := by
  cases k with
  | dct e => exact .inl ⟨_, _, rfl, e⟩
  | non => exact .inr fun q => i_isi .non (by decide +kernel) q
  | bl b => exact .inr fun q => i_isi (.bl b) (by decide +kernel) q
  | int b => exact .inr fun q => i_isi (.int b) (by decide +kernel) q
  | str b => exact .inr fun q => i_isi (.str b) (by decide +kernel) q
  | tup e => exact .inr fun q => i_isi (.tup e) (by decide +kernel) q
  | lst e => exact .inr fun q => i_isi (.lst e) (by decide +kernel) q
theorem isi_dictT {K : PySem.W.Frag} {H : Hp} {a : Addr} {xs : List (Key × V)} {Q : VK} (e : H a = some (.dK xs)) (q : Q (.bl true) H) : rIsi K [.ref a, .ty "dict"] H Q := i_isi (.dct e) (by decide +kernel) q
/-! ### need_integer, parse_integer -/
def sp_need_integer (C : Addr) : Sp := fun vs H Q E => ∃ (v : V) (lo hi : Int) (T : String), vs = [v, .int lo, .int hi] ∧ Kd H v T ∧ (isI v lo hi = true → Q .non H) ∧ (isI v lo hi = false → ∀ d, H d = none → E (.ref C) (some d) (upd H d (.xd [("value", v)])))
def dig (c : Nat) : Bool := decide (48 ≤ c) && decide (c ≤ 57)
def parseOk (z : Str) : Prop := 0 < z.length ∧ z.length ≤ 9 ∧ ¬ (z.cps.toList.head? = some 48 ∧ z ≠ Str.ofString "0") ∧ z.cps.toList.all dig = true
instance (z : Str) : Decidable (parseOk z) := by unfold parseOk; infer_instance
/-- the integer that a value represents within the limits, as a value -/
def parseV (v : V) (lo hi : Int) : V := match v with
  | .str z => if parseOk z then (if lo ≤ (NumText.digitsVal z.cps.toList : Nat) ∧ ((NumText.digitsVal z.cps.toList : Nat) : Int) ≤ hi then .int (NumText.digitsVal z.cps.toList : Nat) else .non) else .non
  | _ => .non
theorem dig_all {z : Str} (h : z.cps.toList.all dig = true) : NumText.AllDigits z.cps.toList := fun c hc => by
  have q := List.all_eq_true.mp h c hc
  unfold dig at q
  simpa using q
def sp_parse_integer (C : Addr) : Sp := fun vs H Q E => ∃ (v l h : V) (T1 T2 T3 : String), vs = [v, l, h] ∧ Kd H v T1 ∧ Kd H l T2 ∧ Kd H h T3 ∧ fitV v ∧
  (∀ lo hi, l = .int lo → h = .int hi → isI l 0 999999999 = true → isI h 0 999999999 = true → ∀ H', Same H H' → Q (parseV v lo hi) H') ∧
  (isI l 0 999999999 = false → ∀ d, H d = none → E (.ref C) (some d) (upd H d (.xd [("value", l)]))) ∧
  (isI l 0 999999999 = true → isI h 0 999999999 = false → ∀ d, H d = none → E (.ref C) (some d) (upd H d (.xd [("value", h)])))
theorem isI_int {v : V} {lo hi : Int} (h : isI v lo hi = true) : ∃ i, v = .int i ∧ lo ≤ i ∧ i ≤ hi := by
  cases v with
  | int i =>
    have q : (decide (lo ≤ i) && decide (i ≤ hi)) = true := h
    rw [Bool.and_eq_true, decide_eq_true_eq, decide_eq_true_eq] at q
    exact ⟨i, rfl, q⟩
  | _ => cases h
theorem parseV_non {v : V} {lo hi : Int} (h : ∀ z, v ≠ .str z) : parseV v lo hi = .non := by
  cases v with
  | str z => exact absurd rfl (h z)
  | _ => rfl
theorem parseV_no {z : Str} {lo hi : Int} (h : ¬ parseOk z) : parseV (.str z) lo hi = .non := if_neg h
theorem parseV_yes {z : Str} {lo hi : Int} (h : parseOk z) : parseV (.str z) lo hi = if lo ≤ (NumText.digitsVal z.cps.toList : Nat) ∧ ((NumText.digitsVal z.cps.toList : Nat) : Int) ≤ hi then .int (NumText.digitsVal z.cps.toList : Nat) else .non := if_pos h
theorem dig_t {c : Nat} (h : (!decide (([c] : List Nat) < [48])) = true) : dig c = !decide (([57] : List Nat) < [c]) := by
  rw [sing_lt] at h ⊢
  have h1 : ¬ c < 48 := by simpa using h
  unfold dig
  rw [decide_eq_true (by omega), Bool.true_and]
  by_cases q : c ≤ 57
  · rw [decide_eq_true q, decide_eq_false (by omega)]; rfl
  · rw [decide_eq_false q, decide_eq_true (by omega)]; rfl
theorem dig_f {c : Nat} (h : (!decide (([c] : List Nat) < [48])) = false) : dig c = false := by
  rw [sing_lt] at h
  have h1 : c < 48 := by simpa using h
  unfold dig
  rw [decide_eq_false (by omega), Bool.false_and]
theorem head_of {z : Str} (h : 0 < z.length) : ∃ c r, z.cps.toList = c :: r := by
  cases e : z.cps.toList with
  | nil =>
    rw [str_len, e] at h
    exact absurd h (Nat.lt_irrefl 0)
  | cons c r => exact ⟨c, r, rfl⟩
theorem sign_eq {c d : Nat} : (⟨#[c]⟩ : Str) = ⟨#[d]⟩ ↔ c = d := by
  constructor
  · intro h
    have h2 : (#[c] : Array Nat) = #[d] := by injection h
    simpa using h2
  · rintro rfl
    rfl
theorem at0 {α : Type} {c : α} {r : List α} : atI (c :: r) 0 = some c := by simp [atI, ixN]
end G
/-! # LK: classes of the program: made, called, compared -/
namespace G
open PySem PySem.Spec PyProof.Rows L2
section
variable {X : Cx} {cx : CXT} {k n : Nat} {f C : Addr} {fd : FuncData} {ps ks : List Str} {sp : Sp} {E : L2.St → XK} {x m : Str} {p pos apos : Pos} {e o : Expr} {es : List Expr} {kws : List Keyword} {ta : TE} {t tk : TA} {gV : List V → List V → List V}
/-- C(e, .., k = v, ..): n values and m keywords; what is raised is wished for at the slots -/
def tMakeU (C : Addr) (n m : Nat) (sp : Sp) (gV : List V → List V → List V) (E : L2.St → XK) (t tk : TA) : TE := fun σ H Q => t σ H fun vs H1 => tk σ H1 fun zs H2 => vs.length = n ∧ zs.length = m ∧
  ∀ x dx, H2 x = none → H2 dx = none → dx ≠ x → sp (gV (.ref x :: vs) zs) (upd (upd H2 dx (.own x)) x (.ins C dx [])) (fun v H3 => v = .non ∧ Q (.ref x) H3) (E σ)
theorem run_makeU {pins : List (Addr × Obj)} {σ : L2.St} {H : Hp} {s : Shared} {Q : VK} {us ws : List Value} {vs zs : List V} (M : Mk X.K C f) (F : FnOk X.prog X.w X.K X.mg X.base cx k f fd ps sp) (hr : Room (k + 1) X.A) (hb : KBx X.K fd ps (n + 1) ks gV)
    (hx : PassesAt cx X σ (E σ)) (I : Inv X pins σ H s) (r : Vals vs us) (rz : Vals zs ws) (l1 : vs.length = n) (l2 : zs.length = ks.length)
    (h : ∀ x dx, H x = none → H dx = none → dx ≠ x → sp (gV (.ref x :: vs) zs) (upd (upd H dx (.own x)) x (.ins C dx [])) (fun v H2 => v = .non ∧ Q (.ref x) H2) (E σ)) :
    wpAny (model X.prog X.w) X.A (call (.ref C) us (ks.zip ws)) (EP X pins σ Q) X.xe s := by
  obtain ⟨g, hb⟩ := hb
  have hq := h (s.heap.objs.size + 1) s.heap.objs.size (I.hok.fresh (Nat.le_succ _)) (I.hok.fresh (Nat.le_refl _)) (Nat.ne_of_lt (Nat.lt_succ_self _))
  have I2 := Inv.made (C := C) I
  have r1 : Vals (V.ref (s.heap.objs.size + 1) :: vs) (Value.ref (s.heap.objs.size + 1) :: us) := .cons rfl r
  have r2 := hb.rel r1 rz
  have e1 : (Value.ref (s.heap.objs.size + 1) :: us).length = n + 1 := r1.length.symm.trans (congrArg Nat.succ l1)
  have e2 : ws.length = ks.length := rz.length.symm.trans l2
  refine wpAny_call (make_map (f := f) I.kIn M.makes M.init (beq_iff_eq.mp M.fn) (codeAny_mono (F.run _ X.stack _ _ ⟨Value.ref (s.heap.objs.size + 1) :: us, ks.zip ws⟩ (g (Value.ref (s.heap.objs.size + 1) :: us) ws) _ _ (E σ) (hr.make C us (ks.zip ws))
    (I2.env0.make C us (ks.zip ws)) (hb.to _ (Value.ref (s.heap.objs.size + 1) :: us) ws I2.kIn e1 e2) r2 hq) fun r s' hq' => ?_))
  cases r with
  | error e => exact hx pins _ _ e s' I2 hq'
  | ok fl =>
    cases fl with
    | ret u =>
      obtain ⟨v, H', I3, rv, ev, q3⟩ := I2.after hq'
      subst ev
      exact ⟨rv, ⟨V.ref (s.heap.objs.size + 1), H', I3, rfl, q3⟩⟩
    | next => exact False.elim hq'
    | brk => exact False.elim hq'
    | cont => exact False.elim hq'
theorem pe_makeU (M : Mk X.K C f) (F : FnOk X.prog X.w X.K X.mg X.base cx k f fd ps sp) (hr : Room (k + 1) X.A) (hg : Gl X x) (hm : X.mg x = some (.ref C)) (hb : KBx X.K fd ps (n + 1) ks gV) (hx : ∀ σ, PassesAt cx X σ (E σ))
    (ha : PA X (e :: es) t) (hkw : PK X kws tk) (hall : (backToKw pos (keywordEach kws X.env)).all (·.1.isSome) = true := by rfl) (hks : (backToKw pos (keywordEach kws X.env)).filterMap (·.1) = ks := by rfl)
    (hdb : (x == ("__debug__" : Str)) = false := by decide) (he : starEach (e :: es) X.env = (false, eval e X.env) :: starEach es X.env := by rfl)
    (hpl : ((backTo pos (starEach (e :: es) X.env)).any (·.1) || (backToKw pos (keywordEach kws X.env)).any (·.1.isNone)) = false := by rfl) :
    PE X (.Call (.Name x p) (e :: es) kws pos) (tMakeU C n ks.length sp gV E t tk) := by
  refine ⟨fun pins s σ H Q I h => ?_⟩
  refine wpAny_Call_Name_kw (ld_glob I hg hm ?_ hdb)
  refine PySem.W.callWith_KW (h₀ := X.base) I.ok.mod.kin M.kp hall (thn (ha.run pos pins s σ H _ I h) fun us s1 ⟨vs, H1, I1, r, q⟩ => ?_) hpl he
  refine thn (hkw.run pos pins s1 σ H1 _ I1 q) fun ws s2 ⟨zs, H2, I2, rz, l1, l2, q2⟩ => ⟨I2.kIn, ?_⟩
  rw [hks]
  exact run_makeU M F hr hb (hx σ) I2 r rz l1 l2 q2
theorem pe_makeU0 (M : Mk X.K C f) (F : FnOk X.prog X.w X.K X.mg X.base cx k f fd ps sp) (hr : Room (k + 1) X.A) (hg : Gl X x) (hm : X.mg x = some (.ref C)) (hb : KBx X.K fd ps 1 ks gV) (hx : ∀ σ, PassesAt cx X σ (E σ))
    (hkw : PK X kws tk) (hall : (backToKw pos (keywordEach kws X.env)).all (·.1.isSome) = true := by rfl) (hks : (backToKw pos (keywordEach kws X.env)).filterMap (·.1) = ks := by rfl)
    (hdb : (x == ("__debug__" : Str)) = false := by decide)
    (hpl : ((backTo pos (starEach [] X.env)).any (·.1) || (backToKw pos (keywordEach kws X.env)).any (·.1.isNone)) = false := by rfl) :
    PE X (.Call (.Name x p) [] kws pos) (tMakeU C 0 ks.length sp gV E tNil tk) := by
  refine ⟨fun pins s σ H Q I h => ?_⟩
  refine wpAny_Call_Name_kw (ld_glob I hg hm ?_ hdb)
  refine PySem.W.callWith_KW0 (h₀ := X.base) I.ok.mod.kin M.kp hall ?_ hpl
  refine thn (hkw.run pos pins s σ H _ I h) fun ws s2 ⟨zs, H2, I2, rz, l1, l2, q2⟩ => ⟨I2.kIn, ?_⟩
  rw [hks]
  exact run_makeU (n := 0) (us := []) M F hr hb (hx σ) I2 .nil rz l1 l2 q2
/-- o.m(e, .., k = v, ..): o an instance of the class at C -/
def tMethU (C : Addr) (nm : Str) (n m : Nat) (sp : Sp) (gV : List V → List V → List V) (E : L2.St → XK) (ta : TE) (t tk : TA) : TE := fun σ H Q => ta σ H fun x H1 => ∃ a dx fs, x = .ref a ∧ H1 a = some (.ins C dx fs) ∧ fs.lookup nm = none ∧
  t σ H1 fun vs H2 => tk σ H2 fun zs H3 => vs.length = n ∧ zs.length = m ∧ sp (gV (.ref a :: vs) zs) H3 Q (E σ)
theorem pe_methU {pl : Sem Bool} (he : PE X o ta) (c : Cls X.K C) (hm : Meth X.K C m f) (F : FnOk X.prog X.w X.K X.mg X.base cx k f fd ps sp) (hr : Room k X.A) (hb : KBx X.K fd ps (n + 1) ks gV) (hx : ∀ σ, PassesAt cx X σ (E σ)) (ha : PA X (e :: es) t) (hkw : PK X kws tk)
    (q1 : (backToKw pos (keywordEach kws X.env)).all (·.1.isSome) = true := by rfl) (q2 : (backToKw pos (keywordEach kws X.env)).filterMap (·.1) = ks := by rfl) (q4 : starEach (e :: es) X.env = (false, eval e X.env) :: starEach es X.env := by rfl)
    (q5 : ((backTo pos (starEach (e :: es) X.env)).any (·.1) || (backToKw pos (keywordEach kws X.env)).any (·.1.isNone)) = false := by rfl)
    (ht : eval (.Call (.Attribute o m apos) (e :: es) kws pos) X.env = (do
      let ov ← eval o X.env
      standAt apos.atName
      let (f, first) ← holding [ov] (getMethod ov m pl)
      callWith pos f first (backTo pos (starEach (e :: es) X.env)) (backToKw pos (keywordEach kws X.env))) := by rfl) :
    PE X (.Call (.Attribute o m apos) (e :: es) kws pos) (tMethU C m n ks.length sp gV E ta t tk) := by
  obtain ⟨g, hb⟩ := hb
  refine ⟨fun pins s σ H Q I h => ?_⟩
  refine PySem.W.methodCall_KW (pl := pl) (thn (he.run pins s σ H _ I h) fun u s1 ⟨x, H1, I1, rx, a, dx, fs, ex, ea, l, q⟩ => ?_) ht
  subst ex
  obtain rfl : u = Value.ref a := rx
  refine getmeth_ok I1 ea c hm l ?_
  refine PySem.W.callWith_KW (first := [.ref a]) (h₀ := X.base) I.ok.mod.kin hm.kp q1 (thn (ha.run pos pins s1 σ H1 _ I1 q) fun us s2 ⟨vs, H2, I2, r, qq⟩ => thn (hkw.run pos pins s2 σ H2 _ I2 qq) fun ws s3 ⟨zs, H3, I3, rz, l1, l2, hs⟩ => ⟨I3.kIn, ?_⟩) q5 q4
  rw [q2]
  have r1 : Vals (V.ref a :: vs) (Value.ref a :: us) := .cons rfl r
  exact after_call I3 (hx σ) (F.run X.A X.stack s3 H3 ⟨Value.ref a :: us, ks.zip ws⟩ (g (Value.ref a :: us) ws) (gV (.ref a :: vs) zs) Q (E σ) hr I3.env0 (hb.to s3 (Value.ref a :: us) ws I3.kIn (r1.length.symm.trans (congrArg Nat.succ l1)) (rz.length ▸ l2)) (hb.rel r1 rz) hs)
theorem pe_methU0 {pl : Sem Bool} (he : PE X o ta) (c : Cls X.K C) (hm : Meth X.K C m f) (F : FnOk X.prog X.w X.K X.mg X.base cx k f fd ps sp) (hr : Room k X.A) (hb : KBx X.K fd ps 1 ks gV) (hx : ∀ σ, PassesAt cx X σ (E σ)) (hkw : PK X kws tk)
    (q1 : (backToKw pos (keywordEach kws X.env)).all (·.1.isSome) = true := by rfl) (q2 : (backToKw pos (keywordEach kws X.env)).filterMap (·.1) = ks := by rfl)
    (q5 : ((backTo pos (starEach [] X.env)).any (·.1) || (backToKw pos (keywordEach kws X.env)).any (·.1.isNone)) = false := by rfl)
    (ht : eval (.Call (.Attribute o m apos) [] kws pos) X.env = (do
      let ov ← eval o X.env
      standAt apos.atName
      let (f, first) ← holding [ov] (getMethod ov m pl)
      callWith pos f first (backTo pos (starEach [] X.env)) (backToKw pos (keywordEach kws X.env))) := by rfl) :
    PE X (.Call (.Attribute o m apos) [] kws pos) (tMethU C m 0 ks.length sp gV E ta tNil tk) := by
  obtain ⟨g, hb⟩ := hb
  refine ⟨fun pins s σ H Q I h => ?_⟩
  refine PySem.W.methodCall_KW (pl := pl) (thn (he.run pins s σ H _ I h) fun u s1 ⟨x, H1, I1, rx, a, dx, fs, ex, ea, l, q⟩ => ?_) ht
  subst ex
  obtain rfl : u = Value.ref a := rx
  refine getmeth_ok I1 ea c hm l ?_
  refine PySem.W.callWith_KW0 (first := [.ref a]) (h₀ := X.base) I.ok.mod.kin hm.kp q1 (thn (hkw.run pos pins s1 σ H1 _ I1 q) fun ws s3 ⟨zs, H3, I3, rz, l1, l2, hs⟩ => ⟨I3.kIn, ?_⟩) q5
  rw [q2]
  have r1 : Vals [V.ref a] [Value.ref a] := .cons rfl .nil
  exact after_call I3 (hx σ) (F.run X.A X.stack s3 H3 ⟨[Value.ref a], ks.zip ws⟩ (g [Value.ref a] ws) (gV [.ref a] zs) Q (E σ) hr I3.env0 (hb.to s3 [Value.ref a] ws I3.kIn rfl (rz.length ▸ l2)) (hb.rel r1 rz) hs)
end
/-! ### own ==, != -/
section
variable {X : Cx} {cx : CXT} {n : Nat} {C g : Addr} {sp : Sp} {E : XK}
/-- x == y, x an instance of the class at C with its own __eq__ at g; y anything whose class is not below C -/
def rEqO (K : PySem.W.Frag) (C : Addr) (sp : Sp) (E : XK) : R2 := fun x y H Q => ∃ a dx fs t, x = .ref a ∧ H a = some (.ins C dx fs) ∧ TyX K H y t ∧ PySem.W.notFirst K C t = true ∧ sp [x, y] H Q E
theorem back_of {pins : List (Addr × Obj)} {σ : L2.St} {Q : VK} {v : Value} {s' : Shared} (z : EP X pins σ Q v s') : PySem.W.CmpBack (EP X pins σ Q) v s' := by
  obtain ⟨z', H', I', rz, qz⟩ := z
  exact SlX.cmpback rz ⟨z', H', I', rz, qz⟩
theorem op_eqO (hs : PySem.W.findIn X.K (.ref C) "__eq__" = some (some (.ref g))) (hf : PySem.W.isFn X.K (.ref g) = true) (F : FnR X.prog X.w X.K X.mg X.base cx n g sp) (hr : Room n X.A) (hx : Passes cx X E) : OpR X (compareOp .Eq) (rEqO X.K C sp E) := by
  intro pins s σ H x y v u Q I rx ry h
  obtain ⟨a, dx, fs, t, rfl, ha, ty, hn, q⟩ := h
  cases (show v = Value.ref a from rx)
  obtain ⟨mA, O, _⟩ := ins_get I.hok ha
  obtain ⟨od, J, _⟩ := O.look
  obtain ⟨P, Z, p, _⟩ := kit_of I ry ty
  obtain ⟨m, hF⟩ := I.fr
  show wpAny _ _ (richCompare .Eq _ _) _ _ _
  refine PySem.W.cmp_K (op := .Eq) (tb := t) hr.units0 hF I.ok.mod.kin J (Z.ty _ _ I.kIn p) hn hs hf ?_
  exact wpAny_mono (wpAny_call (run_fnR (us := [.ref a, u]) (vs := [.ref a, y]) F hr hx I (.cons rfl (.cons ry .nil)) q)) (fun w s' z => back_of z) fun _ _ x => x

/-- the special method is a built-in slot of object -/
theorem ifBound_B {M : Model} {K : PySem.W.Frag} {A : Around} {E : Value → Shared → Prop} {s : Shared} {x C : Addr} {ox : Obj} {od : Option Obj} {name : Str} {id : String} {args : List Value} {Q : Option Value → Shared → Prop} (X : K.In s.heap) (I : PySem.W.InstAt s.heap x ox C od) (hs : PySem.W.findIn K (.ref C) name = some (some (.builtin id)))
    (hb : ∀ self, bindSpecial (.builtin id) self = pure (.builtin id, [self])) (h : wpAny M A (call (.builtin id) (.ref x :: args)) (fun v => Q (some v)) E s) : wpAny M A (callSpecialIfBound? (.ref x) name args) Q E s := by
  simp only [callSpecialIfBound?, bindSpecialIfBound?]
  refine wpAny_holding (wpAny_bind (wpAny_bind (wpAny_bind (I.type.here ((PySem.W.looks_findIn X hs).here ?_)))))
  simp only [hb]
  refine wpAny_bind (wpAny_askSetting (wpAny_ite ?_))
  have fin : wpAny M A (call (.builtin id) ([.ref x] ++ args) >>= fun v => pure (some v)) Q E s := wpAny_bind (wpAny_mono h (fun v s' h' => wpAny_pure h') fun _ _ h' => h')
  split
  · exact wpAny_bind (wpAny_pure (wpAny_pure fin))
  · exact wpAny_tryCatch (wpAny_bind (wpAny_pure (wpAny_pure fin)))
theorem ne_KO {prog : Program} {w : World} {K : PySem.W.Frag} {A : Around} {E : Value → Shared → Prop} {s : Shared} {x C f : Addr} {ox : Obj} {od : Option Obj} {b tb : Value} {Q : Value → Shared → Prop} (hu : A.units + 1 < cLine) (X : K.In s.heap) (I : PySem.W.InstAt s.heap x ox C od)
    (hb : PySem.W.Looks (model prog w) s.heap (typeOf b) tb) (hn : PySem.W.notFirst K C tb = true) (hne : PySem.W.findIn K (.ref C) "__ne__" = some (some (.builtin "object.__ne__"))) (ho : PySem.W.subIn K (.ref C) (.type "object") = some true)
    (hs : PySem.W.findIn K (.ref C) "__eq__" = some (some (.ref f))) (hf : PySem.W.isFn K (.ref f) = true)
    (h : wpAny (model prog w) A.in1 (call (.ref f) [.ref x, b]) (fun v s' => ∃ c, v = .bool c ∧ Q (.bool (!c)) s') E s) : wpAny (model prog w) A (richCompare .NotEq (.ref x) b) Q E s := by
  have body : wpAny (model prog w) A.in1 (Builtin.«object.__ne__» ⟨[.ref x, b], []⟩) (fun fin s' => match fin with | .done fl => (match fl with | .ret v => Q v s' ∧ ∃ c, v = .bool c | _ => False) | .again _ => False) E s := by
    unfold Builtin.«object.__ne__»
    repeat (first
      | with_reducible refine wpAny_cRoomFor hu ?_
      | (refine wpAny_bind (m := callSpecialIfBound? (.ref x) (Str.ofString "__eq__") [b])
          (PySem.W.ifBound_K X I hs hf (wpAny_mono h (fun r s' hr => by
            obtain ⟨c, rfl, hq⟩ := hr
            repeat (first | exact ⟨hq, _, rfl⟩ | exact wpAny_pure ⟨hq, _, rfl⟩ | exact wpAny_truthy_bool ⟨hq, _, rfl⟩ | (refine wpAny_bind (m := truthy (.bool _)) (wpAny_truthy_bool ?_)) | wp_step)) fun _ _ e => e)))
      | wp_step)
  have one : wpAny (model prog w) A (tryCompare (.ref x) "__ne__" b) (fun r s' => ∃ v, r = some v ∧ Q v s') E s := by
    unfold tryCompare
    refine wpAny_bind (ifBound_B X I hne (fun self => PySem.F.cmp_object.ne.bind self) ?_)
    refine wpAny_call (codeAny_call_builtin PySem.F.cmp_object.ne.plain PySem.F.cmpEntry_ne (PySem.W.check_slot PySem.F.cmpKind_ne PySem.F.cmpSplit_ne (I.type.andThen (PySem.W.looks_subIn X ho)) (PySem.F.cmpArgs_ne _ _) ?_))
    refine wpAny_mono body (fun fin s' z => ?_) fun _ _ e => e
    cases fin with
    | again c => exact z.elim
    | done fl =>
      cases fl with
      | ret v =>
        obtain ⟨q, c, rfl⟩ := z
        exact wpAny_pure ⟨_, rfl, q⟩
      | _ => exact z.elim
  unfold richCompare
  simp only [oneThing_ref]
  refine wpAny_holding (wpAny_bind (wpAny_cRoomFor (Nat.lt_of_succ_lt hu) ?_))
  refine wpAny_bind (I.type.here (wpAny_bind (hb.here ?_)))
  split
  · rename_i q
    have e : PySem.W.subIn K tb (.ref C) = some false := by
      rcases Bool.or_eq_true_iff.mp hn with e | e
      · rw [beq_iff_eq.mp e] at q; simp at q
      · exact beq_iff_eq.mp e
    refine wpAny_bind ((PySem.W.looks_subIn X e).here ?_)
    simp only [Bool.false_eq_true, if_false]
    refine wpAny_bind (wpAny_mono one (fun r s' z => ?_) fun _ _ e => e)
    obtain ⟨v, rfl, hq⟩ := z
    exact wpAny_pure hq
  · refine wpAny_bind (wpAny_pure ?_)
    simp only [Bool.false_eq_true, if_false]
    refine wpAny_bind (wpAny_mono one (fun r s' z => ?_) fun _ _ e => e)
    obtain ⟨v, rfl, hq⟩ := z
    exact wpAny_pure hq
/-- x != y -/
def rNeO (K : PySem.W.Frag) (C : Addr) (sp : Sp) (E : XK) : R2 := fun x y H Q => ∃ a dx fs t, x = .ref a ∧ H a = some (.ins C dx fs) ∧ TyX K H y t ∧ PySem.W.notFirst K C t = true ∧ sp [x, y] H (fun v H' => ∃ c, v = .bl c ∧ Q (.bl (!c)) H') E
theorem op_neO (hne : PySem.W.findIn X.K (.ref C) "__ne__" = some (some (.builtin "object.__ne__"))) (ho : PySem.W.subIn X.K (.ref C) (.type "object") = some true) (hs : PySem.W.findIn X.K (.ref C) "__eq__" = some (some (.ref g))) (hf : PySem.W.isFn X.K (.ref g) = true)
    (F : FnR X.prog X.w X.K X.mg X.base cx n g sp) (hr : Room (n + 1) X.A) (hx : Passes cx X E) : OpR X (compareOp .NotEq) (rNeO X.K C sp E) := by
  intro pins s σ H x y v u Q I rx ry h
  obtain ⟨a, dx, fs, t, rfl, ha, ty, hn, q⟩ := h
  cases (show v = Value.ref a from rx)
  obtain ⟨mA, O, _⟩ := ins_get I.hok ha
  obtain ⟨od, J, _⟩ := O.look
  obtain ⟨P, Z, p, _⟩ := kit_of I ry ty
  show wpAny _ _ (richCompare .NotEq _ _) _ _ _
  have hr1 : Room n X.A.in1 := Room.in1 hr
  refine ne_KO (tb := t) hr1.units0 I.kIn J (Z.ty _ _ I.kIn p) hn hne ho hs hf ?_
  refine wpAny_mono (wpAny_call (SlX.run_at (us := [.ref a, u]) (ws := [.ref a, y]) F hr1 I.env0.in1 hx I (.cons rfl (.cons ry .nil)) q)) (fun w s' z => ?_) fun _ _ x => x
  obtain ⟨z', H', I', rz, c, rfl, qz⟩ := z
  cases (show w = Value.bool c from rz)
  exact ⟨c, rfl, .bl (!c), H', I', rfl, qz⟩
/-- repr(x), x an instance with its own __repr__: a text -/
def rReprO (C : Addr) (sp : Sp) (E : XK) : List V → Hp → VK → Prop := fun xs H Q => ∃ a dx fs, xs = [.ref a] ∧ H a = some (.ins C dx fs) ∧ sp [.ref a] H (fun v H' => ∃ z, v = .str z ∧ Q (.str z) H') E
theorem call_reprO (hs : PySem.W.findIn X.K (.ref C) "__repr__" = some (some (.ref g))) (hf : PySem.W.isFn X.K (.ref g) = true) (F : FnR X.prog X.w X.K X.mg X.base cx n g sp) (hr : Room (n + 1) X.A) (hx : Passes cx X E) : CallR X (.builtin "repr") (rReprO C sp E) := by
  intro pins s σ H xs us Q I r h
  obtain ⟨a, dx, fs, rfl, ha, q⟩ := h
  obtain ⟨u, rfl, ru⟩ := r.one
  cases (show u = Value.ref a from ru)
  obtain ⟨mA, O, _⟩ := ins_get I.hok ha
  obtain ⟨od, J, _⟩ := O.look
  obtain ⟨m, hF⟩ := I.fr
  have hr1 : Room n X.A.in1 := Room.in1 hr
  refine PySem.W.repr_K hr1.units0 hF I.ok.mod.kin J hs hf (wpAny_mono (wpAny_call (SlX.run_at (us := [.ref a]) (ws := [.ref a]) F hr1 I.env0.in1 hx I (.cons rfl .nil) q)) (fun w s' z => ?_) fun _ _ x => x)
  obtain ⟨z', H', I', rz, y, rfl, qz⟩ := z
  obtain ⟨t, rfl⟩ := (show ∃ t, w = Value.str y t from rz)
  exact ⟨.str y, H', I', ⟨t, rfl⟩, qz⟩
/-- len(x), x an instance with its own __len__ -/
def rLenO (C : Addr) (sp : Sp) (E : XK) : List V → Hp → VK → Prop := fun xs H Q => ∃ a dx fs, xs = [.ref a] ∧ H a = some (.ins C dx fs) ∧ sp [.ref a] H (fun v H' => ∃ i : Int, v = .int i ∧ 0 ≤ i ∧ i < 2 ^ 63 ∧ Q (.int i) H') E
theorem call_lenO (hs : PySem.W.findIn X.K (.ref C) "__len__" = some (some (.ref g))) (hf : PySem.W.isFn X.K (.ref g) = true) (F : FnR X.prog X.w X.K X.mg X.base cx n g sp) (hr : Room (n + 1) X.A) (hx : Passes cx X E) : CallR X (.builtin "len") (rLenO C sp E) := by
  intro pins s σ H xs us Q I r h
  obtain ⟨a, dx, fs, rfl, ha, q⟩ := h
  obtain ⟨u, rfl, ru⟩ := r.one
  cases (show u = Value.ref a from ru)
  obtain ⟨mA, O, _⟩ := ins_get I.hok ha
  obtain ⟨od, J, _⟩ := O.look
  obtain ⟨m, hF⟩ := I.fr
  have hr1 : Room n X.A.in1 := Room.in1 hr
  refine PySem.W.len_K hF I.ok.mod.kin J hs hf (wpAny_mono (wpAny_call (SlX.run_at (us := [.ref a]) (ws := [.ref a]) F hr1 I.env0.in1 hx I (.cons rfl .nil) q)) (fun w s' z => ?_) fun _ _ x => x)
  obtain ⟨z', H', I', rz, i, rfl, h0, h1, qz⟩ := z
  obtain ⟨t, rfl⟩ := (show ∃ t, w = Value.int i t from rz)
  exact ⟨⟨h0, h1⟩, .int i, H', I'.tok _, ⟨_, rfl⟩, qz⟩
end
/-! ### what the head says of a class -/
def kinds : List String := ["NoneType", "bool", "int", "str", "list", "tuple", "dict"]
def cfB (K : PySem.W.Frag) (x : Str) : Bool :=
  He.eqO (PySem.W.findIn K (.ref (He.ga K x)) "__class__") (some (some (.builtin "object.__class__"))) && (decide (PySem.W.specialIn K (.builtin "object.__class__") "__get__" = some (some (.builtin "getset_descriptor.__get__"))) && (decide (PySem.W.takesIn K (.builtin "object.__class__") = some true) &&
  (decide (PySem.W.mroIn K (He.ga K x) (.type "object") = some true) && (He.eqO (PySem.W.findIn K (.ref (He.ga K x)) "__ne__") (some (some (.builtin "object.__ne__"))) && (decide (PySem.W.kitOne K (.ref (He.ga K x)) (.ref (He.ga K x)) = some true) &&
  kinds.all fun T => decide (PySem.W.kitOne K (.type T) (.ref (He.ga K x)) = some false) && decide (PySem.W.subIn K (.type T) (.ref (He.ga K x)) = some false))))))
structure CF (K : PySem.W.Frag) (C : Addr) : Prop where
  ca : PySem.W.findIn K (.ref C) "__class__" = some (some (.builtin "object.__class__"))
  cn : PySem.W.specialIn K (.builtin "object.__class__") "__get__" = some (some (.builtin "getset_descriptor.__get__"))
  ct : PySem.W.takesIn K (.builtin "object.__class__") = some true
  cm : PySem.W.mroIn K C (.type "object") = some true
  ne : PySem.W.findIn K (.ref C) "__ne__" = some (some (.builtin "object.__ne__"))
  me : PySem.W.kitOne K (.ref C) (.ref C) = some true
  no : ∀ T ∈ kinds, PySem.W.kitOne K (.type T) (.ref C) = some false ∧ PySem.W.subIn K (.type T) (.ref C) = some false
theorem cf_ok {K : PySem.W.Frag} {x : Str} (h : cfB K x = true) : CF K (He.ga K x) := by
  obtain ⟨h1, h⟩ := He.ba h
  obtain ⟨h2, h⟩ := He.ba h
  obtain ⟨h3, h⟩ := He.ba h
  obtain ⟨h4, h⟩ := He.ba h
  obtain ⟨h5, h⟩ := He.ba h
  obtain ⟨h6, h⟩ := He.ba h
  refine ⟨He.eqO_ok h1, of_decide_eq_true h2, of_decide_eq_true h3, of_decide_eq_true h4, He.eqO_ok h5, of_decide_eq_true h6, fun T hT => ?_⟩
  obtain ⟨h7, h8⟩ := He.ba (List.all_eq_true.mp h T hT)
  exact ⟨of_decide_eq_true h7, of_decide_eq_true h8⟩
theorem CF.ob {K : PySem.W.Frag} {C : Addr} (c : CF K C) : PySem.W.subIn K (.ref C) (.type "object") = some true := c.cm
theorem CF.ty {K : PySem.W.Frag} {C a dx : Addr} {H : Hp} {fs : List (Str × V)} (c : CF K C) (cl : Cls K C) (h : H a = some (.ins C dx fs)) : TyX K H (.ref a) (.ref C) := .base (.ins h cl c.ca c.cn c.ct c.cm)
theorem CF.nf {K : PySem.W.Frag} {C : Addr} (_c : CF K C) : PySem.W.notFirst K C (.ref C) = true := by
  unfold PySem.W.notFirst
  rw [beq_self_eq_true]
  rfl
theorem CF.nk {K : PySem.W.Frag} {C : Addr} {T : String} (c : CF K C) (h : T ∈ kinds) : PySem.W.notFirst K C (.type T) = true := by
  unfold PySem.W.notFirst
  rw [(c.no T h).2, beq_self_eq_true, Bool.or_true]
theorem Kd.mem {H : Hp} {v : V} {T : String} (k : Kd H v T) : T ∈ kinds := by cases k <;> simp [kinds]
/-- isinstance(y, C), y no instance | an instance of C itself -/
theorem i_isiN {K : PySem.W.Frag} {C : Addr} {H : Hp} {Q : VK} {v : V} {T : String} (c : CF K C) (k : Kd H v T) (q : Q (.bl false) H) : rIsi K [v, .ref C] H Q := ⟨v, .ref C, .type T, .ref C, false, rfl, .own C, k.ty, (c.no T k.mem).1, q⟩
theorem i_isiY {K : PySem.W.Frag} {C a dx : Addr} {H : Hp} {Q : VK} {fs : List (Str × V)} (c : CF K C) (cl : Cls K C) (h : H a = some (.ins C dx fs)) (q : Q (.bl true) H) : rIsi K [.ref a, .ref C] H Q := ⟨.ref a, .ref C, .ref C, .ref C, true, rfl, .own C, c.ty cl h, c.me, q⟩
/-! ### binding with defaults -/
theorem kbx_dfl {K : PySem.W.Frag} {x qual : Str} {params : Arguments} {body : List Stmt} {scope : Scope} {dvs : List V} {kws : List (Str × V)} {f : Addr} {fd : FuncData} {ps : List Str} (F : FunD K x qual params body scope dvs kws f fd) (n : Nat) (ks : List Str) (perm : List Nat) (hd : dvs ≠ [])
    (h : ∀ (T : Addr) (kV doc pm : Value) (an : Option Addr) (cdv ct : Value) (us its ws : List Value), us.length = n → its.length = dvs.length → ws.length = ks.length →
      ∃ k, bindArgs (PySem.W.fnOf x qual params body scope (.ref T) kV doc pm an cdv ct) ⟨us, ks.zip ws⟩ = seqItems? (.ref T) >>= k ∧ k (some its.toArray) = pure (ps.zip (gp3 perm its us ws))) : KBx K fd ps n ks (gp3 perm dvs) :=
  (FunD.kbindsD F n ks (fun us its ws => gp3 perm its us ws) hd (fun r1 r2 r3 => gp3_rel r2 r1 r3) h).elim fun _ z => ⟨_, z⟩
theorem kbx_full {K : PySem.W.Frag} {x qual : Str} {params : Arguments} {body : List Stmt} {scope : Scope} {dvs : List V} {kws : List (Str × V)} {f : Addr} {fd : FuncData} {ps : List Str} (F : FunD K x qual params body scope dvs kws f fd) (n : Nat) (ks : List Str) (perm : List Nat)
    (h : ∀ (dV kV doc pm : Value) (an : Option Addr) (cdv ct : Value) (us ws : List Value), us.length = n → ws.length = ks.length → bindArgs (PySem.W.fnOf x qual params body scope dV kV doc pm an cdv ct) ⟨us, ks.zip ws⟩ = pure (ps.zip (gp perm us ws))) : KBx K fd ps n ks (gp perm) := by
  obtain ⟨oc, od, dV, kV, doc, pm, an, cdv, ct, osl, rfl, lk, hcd, hD, hK⟩ := F.ex
  exact ⟨_, ⟨fun s us ws _ h1 h2 => .of_eq (h dV kV doc pm an cdv ct us ws h1 h2), gp_rel⟩⟩
end G
/-! # LL: the ledger: what is known of the heap, in one fact -/
namespace G
open PySem PySem.Spec PyProof.Rows L2
/-- H0: the heap at the start; M: what of it may have changed; B: the box (its place, how many draws); R: objects that are known -/
structure Led (H0 : Hp) (M : List Addr) (H : Hp) (B : Option (Addr × Nat)) (R : List (Addr × HO)) : Prop where
  has : ∀ q ∈ R, H q.1 = some q.2
  nd : R.Pairwise fun p q => p.1 ≠ q.1
  own : ∀ q ∈ R, H0 q.1 = none ∨ q.1 ∈ M
  fr : ∀ a o, H0 a = some o → a ∉ M → H a = some o
  bx : ∀ a n, B = some (a, n) → BoxAt n H a ∧ (∀ q ∈ R, q.1 ≠ a) ∧ (H0 a = none ∨ a ∈ M)
section
variable {H0 H H' : Hp} {M : List Addr} {B : Option (Addr × Nat)} {R R' : List (Addr × HO)} {a p : Addr} {o o' : HO} {n m : Nat}
theorem Led.get (l : Led H0 M H B R) (h : (a, o) ∈ R) : H a = some o := l.has _ h
theorem Led.start : Led H [] H none [] := ⟨fun _ h => (List.not_mem_nil h).elim, .nil, fun _ h => (List.not_mem_nil h).elim, fun _ _ h _ => h, fun _ _ h => nomatch h⟩
theorem Led.startB (b : BoxAt n H a) : Led H [a] H (some (a, n)) [] := ⟨fun _ h => (List.not_mem_nil h).elim, .nil, fun _ h => (List.not_mem_nil h).elim, fun _ _ h _ => h, fun _ _ h => by
  cases h
  exact ⟨b, fun _ h => (List.not_mem_nil h).elim, .inr (List.mem_singleton.mpr rfl)⟩⟩
theorem Led.free (l : Led H0 M H B R) (hp : H p = none) : H0 p = none ∨ p ∈ M := by
  by_cases hm : p ∈ M
  · exact .inr hm
  · rcases Option.eq_none_or_eq_some (H0 p) with z | ⟨o, z⟩
    · exact .inl z
    · rw [l.fr p o z hm] at hp
      cases hp
theorem Led.new (l : Led H0 M H B R) (hp : H p = none) : Led H0 M (upd H p o) B ((p, o) :: R) := by
  have ne : ∀ q ∈ R, q.1 ≠ p := fun q hq e => by
    have h := l.has q hq
    rw [e, hp] at h
    cases h
  refine ⟨fun q hq => ?_, List.pairwise_cons.mpr ⟨fun q hq => (ne q hq).symm, l.nd⟩, fun q hq => ?_, fun b u h hm => ?_, fun b k e => ?_⟩
  · rcases List.mem_cons.mp hq with rfl | hq
    · exact upd_same
    · rw [upd_ne (ne q hq)]
      exact l.has q hq
  · rcases List.mem_cons.mp hq with rfl | hq
    · exact l.free hp
    · exact l.own q hq
  · exact old (l.fr b u h hm) hp
  · obtain ⟨h1, h2, h3⟩ := l.bx b k e
    have nb := h1.ne hp
    refine ⟨h1.new hp, fun q hq => ?_, h3⟩
    rcases List.mem_cons.mp hq with rfl | hq
    · exact nb
    · exact h2 q hq
theorem Led.same (l : Led H0 M H B R) (s : Same H H') : Led H0 M H' B R :=
  ⟨fun q hq => s _ _ (l.has q hq), l.nd, l.own, fun b u h hm => s _ _ (l.fr b u h hm), fun b k e => let ⟨h1, h2, h3⟩ := l.bx b k e; ⟨let ⟨u, g1, g2⟩ := h1; ⟨u, s _ _ g1, g2⟩, h2, h3⟩⟩
theorem Led.kp (l : Led H0 M H (some (a, n)) R) (k : Kp a H H') (b : BoxAt m H' a) : Led H0 M H' (some (a, m)) R := by
  obtain ⟨h1, h2, h3⟩ := l.bx a n rfl
  refine ⟨fun q hq => k _ _ (h2 q hq) (l.has q hq), l.nd, l.own, fun b' u h hm => k _ _ (fun e => ?_) (l.fr b' u h hm), fun b' k' e => ?_⟩
  · rcases h3 with z | z
    · rw [e, z] at h
      cases h
    · exact hm (e ▸ z)
  · cases e
    exact ⟨b, h2, h3⟩
theorem Led.ret (l : Led H0 M H B R) (s : Same H H') (hp : H p = none) (h : H' p = some o) : Led H0 M H' B ((p, o) :: R) := by
  have ne : ∀ q ∈ R, q.1 ≠ p := fun q hq e => by
    have h := l.has q hq
    rw [e, hp] at h
    cases h
  have l2 := l.same s
  refine ⟨fun q hq => ?_, List.pairwise_cons.mpr ⟨fun q hq => (ne q hq).symm, l.nd⟩, fun q hq => ?_, l2.fr, fun b k e => ?_⟩
  · rcases List.mem_cons.mp hq with rfl | hq
    · exact h
    · exact l2.has q hq
  · rcases List.mem_cons.mp hq with rfl | hq
    · exact l.free hp
    · exact l.own q hq
  · obtain ⟨h1, h2, h3⟩ := l.bx b k e
    have nb := h1.ne hp
    refine ⟨(l2.bx b k e).1, fun q hq => ?_, h3⟩
    rcases List.mem_cons.mp hq with rfl | hq
    · exact nb
    · exact h2 q hq
/-- an object of the ledger is written -/
inductive Put (a : Addr) (o' : HO) : List (Addr × HO) → List (Addr × HO) → Prop
  | here {o : HO} {R : List (Addr × HO)} : Put a o' ((a, o) :: R) ((a, o') :: R)
  | there {q : Addr × HO} {R R' : List (Addr × HO)} (h : Put a o' R R') : Put a o' (q :: R) (q :: R')
theorem Put.facts : ∀ {R R' : List (Addr × HO)}, Put a o' R R' → R.map (·.1) = R'.map (·.1) ∧ a ∈ R.map (·.1) ∧ (R.Pairwise (fun p q => p.1 ≠ q.1) → ∀ q ∈ R', q = (a, o') ∨ (q ∈ R ∧ q.1 ≠ a))
  | _, _, .here => ⟨rfl, List.mem_cons_self, fun nd q hq => by
      rcases List.mem_cons.mp hq with rfl | hq
      · exact .inl rfl
      · exact .inr ⟨List.mem_cons_of_mem _ hq, ((List.pairwise_cons.mp nd).1 q hq).symm⟩⟩
  | _, _, .there h => by
      obtain ⟨f1, f2, f3⟩ := h.facts
      refine ⟨by rw [List.map_cons, List.map_cons, f1], List.mem_cons_of_mem _ f2, fun nd q hq => ?_⟩
      obtain ⟨n1, n2⟩ := List.pairwise_cons.mp nd
      rcases List.mem_cons.mp hq with rfl | hq
      · obtain ⟨y, hy, e⟩ := List.mem_map.mp f2
        exact .inr ⟨List.mem_cons_self, e ▸ n1 y hy⟩
      · rcases f3 n2 q hq with z | ⟨z1, z2⟩
        · exact .inl z
        · exact .inr ⟨List.mem_cons_of_mem _ z1, z2⟩
theorem pw_map {R R' : List (Addr × HO)} (e : R.map (·.1) = R'.map (·.1)) (h : R.Pairwise fun p q => p.1 ≠ q.1) : R'.Pairwise fun p q => p.1 ≠ q.1 := by
  have h1 : (R.map (·.1)).Pairwise (· ≠ ·) := List.pairwise_map.mpr h
  rw [e] at h1
  exact List.pairwise_map.mp h1
theorem Led.put (l : Led H0 M H B R) (h : Put a o' R R') : Led H0 M (upd H a o') B R' := by
  obtain ⟨f1, f2, f3⟩ := h.facts
  obtain ⟨y, hy, ey⟩ := List.mem_map.mp f2
  have oa : H0 a = none ∨ a ∈ M := ey ▸ l.own y hy
  refine ⟨fun q hq => ?_, pw_map f1 l.nd, fun q hq => ?_, fun b u h hm => ?_, fun b k e => ?_⟩
  · rcases f3 l.nd q hq with rfl | ⟨z1, z2⟩
    · exact upd_same
    · rw [upd_ne z2]
      exact l.has q z1
  · rcases f3 l.nd q hq with rfl | ⟨z1, z2⟩
    · exact oa
    · exact l.own q z1
  · refine oldw (fun e => ?_) (l.fr b u h hm)
    rcases oa with z | z
    · rw [e, z] at h
      cases h
    · exact hm (e ▸ z)
  · obtain ⟨h1, h2, h3⟩ := l.bx b k e
    refine ⟨h1.wr (fun e' => h2 y hy (ey.trans e'.symm)), fun q hq => ?_, h3⟩
    rcases f3 l.nd q hq with rfl | ⟨z1, z2⟩
    · exact fun e' => h2 y hy (ey.trans e')
    · exact h2 q z1
/-- some of what is known -/
theorem Led.sub (l : Led H0 M H B R) (h : R'.Sublist R) : Led H0 M H B R' :=
  ⟨fun q hq => l.has q (h.subset hq), l.nd.sublist h, fun q hq => l.own q (h.subset hq), l.fr, fun b k e => let ⟨h1, h2, h3⟩ := l.bx b k e; ⟨h1, fun q hq => h2 q (h.subset hq), h3⟩⟩
theorem Led.nil (l : Led H0 M H B R) : Led H0 M H B [] := l.sub (List.nil_sublist _)
theorem Led.noBox (l : Led H0 M H B R) : Led H0 M H none R := ⟨l.has, l.nd, l.own, l.fr, fun _ _ e => nomatch e⟩
theorem Led.mono (l : Led H0 M H (some (a, n)) R) (h : n ≤ m) : Led H0 M H (some (a, m)) R := ⟨l.has, l.nd, l.own, l.fr, fun b k e => by
  cases e
  obtain ⟨h1, h2, h3⟩ := l.bx a n rfl
  exact ⟨h1.mono h, h2, h3⟩⟩
theorem Led.box (l : Led H0 M H (some (a, n)) R) : BoxAt n H a := (l.bx a n rfl).1
theorem Led.toSame (l : Led H0 [] H B R) : Same H0 H := fun b u h => l.fr b u h (by simp)
theorem Led.toKp (l : Led H0 [a] H B R) : Kp a H0 H := fun b u e h => l.fr b u h (by simpa using e)
theorem Led.sq {K : PySem.W.Frag} {xs : List V} (l : Led H0 M H B R) (h : SqL K H0 a xs) (hm : a ∉ M) : SqL K H a xs := by
  rcases h with (h | ⟨u, h⟩) | h
  · exact .inl (.inl (l.fr _ _ h hm))
  · exact .inl (.inr ⟨u, l.fr _ _ h hm⟩)
  · exact .inr h
theorem Led.newBox (l : Led H0 M H none R) (hp : H p = none) (b : BoxO 0 o) : Led H0 M (upd H p o) (some (p, 0)) R := by
  have l2 := l.new (o := o) hp
  have l3 : Led H0 M (upd H p o) none R := l2.sub (List.sublist_cons_self _ _)
  refine ⟨l3.has, l3.nd, l3.own, l3.fr, fun b' k e => ?_⟩
  cases e
  refine ⟨.of b, fun q hq e => ?_, l.free hp⟩
  have h := l.has q hq
  rw [e, hp] at h
  cases h
/-! ### steps -/
theorem i_alloc {xs : List V} {Q : VK} {f : List V → HO} (l : Led H0 M H B R) (hs : xs.length ≤ sizeLine) (q : ∀ p H', Led H0 M H' B ((p, f xs) :: R) → Q (.ref p) H') : xs.length ≤ sizeLine ∧ ∀ p, H p = none → Q (.ref p) (upd H p (f xs)) := ⟨hs, fun p hp => q p _ (l.new hp)⟩
theorem i_lstN {σ : L2.St} {t : TA} {Q : VK} (q : t σ H fun xs H1 => xs.length ≤ sizeLine ∧ ∀ p, H1 p = none → Q (.ref p) (upd H1 p (HO.lst xs))) : tLst t σ H Q := q
theorem i_take {Q : VK} {E : XK} {m : Int} (l : Led H0 M H (some (a, n)) R) (hn : n ≤ 1000000) (hm : 0 < m) (hm2 : m < 1073741824) (q : ∀ (r : Int) H', 0 ≤ r → r < m → Led H0 M H' (some (a, n + 1)) R → Q (.int r) H') : sp_l_take [.ref a, .int m] H Q E :=
  ⟨a, m, n, rfl, l.box, hn, hm, hm2, fun r o h0 h1 ho => q r _ h0 h1 (l.kp Kp.box (.of ho))⟩
theorem i_boxN {Q : VK} {E : XK} {i : Int} (l : Led H0 M H none R) (q : ∀ p H', Led H0 M H' (some (p, 0)) R → Q (.ref p) H') : sp_l_box [.int i] H Q E := ⟨i, rfl, fun p o hp ho => q p _ (l.newBox hp ho)⟩
theorem i_cellN {K : PySem.W.Frag} {Q : VK} {E : XK} {ns : List Int} {k : Int} (h : SqL K H a (ns.map V.int)) (hk : 0 ≤ k) (q : ∀ i : Int, Q (.int i) H) : sp_l_cell K [.ref a, .int k] H Q E := ⟨a, ns, k, rfl, h, hk, q⟩
end
end G
/-! # LM: readings of classes, steps with the ledger -/
namespace G
open PySem PySem.Spec PyProof.Rows L2
section
variable {σ : L2.St} {H : Hp} {Q : VK} {K : PySem.W.Frag} {D : Ends}
theorem i_makeU {C : Addr} {n m : Nat} {sp : Sp} {gV : List V → List V → List V} {E : L2.St → XK} {t tk : TA} (q : t σ H fun vs H1 => tk σ H1 fun zs H2 => vs.length = n ∧ zs.length = m ∧
  ∀ x dx, H2 x = none → H2 dx = none → dx ≠ x → sp (gV (.ref x :: vs) zs) (upd (upd H2 dx (.own x)) x (.ins C dx [])) (fun v H3 => v = .non ∧ Q (.ref x) H3) (E σ)) : tMakeU C n m sp gV E t tk σ H Q := q
theorem i_methU {C : Addr} {nm : Str} {n m : Nat} {sp : Sp} {gV : List V → List V → List V} {E : L2.St → XK} {ta : TE} {t tk : TA} (q : ta σ H fun x H1 => ∃ a dx fs, x = .ref a ∧ H1 a = some (.ins C dx fs) ∧ fs.lookup nm = none ∧
  t σ H1 fun vs H2 => tk σ H2 fun zs H3 => vs.length = n ∧ zs.length = m ∧ sp (gV (.ref a :: vs) zs) H3 Q (E σ)) : tMethU C nm n m sp gV E ta t tk σ H Q := q
theorem i_methR {C a dx : Addr} {fs : List (Str × V)} {nm : Str} {F : Addr → Prop} (h : H a = some (.ins C dx fs)) (l : fs.lookup nm = none) (q : F a) : ∃ a' dx' fs', V.ref a = .ref a' ∧ H a' = some (.ins C dx' fs') ∧ fs'.lookup nm = none ∧ F a' := ⟨a, dx, fs, rfl, h, l, q⟩
theorem i_fld {ta : TE} {f : Str} (q : ta σ H fun x H1 => ∃ a C dx fs v, x = .ref a ∧ H1 a = some (.ins C dx fs) ∧ Cls K C ∧ NoAttr K C f ∧ fs.lookup f = some v ∧ Q v H1) : tFld K ta f σ H Q := q
theorem i_fldR {a C dx : Addr} {fs : List (Str × V)} {f : Str} {v : V} {F : V → Prop} (h : H a = some (.ins C dx fs)) (cl : Cls K C) (na : NoAttr K C f) (l : fs.lookup f = some v) (q : F v) : ∃ a' C' dx' fs' v', V.ref a = .ref a' ∧ H a' = some (.ins C' dx' fs') ∧ Cls K C' ∧ NoAttr K C' f ∧ fs'.lookup f = some v' ∧ F v' := ⟨a, C, dx, fs, v, rfl, h, cl, na, l, q⟩
theorem i_sfld {ta tv : TE} {f : Str} (q : tv σ H fun y H1 => ta σ H1 fun x H2 => ∃ a C dx fs, x = .ref a ∧ H2 a = some (.ins C dx fs) ∧ Cls K C ∧ NoAttr K C f ∧ fs.length < 1000 ∧ D.nx σ (upd H2 a (.ins C dx (putF f y fs)))) : sFld K ta tv f D σ H := q
theorem i_sfldR {a C dx : Addr} {fs : List (Str × V)} {f : Str} {y : V} {P : Hp → Prop} (h : H a = some (.ins C dx fs)) (cl : Cls K C) (na : NoAttr K C f) (l : fs.length < 1000) (q : P (upd H a (.ins C dx (putF f y fs)))) : ∃ a' C' dx' fs', V.ref a = .ref a' ∧ H a' = some (.ins C' dx' fs') ∧ Cls K C' ∧ NoAttr K C' f ∧ fs'.length < 1000 ∧ P (upd H a' (.ins C' dx' (putF f y fs'))) := ⟨a, C, dx, fs, rfl, h, cl, na, l, q⟩
theorem i_prop {C : Addr} {sp : Sp} {dvs : List V} {E : XK} {ta : TE} (q : ta σ H fun x H1 => ∃ a dx fs, x = .ref a ∧ H1 a = some (.ins C dx fs) ∧ sp (.ref a :: dvs) H1 Q E) : tProp C sp dvs E ta σ H Q := q
theorem i_lrg {te : L2.St → Hp → (Int → Int → Hp → Prop) → Prop} (q : te σ H fun a b H1 => RgOk a b ∧ ∀ q, H1 q = none → Q (.ref q) (upd H1 q (.lst (rgV a b)))) : tLstRg te σ H Q := q
theorem i_rg2 {ta tb : TE} {F : Int → Int → Hp → Prop} (q : ta σ H fun x H1 => tb σ H1 fun y H2 => ∃ i j, x = .int i ∧ y = .int j ∧ F i j H2) : tRg2 ta tb σ H F := q
theorem i_int2 {i j : Int} {F : Int → Int → Prop} (q : F i j) : ∃ i' j', V.int i = .int i' ∧ V.int j = .int j' ∧ F i' j' := ⟨i, j, rfl, rfl, q⟩
theorem lk_hd {f : Str} {v : V} {r : List (Str × V)} : ((f, v) :: r).lookup f = some v := by simp
theorem lk_tl {f g : Str} {u v : V} {r : List (Str × V)} (h : (f == g) = false) (q : r.lookup f = some v) : ((g, u) :: r).lookup f = some v := by
  rw [List.lookup_cons, h]
  exact q
theorem lk_no {f g : Str} {u : V} {r : List (Str × V)} (h : (f == g) = false) (q : r.lookup f = none) : ((g, u) :: r).lookup f = none := by
  rw [List.lookup_cons, h]
  exact q
theorem lk_nil {f : Str} : ([] : List (Str × V)).lookup f = none := rfl
theorem isBl_eq {b : Bool} {P : Prop} (h : b = true → P) (h2 : b = false → P) : P := by cases b with | true => exact h rfl | false => exact h2 rfl
end
section
variable {H0 H H' : Hp} {M : List Addr} {B : Option (Addr × Nat)} {R : List (Addr × HO)} {Q : VK} {K : PySem.W.Frag}
/-- a list, a tuple, a dict is laid -/
theorem i_allocL {xs : List V} (l : Led H0 M H B R) (hs : xs.length ≤ sizeLine) (q : ∀ p H', Led H0 M H' B ((p, .lst xs) :: R) → Q (.ref p) H') : xs.length ≤ sizeLine ∧ ∀ p, H p = none → Q (.ref p) (upd H p (.lst xs)) := ⟨hs, fun p hp => q p _ (l.new hp)⟩
theorem i_allocT {xs : List V} (l : Led H0 M H B R) (hs : xs.length ≤ sizeLine) (q : ∀ p H', Led H0 M H' B ((p, .tup xs) :: R) → Q (.ref p) H') : xs.length ≤ sizeLine ∧ ∀ p, H p = none → Q (.ref p) (upd H p (.tup xs)) := ⟨hs, fun p hp => q p _ (l.new hp)⟩
theorem i_allocO {o : HO} {F : V → Hp → Prop} (l : Led H0 M H B R) (q : ∀ p H', Led H0 M H' B ((p, o) :: R) → F (.ref p) H') : ∀ p, H p = none → F (.ref p) (upd H p o) := fun p hp => q p _ (l.new hp)
theorem led_make {x dx C : Addr} {fs : List (Str × V)} (l : Led H0 M H B R) (hx : H x = none) (hd : H dx = none) (ne : dx ≠ x) : Led H0 M (upd (upd (upd H dx (.own x)) x (.ins C dx [])) x (.ins C dx fs)) B ((x, .ins C dx fs) :: R) := by
  have l1 := l.new (o := .own x) hd
  have hx1 : upd H dx (.own x) x = none := by rw [upd_ne (Ne.symm ne)]; exact hx
  have l2 := l1.new (o := .ins C dx []) hx1
  have l3 := l2.put (o' := .ins C dx fs) .here
  exact l3.sub (List.Sublist.cons₂ _ (List.sublist_cons_self _ _))
theorem led_made0 {x dx C : Addr} (l : Led H0 M H B R) (hx : H x = none) (hd : H dx = none) (ne : dx ≠ x) : Led H0 M (upd (upd H dx (.own x)) x (.ins C dx [])) B ((x, .ins C dx []) :: R) := by
  have l1 := l.new (o := .own x) hd
  have hx1 : upd H dx (.own x) x = none := by rw [upd_ne (Ne.symm ne)]; exact hx
  exact (l1.new (o := .ins C dx []) hx1).sub (List.Sublist.cons₂ _ (List.sublist_cons_self _ _))
/-- a call that draws and hands back a new object -/
theorem Led.kpNew {a p : Addr} {n m : Nat} {o : HO} (l : Led H0 M H (some (a, n)) R) (k : Kp a H H') (b : BoxAt m H' a) (hp : H p = none) (h : H' p = some o) : Led H0 M H' (some (a, m)) ((p, o) :: R) := by
  have l2 := l.kp k b
  obtain ⟨h1, h2, h3⟩ := l.bx a n rfl
  have nb := h1.ne hp
  have ne : ∀ q ∈ R, q.1 ≠ p := fun q hq e => by
    have h := l.has q hq
    rw [e, hp] at h
    cases h
  refine ⟨fun q hq => ?_, List.pairwise_cons.mpr ⟨fun q hq => (ne q hq).symm, l.nd⟩, fun q hq => ?_, l2.fr, fun b' k' e => ?_⟩
  · rcases List.mem_cons.mp hq with rfl | hq
    · exact h
    · exact l2.has q hq
  · rcases List.mem_cons.mp hq with rfl | hq
    · exact l.free hp
    · exact l.own q hq
  · obtain ⟨g1, g2, g3⟩ := l2.bx b' k' e
    cases e
    refine ⟨g1, fun q hq => ?_, g3⟩
    rcases List.mem_cons.mp hq with rfl | hq
    · exact nb
    · exact h2 q hq
theorem Led.newOf {a p : Addr} {m : Nat} {o : HO} {R' : List (Addr × HO)} (l : Led H [a] H' (some (a, m)) R') (h : (p, o) ∈ R') : H p = none := by
  rcases l.own _ h with z | z
  · exact z
  · exact absurd (List.mem_singleton.mp z) ((l.bx a m rfl).2.1 _ h)
theorem Led.newOf0 {p : Addr} {o : HO} {R' : List (Addr × HO)} (l : Led H [] H' B R') (h : (p, o) ∈ R') : H p = none := by
  rcases l.own _ h with z | z
  · exact z
  · exact absurd z (List.not_mem_nil)
theorem isI_yes {n lo hi : Int} (h0 : lo ≤ n) (h1 : n ≤ hi) : isI (.int n) lo hi = true := by
  show (decide (lo ≤ n) && decide (n ≤ hi)) = true
  rw [decide_eq_true h0, decide_eq_true h1]
  rfl
end
/-! ### new lists and tuples, the rest kept as one -/
def NewL (xs : List V) (H : Hp) (Q : VK) : Prop := xs.length ≤ sizeLine ∧ ∀ p, H p = none → Q (.ref p) (upd H p (.lst xs))
def NewT (xs : List V) (H : Hp) (Q : VK) : Prop := xs.length ≤ sizeLine ∧ ∀ p, H p = none → Q (.ref p) (upd H p (.tup xs))
section
variable {σ : L2.St} {H0 H H' : Hp} {M : List Addr} {B : Option (Addr × Nat)} {R : List (Addr × HO)} {Q : VK} {K : PySem.W.Frag}
theorem i_lstW {t : TA} (q : t σ H fun xs H1 => NewL xs H1 Q) : tLst t σ H Q := q
theorem i_tupW {t : TA} (q : t σ H fun xs H1 => NewT xs H1 Q) : tTup t σ H Q := q
theorem i_newL {xs : List V} (l : Led H0 M H B R) (hs : xs.length ≤ sizeLine) (q : ∀ p H', Led H0 M H' B ((p, .lst xs) :: R) → Q (.ref p) H') : NewL xs H Q := ⟨hs, fun p hp => q p _ (l.new hp)⟩
theorem i_newT {xs : List V} (l : Led H0 M H B R) (hs : xs.length ≤ sizeLine) (q : ∀ p H', Led H0 M H' B ((p, .tup xs) :: R) → Q (.ref p) H') : NewT xs H Q := ⟨hs, fun p hp => q p _ (l.new hp)⟩
theorem i_newL0 {xs : List V} (hs : xs.length ≤ sizeLine) (q : ∀ p, H p = none → Q (.ref p) (upd H p (.lst xs))) : NewL xs H Q := ⟨hs, q⟩
theorem i_newT0 {xs : List V} (hs : xs.length ≤ sizeLine) (q : ∀ p, H p = none → Q (.ref p) (upd H p (.tup xs))) : NewT xs H Q := ⟨hs, q⟩
/-- a + b, lists -/
theorem i_cat {a b : Addr} {xs zs : List V} (l : Led H0 M H B R) (ha : (a, HO.lst xs) ∈ R) (hb : (b, HO.lst zs) ∈ R) (hs : xs.length + zs.length ≤ sizeLine) (q : ∀ p H', Led H0 M H' B ((p, .lst (xs ++ zs)) :: R) → Q (.ref p) H') : rCat (.ref a) (.ref b) H Q :=
  ⟨a, b, xs, zs, rfl, rfl, l.get ha, l.get hb, hs, fun p hp => q p _ (l.new hp)⟩
end
end G
/-! # LN: == of data, isinstance by kinds, lists in the ledger -/
namespace G
open PySem PySem.Spec PyProof.Rows L2
theorem isi_non_int {K : PySem.W.Frag} {H : Hp} {Q : VK}  (q : Q (.bl false) H) : rIsi K [V.non, .ty "int"] H Q := i_isi .non (by decide +kernel) q
theorem isi_non_bool {K : PySem.W.Frag} {H : Hp} {Q : VK}  (q : Q (.bl false) H) : rIsi K [V.non, .ty "bool"] H Q := i_isi .non (by decide +kernel) q
theorem isi_non_str {K : PySem.W.Frag} {H : Hp} {Q : VK}  (q : Q (.bl false) H) : rIsi K [V.non, .ty "str"] H Q := i_isi .non (by decide +kernel) q
theorem isi_non_list {K : PySem.W.Frag} {H : Hp} {Q : VK}  (q : Q (.bl false) H) : rIsi K [V.non, .ty "list"] H Q := i_isi .non (by decide +kernel) q
theorem isi_non_tuple {K : PySem.W.Frag} {H : Hp} {Q : VK}  (q : Q (.bl false) H) : rIsi K [V.non, .ty "tuple"] H Q := i_isi .non (by decide +kernel) q
theorem isi_non_dict {K : PySem.W.Frag} {H : Hp} {Q : VK}  (q : Q (.bl false) H) : rIsi K [V.non, .ty "dict"] H Q := i_isi .non (by decide +kernel) q
theorem isi_bl_int {K : PySem.W.Frag} {H : Hp} {Q : VK} {b : Bool} (q : Q (.bl true) H) : rIsi K [V.bl b, .ty "int"] H Q := i_isi (.bl b) (by decide +kernel) q
theorem isi_bl_bool {K : PySem.W.Frag} {H : Hp} {Q : VK} {b : Bool} (q : Q (.bl true) H) : rIsi K [V.bl b, .ty "bool"] H Q := i_isi (.bl b) (by decide +kernel) q
theorem isi_bl_str {K : PySem.W.Frag} {H : Hp} {Q : VK} {b : Bool} (q : Q (.bl false) H) : rIsi K [V.bl b, .ty "str"] H Q := i_isi (.bl b) (by decide +kernel) q
theorem isi_bl_list {K : PySem.W.Frag} {H : Hp} {Q : VK} {b : Bool} (q : Q (.bl false) H) : rIsi K [V.bl b, .ty "list"] H Q := i_isi (.bl b) (by decide +kernel) q
theorem isi_bl_tuple {K : PySem.W.Frag} {H : Hp} {Q : VK} {b : Bool} (q : Q (.bl false) H) : rIsi K [V.bl b, .ty "tuple"] H Q := i_isi (.bl b) (by decide +kernel) q
theorem isi_bl_dict {K : PySem.W.Frag} {H : Hp} {Q : VK} {b : Bool} (q : Q (.bl false) H) : rIsi K [V.bl b, .ty "dict"] H Q := i_isi (.bl b) (by decide +kernel) q
theorem isi_int_int {K : PySem.W.Frag} {H : Hp} {Q : VK} {i : Int} (q : Q (.bl true) H) : rIsi K [V.int i, .ty "int"] H Q := i_isi (.int i) (by decide +kernel) q
theorem isi_int_bool {K : PySem.W.Frag} {H : Hp} {Q : VK} {i : Int} (q : Q (.bl false) H) : rIsi K [V.int i, .ty "bool"] H Q := i_isi (.int i) (by decide +kernel) q
theorem isi_int_str {K : PySem.W.Frag} {H : Hp} {Q : VK} {i : Int} (q : Q (.bl false) H) : rIsi K [V.int i, .ty "str"] H Q := i_isi (.int i) (by decide +kernel) q
theorem isi_int_list {K : PySem.W.Frag} {H : Hp} {Q : VK} {i : Int} (q : Q (.bl false) H) : rIsi K [V.int i, .ty "list"] H Q := i_isi (.int i) (by decide +kernel) q
theorem isi_int_tuple {K : PySem.W.Frag} {H : Hp} {Q : VK} {i : Int} (q : Q (.bl false) H) : rIsi K [V.int i, .ty "tuple"] H Q := i_isi (.int i) (by decide +kernel) q
theorem isi_int_dict {K : PySem.W.Frag} {H : Hp} {Q : VK} {i : Int} (q : Q (.bl false) H) : rIsi K [V.int i, .ty "dict"] H Q := i_isi (.int i) (by decide +kernel) q
theorem isi_str_int {K : PySem.W.Frag} {H : Hp} {Q : VK} {z : Str} (q : Q (.bl false) H) : rIsi K [V.str z, .ty "int"] H Q := i_isi (.str z) (by decide +kernel) q
theorem isi_str_bool {K : PySem.W.Frag} {H : Hp} {Q : VK} {z : Str} (q : Q (.bl false) H) : rIsi K [V.str z, .ty "bool"] H Q := i_isi (.str z) (by decide +kernel) q
theorem isi_str_str {K : PySem.W.Frag} {H : Hp} {Q : VK} {z : Str} (q : Q (.bl true) H) : rIsi K [V.str z, .ty "str"] H Q := i_isi (.str z) (by decide +kernel) q
theorem isi_str_list {K : PySem.W.Frag} {H : Hp} {Q : VK} {z : Str} (q : Q (.bl false) H) : rIsi K [V.str z, .ty "list"] H Q := i_isi (.str z) (by decide +kernel) q
theorem isi_str_tuple {K : PySem.W.Frag} {H : Hp} {Q : VK} {z : Str} (q : Q (.bl false) H) : rIsi K [V.str z, .ty "tuple"] H Q := i_isi (.str z) (by decide +kernel) q
theorem isi_str_dict {K : PySem.W.Frag} {H : Hp} {Q : VK} {z : Str} (q : Q (.bl false) H) : rIsi K [V.str z, .ty "dict"] H Q := i_isi (.str z) (by decide +kernel) q
theorem isi_lst_int {K : PySem.W.Frag} {H : Hp} {Q : VK} {a : Addr} {xs : List V} (e : H a = some (.lst xs)) (q : Q (.bl false) H) : rIsi K [.ref a, .ty "int"] H Q := i_isi (.lst e) (by decide +kernel) q
theorem isi_lst_bool {K : PySem.W.Frag} {H : Hp} {Q : VK} {a : Addr} {xs : List V} (e : H a = some (.lst xs)) (q : Q (.bl false) H) : rIsi K [.ref a, .ty "bool"] H Q := i_isi (.lst e) (by decide +kernel) q
theorem isi_lst_str {K : PySem.W.Frag} {H : Hp} {Q : VK} {a : Addr} {xs : List V} (e : H a = some (.lst xs)) (q : Q (.bl false) H) : rIsi K [.ref a, .ty "str"] H Q := i_isi (.lst e) (by decide +kernel) q
theorem isi_lst_list {K : PySem.W.Frag} {H : Hp} {Q : VK} {a : Addr} {xs : List V} (e : H a = some (.lst xs)) (q : Q (.bl true) H) : rIsi K [.ref a, .ty "list"] H Q := i_isi (.lst e) (by decide +kernel) q
theorem isi_lst_tuple {K : PySem.W.Frag} {H : Hp} {Q : VK} {a : Addr} {xs : List V} (e : H a = some (.lst xs)) (q : Q (.bl false) H) : rIsi K [.ref a, .ty "tuple"] H Q := i_isi (.lst e) (by decide +kernel) q
theorem isi_lst_dict {K : PySem.W.Frag} {H : Hp} {Q : VK} {a : Addr} {xs : List V} (e : H a = some (.lst xs)) (q : Q (.bl false) H) : rIsi K [.ref a, .ty "dict"] H Q := i_isi (.lst e) (by decide +kernel) q
theorem isi_tup_int {K : PySem.W.Frag} {H : Hp} {Q : VK} {a : Addr} {xs : List V} (e : H a = some (.tup xs)) (q : Q (.bl false) H) : rIsi K [.ref a, .ty "int"] H Q := i_isi (.tup e) (by decide +kernel) q
theorem isi_tup_bool {K : PySem.W.Frag} {H : Hp} {Q : VK} {a : Addr} {xs : List V} (e : H a = some (.tup xs)) (q : Q (.bl false) H) : rIsi K [.ref a, .ty "bool"] H Q := i_isi (.tup e) (by decide +kernel) q
theorem isi_tup_str {K : PySem.W.Frag} {H : Hp} {Q : VK} {a : Addr} {xs : List V} (e : H a = some (.tup xs)) (q : Q (.bl false) H) : rIsi K [.ref a, .ty "str"] H Q := i_isi (.tup e) (by decide +kernel) q
theorem isi_tup_list {K : PySem.W.Frag} {H : Hp} {Q : VK} {a : Addr} {xs : List V} (e : H a = some (.tup xs)) (q : Q (.bl false) H) : rIsi K [.ref a, .ty "list"] H Q := i_isi (.tup e) (by decide +kernel) q
theorem isi_tup_tuple {K : PySem.W.Frag} {H : Hp} {Q : VK} {a : Addr} {xs : List V} (e : H a = some (.tup xs)) (q : Q (.bl true) H) : rIsi K [.ref a, .ty "tuple"] H Q := i_isi (.tup e) (by decide +kernel) q
theorem isi_tup_dict {K : PySem.W.Frag} {H : Hp} {Q : VK} {a : Addr} {xs : List V} (e : H a = some (.tup xs)) (q : Q (.bl false) H) : rIsi K [.ref a, .ty "dict"] H Q := i_isi (.tup e) (by decide +kernel) q
theorem isi_dct_int {K : PySem.W.Frag} {H : Hp} {Q : VK} {a : Addr} {xs : List (Key × V)} (e : H a = some (.dK xs)) (q : Q (.bl false) H) : rIsi K [.ref a, .ty "int"] H Q := i_isi (.dct e) (by decide +kernel) q
theorem isi_dct_bool {K : PySem.W.Frag} {H : Hp} {Q : VK} {a : Addr} {xs : List (Key × V)} (e : H a = some (.dK xs)) (q : Q (.bl false) H) : rIsi K [.ref a, .ty "bool"] H Q := i_isi (.dct e) (by decide +kernel) q
theorem isi_dct_str {K : PySem.W.Frag} {H : Hp} {Q : VK} {a : Addr} {xs : List (Key × V)} (e : H a = some (.dK xs)) (q : Q (.bl false) H) : rIsi K [.ref a, .ty "str"] H Q := i_isi (.dct e) (by decide +kernel) q
theorem isi_dct_list {K : PySem.W.Frag} {H : Hp} {Q : VK} {a : Addr} {xs : List (Key × V)} (e : H a = some (.dK xs)) (q : Q (.bl false) H) : rIsi K [.ref a, .ty "list"] H Q := i_isi (.dct e) (by decide +kernel) q
theorem isi_dct_tuple {K : PySem.W.Frag} {H : Hp} {Q : VK} {a : Addr} {xs : List (Key × V)} (e : H a = some (.dK xs)) (q : Q (.bl false) H) : rIsi K [.ref a, .ty "tuple"] H Q := i_isi (.dct e) (by decide +kernel) q
theorem isi_dct_dict {K : PySem.W.Frag} {H : Hp} {Q : VK} {a : Addr} {xs : List (Key × V)} (e : H a = some (.dK xs)) (q : Q (.bl true) H) : rIsi K [.ref a, .ty "dict"] H Q := i_isi (.dct e) (by decide +kernel) q
/-! ### == and != of data -/
def rEqQ (K : PySem.W.Frag) : R2 := fun x y H Q => ∃ d e, Dq K H x d ∧ Dq K H y e ∧ SeqAt.shaped d = true ∧ SeqAt.shaped e = true ∧ Q (.bl (PyData.eqv d e)) H
def rNeQ (K : PySem.W.Frag) : R2 := fun x y H Q => ∃ d e, Dq K H x d ∧ Dq K H y e ∧ SeqAt.shaped d = true ∧ SeqAt.shaped e = true ∧ Q (.bl (!PyData.eqv d e)) H
section
variable {X : Cx}
theorem op_eqQ (S : SysIn X.K) (hu : X.A.units + 64 < cLine) : OpR X (compareOp .Eq) (rEqQ X.K) := by
  intro pins s σ H x y v u Q I rx ry h
  obtain ⟨d, e, hd, he, sd, se, q⟩ := h
  obtain ⟨as, r1, _⟩ := Dq.reads I S hd v rx
  obtain ⟨bs, r2, _⟩ := Dq.reads I S he u ry
  exact SeqAt.compareEq_shaped r1 r2 sd se hu ⟨.bl _, H, I, rfl, q⟩
theorem op_neQ (S : SysIn X.K) (hu : X.A.units + 64 < cLine) : OpR X (compareOp .NotEq) (rNeQ X.K) := by
  intro pins s σ H x y v u Q I rx ry h
  obtain ⟨d, e, hd, he, sd, se, q⟩ := h
  obtain ⟨as, r1, _⟩ := Dq.reads I S hd v rx
  obtain ⟨bs, r2, _⟩ := Dq.reads I S he u ry
  exact SeqAt.compareNe_shaped r1 r2 sd se hu ⟨.bl _, H, I, rfl, q⟩
end
theorem dq_intsA {K : PySem.W.Frag} {H : Hp} : ∀ ns : List Int, DqAll K H (ns.map V.int) (ns.map PyData.int)
  | [] => .nil
  | n :: ns => .cons (.int n) (dq_intsA ns)
theorem dq_ints {K : PySem.W.Frag} {H : Hp} {a : Addr} {ns : List Int} (h : H a = some (.lst (ns.map V.int))) : Dq K H (.ref a) (.list (ns.map PyData.int)) := .lstH h (dq_intsA ns)
theorem ok_ints {ns : List Int} {n : Nat} (h : ∀ i ∈ ns, i.natAbs < 10 ^ 40) (hl : ns.length ≤ n) : Okd (n * 43 + 3) 1 (.list (ns.map PyData.int)) := by
  refine (Okd.list (n := 41) (k := 0) fun d hd => ?_).mono ?_ (by decide)
  · obtain ⟨i, hi, rfl⟩ := List.mem_map.mp hd
    exact Okd.int (h i hi)
  · rw [List.length_map]
    omega
theorem canLay_ints : ∀ ns : List Int, PyData.canLayAll0 (ns.map PyData.int) = true
  | [] => rfl
  | n :: ns => by
    show (PyData.canLay0 (.int n) && PyData.canLayAll0 (ns.map PyData.int)) = true
    rw [canLay_ints ns]
    rfl
theorem depth_ints (ns : List Int) : (PyData.list (ns.map PyData.int)).depth ≤ 1 := by
  have e : PyData.depthAll (ns.map PyData.int) ≤ 0 := depthAll_of fun d hd => by
    obtain ⟨i, _, rfl⟩ := List.mem_map.mp hd
    exact Nat.le_refl _
  show PyData.depthAll (ns.map PyData.int) + 1 ≤ 1 
  omega
theorem shaped_ints (ns : List Int) : SeqAt.shaped (.list (ns.map PyData.int)) = true := by
  unfold SeqAt.shaped
  rw [Bool.and_eq_true]
  exact ⟨canLay_ints ns, decide_eq_true (Nat.le_trans (depth_ints ns) (by decide))⟩
theorem eqv_ints (ns ms : List Int) : PyData.eqv (.list (ns.map PyData.int)) (.list (ms.map PyData.int)) = decide (ns = ms) := by
  show PyData.eqvAll _ _ = _
  exact PySem.W.ked_eqvAll ns ms
/-! ### lists in the ledger -/
section
variable {σ : L2.St} {H0 H H' : Hp} {M : List Addr} {B : Option (Addr × Nat)} {R R' : List (Addr × HO)} {Q : VK} {K : PySem.W.Frag}
theorem i_neInts {a b : Addr} {ns ms : List Int} (ha : H a = some (.lst (ns.map V.int))) (hb : H b = some (.lst (ms.map V.int))) (q : Q (.bl (!decide (ns = ms))) H) : rNeQ K (.ref a) (.ref b) H Q :=
  ⟨_, _, dq_ints ha, dq_ints hb, shaped_ints ns, shaped_ints ms, by rw [eqv_ints]; exact q⟩
def AtBM (K : PySem.W.Frag) (T : String) (r : V → List V → Hp → VK → Prop) (t : TA) (σ : L2.St) (x : V) (H : Hp) (Q : VK) : Prop := tyV K T x H ∧ t σ H fun xs H2 => r x xs H2 Q
theorem i_bm {T : String} {r : V → List V → Hp → VK → Prop} {to : TE} {t : TA} (q : to σ H fun x H1 => AtBM K T r t σ x H1 Q) : tBM K T r to t σ H Q := q
theorem i_tyL {r : V → List V → Hp → VK → Prop} {t : TA} {a : Addr} {xs : List V} (h : H a = some (.lst xs)) (q : t σ H fun vs H2 => r (.ref a) vs H2 Q) : AtBM K "list" r t σ (.ref a) H Q := ⟨.inl ⟨rfl, _, SqL.of h⟩, q⟩
theorem i_app {a : Addr} {xs : List V} {y : V} (l : Led H0 M H B R) (h : (a, HO.lst xs) ∈ R) (hs : xs.length < sizeLine) (hp : Put a (.lst (xs ++ [y])) R R') (q : ∀ H', Led H0 M H' B R' → Q .non H') : rAppend (.ref a) [y] H Q :=
  ⟨a, xs, y, rfl, rfl, l.get h, hs, q _ (l.put hp)⟩
theorem i_listOf {a : Addr} {xs : List V} (l : Led H0 M H B R) (h : (a, HO.lst xs) ∈ R) (q : ∀ p H', Led H0 M H' B ((p, .lst xs) :: R) → Q (.ref p) H') : ∃ p ys, [V.ref a] = [.ref p] ∧ (SqL K H p ys ∨ SqT K H p ys) ∧ ∀ l, H l = none → Q (.ref l) (upd H l (.lst ys)) :=
  ⟨a, xs, rfl, .inl (SqL.of (l.get h)), fun p hp => q p _ (l.new hp)⟩
theorem i_sortI {a : Addr} {ns : List Int} (l : Led H0 M H B R) (h : (a, HO.lst (ns.map V.int)) ∈ R) (q : ∀ (ns' : List Int) p H', ns'.Perm ns → ns'.Pairwise (· ≤ ·) → Led H0 M H' B ((p, .lst (ns'.map V.int)) :: R) → Q (.ref p) H') : rSortedI K [.ref a] H Q :=
  ⟨a, ns, rfl, SqL.of (l.get h), fun ns' p h1 h2 hp => q ns' p _ h1 h2 (l.new hp)⟩
theorem i_lrgL {a b : Int} (l : Led H0 M H B R) (ok : RgOk a b) (q : ∀ p H', Led H0 M H' B ((p, .lst (rgV a b)) :: R) → Q (.ref p) H') : RgOk a b ∧ ∀ q, H q = none → Q (.ref q) (upd H q (.lst (rgV a b))) := ⟨ok, fun p hp => q p _ (l.new hp)⟩
end
/-! ### targets -/
section
variable {σ : L2.St} {H0 H : Hp} {M : List Addr} {B : Option (Addr × Nat)} {R : List (Addr × HO)} {Q : VK} {K : PySem.W.Frag} {F : L2.St → Hp → Prop}
def NewR (a b : Int) (H : Hp) (Q : VK) : Prop := RgOk a b ∧ ∀ q, H q = none → Q (.ref q) (upd H q (.lst (rgV a b)))
theorem i_lrgW {te : L2.St → Hp → (Int → Int → Hp → Prop) → Prop} (q : te σ H fun a b H1 => NewR a b H1 Q) : tLstRg te σ H Q := q
theorem i_newR {a b : Int} (l : Led H0 M H B R) (ok : RgOk a b) (q : ∀ p H', Led H0 M H' B ((p, .lst (rgV a b)) :: R) → Q (.ref p) H') : NewR a b H Q := ⟨ok, fun p hp => q p _ (l.new hp)⟩
def NewM (C : Addr) (n m : Nat) (sp : Sp) (gV : List V → List V → List V) (E : XK) (vs zs : List V) (H : Hp) (Q : VK) : Prop := vs.length = n ∧ zs.length = m ∧ ∀ x dx, H x = none → H dx = none → dx ≠ x → sp (gV (.ref x :: vs) zs) (upd (upd H dx (.own x)) x (.ins C dx [])) (fun v H3 => v = .non ∧ Q (.ref x) H3) E
theorem i_makeW {C : Addr} {n m : Nat} {sp : Sp} {gV : List V → List V → List V} {E : L2.St → XK} {t tk : TA} (q : t σ H fun vs H1 => tk σ H1 fun zs H2 => NewM C n m sp gV (E σ) vs zs H2 Q) : tMakeU C n m sp gV E t tk σ H Q := q
theorem i_gnil (q : F σ H) : gNil [] σ H F := ⟨rfl, q⟩
theorem i_gcons {v : V} {vs : List V} {t : TG} {u : TGs} (q : t v σ H fun σ' H' => u vs σ' H' F) : gCons t u (v :: vs) σ H F := ⟨v, vs, rfl, q⟩
theorem i_gtup {p : Addr} {xs : List V} {n : Nat} {t : TGs} (h : H p = some (.tup xs)) (hl : xs.length = n) (q : t xs σ H F) : gTup K n t (.ref p) σ H F := ⟨p, xs, rfl, SqT.of h, hl, q⟩
end
theorem few' {xs : List V} (h : Nat.ble xs.length 1000 = true := by rfl) : xs.length < sizeLine := Nat.lt_of_le_of_lt (Nat.le_of_ble_eq_true h) (by decide)
end G
/-! # LO: str of an own instance -/
namespace G
open PySem PySem.Spec PyProof.Rows L2
theorem str_meets {prog : Program} {w : World} {v : Value} : MeetsIn prog w (Builtin.«str.__new__» ⟨[.type "str", v], []⟩) (fun A R s => wpAny (model prog w) A.in1 (Builtin.Str.strOf v) (fun r s' => R (.ok (.ret r)) s') (fun e s' => R (.error e) s') s) := by
  refine MeetsIn.of_wp fun A R s h => ?_
  rw [str_new_tree v]
  refine wpAny_bind (wpAny_pure ?_)
  refine wpAny_bind (wpAny_of_eq isSubtype_str_str ?_)
  exact wpAny_bind (wpAny_mono h (fun r s' h' => wpAny_pure ⟨_, rfl, h'⟩) fun _ _ e => e)
theorem str_KO {prog : Program} {w : World} {K : PySem.W.Frag} {A : Around} {E : Value → Shared → Prop} {s : Shared} {x C f : Addr} {ox : Obj} {od : Option Obj} {Q : Value → Shared → Prop} (hu : A.in1.in1.units < cLine) (X : K.In s.heap) (I : PySem.W.InstAt s.heap x ox C od)
    (hs : PySem.W.findIn K (.ref C) "__str__" = some (some (.ref f))) (hf : PySem.W.isFn K (.ref f) = true)
    (h : wpAny (model prog w) A.in1.in1 (call (.ref f) [.ref x]) (fun v s' => ∃ z t, v = .str z t ∧ Q v s') E s) : wpAny (model prog w) A (call (.type "str") [.ref x]) Q E s := by
  refine callType_newIn F.called_str (by decide) (F.typeCall_str_1 _) (F.newCall_str_1 _) (fun obj => F.args_object_init_2 obj _) F.entry_str_new str_meets ?_
  show wpAny (model prog w) A.in1.in1 (Builtin.Str.strOf (.ref x)) _ _ s
  unfold Builtin.Str.strOf
  repeat (first
    | with_reducible refine wpAny_cRoomFor hu ?_
    | (refine wpAny_bind (m := callSpecial? (.ref x) (Str.ofString "__str__")) (PySem.W.special_fn X I hs (beq_iff_eq.mp hf) (wpAny_mono h (fun r s' hr => ?_) fun _ _ e => e)))
    | wp_step)
  obtain ⟨z, t, rfl, hq⟩ := hr
  refine wpAny_pure ?_
  exact wpAny_pure ⟨typeIs_str _ _ _, hq⟩
section
variable {X : Cx} {cx : CXT} {n : Nat} {C g : Addr} {sp : Sp} {E : XK}
/-- str(x), x an instance with its own __str__ -/
def rStrO (C : Addr) (sp : Sp) (E : XK) : List V → Hp → VK → Prop := fun xs H Q => ∃ a dx fs, xs = [.ref a] ∧ H a = some (.ins C dx fs) ∧ sp [.ref a] H (fun v H' => ∃ z, v = .str z ∧ Q (.str z) H') E
theorem call_strO (hs : PySem.W.findIn X.K (.ref C) "__str__" = some (some (.ref g))) (hf : PySem.W.isFn X.K (.ref g) = true) (F : FnR X.prog X.w X.K X.mg X.base cx n g sp) (hr : Room (n + 2) X.A) (hx : Passes cx X E) : CallR X (.type "str") (rStrO C sp E) := by
  intro pins s σ H xs us Q I r h
  obtain ⟨a, dx, fs, rfl, ha, q⟩ := h
  obtain ⟨u, rfl, ru⟩ := r.one
  cases (show u = Value.ref a from ru)
  obtain ⟨mA, O, _⟩ := ins_get I.hok ha
  obtain ⟨od, J, _⟩ := O.look
  have hr1 : Room n X.A.in1.in1 := Room.in1 (show Room (n + 1) X.A.in1 from Room.in1 hr)
  refine str_KO hr1.units0 I.kIn J hs hf (wpAny_mono (wpAny_call (SlX.run_at (us := [.ref a]) (ws := [.ref a]) F hr1 I.env0.in1.in1 hx I (.cons rfl .nil) q)) (fun w s' z => ?_) fun _ _ x => x)
  obtain ⟨z', H', I', rz, y, rfl, qz⟩ := z
  obtain ⟨t, rfl⟩ := (show ∃ t, w = Value.str y t from rz)
  exact ⟨y, t, rfl, .str y, H', I', ⟨t, rfl⟩, qz⟩
end
end G
/-! # LP: properties and classmethods of the top -/
namespace G
open PySem PySem.Spec PyProof.Rows L2
/-- the function behind the property | the classmethod f of the class C -/
def getA (T : String) (C f : Str) (K : PySem.W.Frag) : Addr := match PySem.W.recIn K (He.ma K (He.ga K C) f) T with
  | some (.ref g :: _) => g
  | _ => 0
def codeB (K : PySem.W.Frag) (a : Addr) (qual : Str) : Bool := PySem.W.keepIn K (.ref a) && (match K.lookup a with
  | some ⟨_, _, .func fd, _⟩ => PySem.W.codeIn K fd.code qual
  | _ => false)
def propB (K : PySem.W.Frag) (C f : Str) : Bool := He.eqO (PySem.W.findIn K (.ref (He.ga K C)) f) (some (some (.ref (He.ma K (He.ga K C) f)))) && (decide (PySem.W.specialIn K (.ref (He.ma K (He.ga K C) f)) "__get__" = some (some (.builtin "property.__get__"))) &&
  (decide (PySem.W.takesIn K (.ref (He.ma K (He.ga K C) f)) = some true) && (match PySem.W.recIn K (He.ma K (He.ga K C) f) "property" with
    | some (.ref g :: _) => true
    | _ => false)))
theorem prop_ok {K : PySem.W.Frag} {C f : Str} (h : propB K C f = true) : PropOf K (He.ga K C) f (He.ma K (He.ga K C) f) (getA "property" C f K) := by
  obtain ⟨h1, h⟩ := He.ba h
  obtain ⟨h2, h⟩ := He.ba h
  obtain ⟨h3, h4⟩ := He.ba h
  refine ⟨He.eqO_ok h1, of_decide_eq_true h2, of_decide_eq_true h3, ?_⟩
  unfold getA
  revert h4
  cases e : PySem.W.recIn K (He.ma K (He.ga K C) f) "property" with
  | none => intro h4; cases h4
  | some l =>
    cases l with
    | nil => intro h4; cases h4
    | cons v r =>
      cases v with
      | ref g => intro _; exact ⟨r, rfl⟩
      | _ => intro h4; cases h4
theorem funD_plain {K : PySem.W.Frag} {a : Addr} {name qual : Str} {st : Stmt} (e : fnXa K a = some (name, qual, defArgs st, .stmts (defBody st), defScope st, mainGlobals, [], builtinsNs, .none, .none)) (c : codeB K a qual = true) : FunD K name qual (defArgs st) (defBody st) (defScope st) [] [] a (fdOf K a) := by
  obtain ⟨kp, c2⟩ := He.ba c
  unfold fnXa at e
  have key : ∃ fd, FunD K name qual (defArgs st) (defBody st) (defScope st) [] [] a fd := by
    cases q : K.lookup a with
    | none =>
      rw [q] at c2
      cases c2
    | some o =>
      obtain ⟨oc, od, dt, osl⟩ := o
      rw [q] at c2 e
      cases dt with
      | func fd =>
        obtain ⟨n1, n2, n3, n4, n5, n6, n7, n8, n9, n10, n11, n12, n13, n14, n15⟩ := fd
        have e2 : (some (n1, n2, n3, n4, n5, n6, n7.map (·.1), n15, n8, n9) : FnX) = some (name, qual, defArgs st, .stmts (defBody st), defScope st, mainGlobals, [], builtinsNs, .none, .none) := e
        simp only [Option.some.injEq, Prod.mk.injEq] at e2
        obtain ⟨h1, h2, h3, h4, h5, h6, h7, h8, h9, h10⟩ := e2
        have h7' : n7 = [] := by simpa using h7
        subst h1 h2 h3 h4 h5 h6 h7' h8 h9 h10
        exact ⟨_, ⟨oc, od, .none, .none, n10, n11, n12, n13, n14, osl, rfl, q, c2, He.dflB_ok (dvs := []) rfl, He.kwdB_ok (kws := []) rfl⟩, kp⟩
      | _ => cases c2
  obtain ⟨fd, F⟩ := key
  rw [fdOf_eq F]
  exact F
end G
/-! # LQ: every reading with a head of its own, so that a walk goes on by itself -/
namespace G
open PySem PySem.Spec PyProof.Rows L2
section
variable {σ : L2.St} {H H0 : Hp} {M : List Addr} {B : Option (Addr × Nat)} {R R' : List (Addr × HO)} {Q : VK} {K : PySem.W.Frag} {D : Ends} {a C dx : Addr} {fs : List (Str × V)} {f nm : Str} {v y : V}
def AtFld (K : PySem.W.Frag) (f : Str) (x : V) (H : Hp) (Q : VK) : Prop := ∃ a C dx fs v, x = .ref a ∧ H a = some (.ins C dx fs) ∧ Cls K C ∧ NoAttr K C f ∧ fs.lookup f = some v ∧ Q v H
theorem i_fldW {ta : TE} (q : ta σ H fun x H1 => AtFld K f x H1 Q) : tFld K ta f σ H Q := q
theorem i_atFld (h : H a = some (.ins C dx fs)) (cl : Cls K C) (na : NoAttr K C f) (l : fs.lookup f = some v) (q : Q v H) : AtFld K f (.ref a) H Q := ⟨a, C, dx, fs, v, rfl, h, cl, na, l, q⟩
def AtSet (K : PySem.W.Frag) (f : Str) (y x : V) (H : Hp) (S : Hp → Prop) : Prop := ∃ a C dx fs, x = .ref a ∧ H a = some (.ins C dx fs) ∧ Cls K C ∧ NoAttr K C f ∧ fs.length < 1000 ∧ S (upd H a (.ins C dx (putF f y fs)))
theorem i_sfldW {ta tv : TE} (q : tv σ H fun y H1 => ta σ H1 fun x H2 => AtSet K f y x H2 (D.nx σ)) : sFld K ta tv f D σ H := q
theorem i_atSet {S : Hp → Prop} (l : Led H0 M H B R) (h : (a, HO.ins C dx fs) ∈ R) (cl : Cls K C) (na : NoAttr K C f) (hl : fs.length < 1000) (hp : Put a (.ins C dx (putF f y fs)) R R') (q : ∀ H', Led H0 M H' B R' → S H') : AtSet K f y (.ref a) H S := ⟨a, C, dx, fs, rfl, l.get h, cl, na, hl, q _ (l.put hp)⟩
def AtCall (n m : Nat) (sp : Sp) (gV : List V → List V → List V) (E : XK) (vs zs : List V) (H : Hp) (Q : VK) : Prop := vs.length = n ∧ zs.length = m ∧ sp (gV vs zs) H Q E
theorem i_atCall {n m : Nat} {sp : Sp} {gV : List V → List V → List V} {E : XK} {vs zs us : List V} (h1 : vs.length = n) (h2 : zs.length = m) (e : gV vs zs = us) (q : sp us H Q E) : AtCall n m sp gV E vs zs H Q := ⟨h1, h2, e ▸ q⟩
theorem i_callUW {n m : Nat} {sp : Sp} {gV : List V → List V → List V} {E : L2.St → XK} {t tk : TA} (q : t σ H fun vs H1 => tk σ H1 fun zs H2 => AtCall n m sp gV (E σ) vs zs H2 Q) : tCallU n m sp gV E t tk σ H Q := q
def AtMeth (C : Addr) (nm : Str) (n m : Nat) (sp : Sp) (gV : List V → List V → List V) (E : XK) (t tk : TA) (σ : L2.St) (x : V) (H : Hp) (Q : VK) : Prop := ∃ a dx fs, x = .ref a ∧ H a = some (.ins C dx fs) ∧ fs.lookup nm = none ∧
  t σ H fun vs H2 => tk σ H2 fun zs H3 => vs.length = n ∧ zs.length = m ∧ sp (gV (.ref a :: vs) zs) H3 Q E
theorem i_methUW {n m : Nat} {sp : Sp} {gV : List V → List V → List V} {E : L2.St → XK} {ta : TE} {t tk : TA} (q : ta σ H fun x H1 => AtMeth C nm n m sp gV (E σ) t tk σ x H1 Q) : tMethU C nm n m sp gV E ta t tk σ H Q := q
def AtCallM (n m : Nat) (sp : Sp) (gV : List V → List V → List V) (E : XK) (a : Addr) (vs zs : List V) (H : Hp) (Q : VK) : Prop := vs.length = n ∧ zs.length = m ∧ sp (gV (.ref a :: vs) zs) H Q E
theorem i_atCallM {n m : Nat} {sp : Sp} {gV : List V → List V → List V} {E : XK} {vs zs us : List V} (h1 : vs.length = n) (h2 : zs.length = m) (e : gV (.ref a :: vs) zs = us) (q : sp us H Q E) : AtCallM n m sp gV E a vs zs H Q := ⟨h1, h2, e ▸ q⟩
theorem i_atMeth {n m : Nat} {sp : Sp} {gV : List V → List V → List V} {E : XK} {t tk : TA} (h : H a = some (.ins C dx fs)) (l : fs.lookup nm = none) (q : t σ H fun vs H2 => tk σ H2 fun zs H3 => AtCallM n m sp gV E a vs zs H3 Q) : AtMeth C nm n m sp gV E t tk σ (.ref a) H Q := ⟨a, dx, fs, rfl, h, l, q⟩
def AtProp (C : Addr) (sp : Sp) (dvs : List V) (E : XK) (x : V) (H : Hp) (Q : VK) : Prop := ∃ a dx fs, x = .ref a ∧ H a = some (.ins C dx fs) ∧ sp (.ref a :: dvs) H Q E
theorem i_propW {sp : Sp} {dvs : List V} {E : XK} {ta : TE} (q : ta σ H fun x H1 => AtProp C sp dvs E x H1 Q) : tProp C sp dvs E ta σ H Q := q
theorem i_atProp {sp : Sp} {dvs : List V} {E : XK} (h : H a = some (.ins C dx fs)) (q : sp (.ref a :: dvs) H Q E) : AtProp C sp dvs E (.ref a) H Q := ⟨a, dx, fs, rfl, h, q⟩
/-! is None -/
theorem isN_non (q : Q (.bl true) H) : rIsN .non .non H Q := ⟨rfl, q⟩
theorem isN_int {i : Int} (q : Q (.bl false) H) : rIsN (.int i) .non H Q := ⟨rfl, q⟩
theorem isN_bl {b : Bool} (q : Q (.bl false) H) : rIsN (.bl b) .non H Q := ⟨rfl, q⟩
theorem isN_str {z : Str} (q : Q (.bl false) H) : rIsN (.str z) .non H Q := ⟨rfl, q⟩
theorem isN_ref (q : Q (.bl false) H) : rIsN (.ref a) .non H Q := ⟨rfl, q⟩
theorem notN_non (q : Q (.bl false) H) : rNotN .non .non H Q := ⟨rfl, q⟩
theorem notN_int {i : Int} (q : Q (.bl true) H) : rNotN (.int i) .non H Q := ⟨rfl, q⟩
theorem notN_bl {b : Bool} (q : Q (.bl true) H) : rNotN (.bl b) .non H Q := ⟨rfl, q⟩
theorem notN_str {z : Str} (q : Q (.bl true) H) : rNotN (.str z) .non H Q := ⟨rfl, q⟩
theorem notN_ref (q : Q (.bl true) H) : rNotN (.ref a) .non H Q := ⟨rfl, q⟩
theorem i_isN (q : Q (.bl (decide (v = .non))) H) : rIsN v .non H Q := ⟨rfl, q⟩
theorem i_notN (q : Q (.bl (!decide (v = .non))) H) : rNotN v .non H Q := ⟨rfl, q⟩
theorem i_eqR (s : scal v v = true) (q : Q (.bl true) H) : rEq v v H Q := ⟨s, by rw [decide_eq_true rfl]; exact q⟩
theorem i_neR (s : scal v v = true) (q : Q (.bl false) H) : rNe v v H Q := ⟨s, by rw [decide_eq_true rfl]; exact q⟩
theorem i_strSelf {z : Str} (q : Q (.bl false) H) : rNe (.str z) (.str z) H Q := i_neR rfl q
/-! a raise -/
theorem i_raiseX {C : Addr} {f : Str} {ta : TA} {F : XK} (q : ta σ H fun vs H1 => ∃ v, vs = [v] ∧ ∀ d, H1 d = none → F (.ref C) (some d) (upd H1 d (.xd [(f, v)]))) : tMkX C f ta σ H F := q
theorem i_one {v : V} {F : V → Prop} (q : F v) : ∃ v', [v] = [v'] ∧ F v' := ⟨v, rfl, q⟩
end
/-! ### {x} of None -/
section
variable {X : Cx}
/-- {x}: a text, an int or None -/
def tFmtN (te : TE) : TE := fun σ H Q => te σ H fun x H1 => (∃ y : Str, x = .str y ∧ y.length ≤ sizeLine ∧ Q (.str y) H1) ∨ (∃ i : Int, x = .int i ∧ i.natAbs.log2 < 1920 ∧ Q (.str (toString i)) H1) ∨ (x = .non ∧ Q (.str "None") H1)
theorem pe_fmtN {e : Expr} {te : TE} {pos : Pos} (he : PE X e te) : PE X (.FormattedValue e (-1) none pos) (tFmtN te) := by
  refine ⟨fun pins s σ H Q I h => wpAny_FormattedValue_plain (thn (he.run pins s σ H _ I h) fun v s1 ⟨x, H1, I1, r1, q⟩ => ?_)⟩
  rcases q with ⟨y, rfl, hz, q⟩ | ⟨i, rfl, hz, q⟩ | ⟨rfl, q⟩
  · obtain ⟨t, rfl⟩ := r1
    refine wpAny_formatField_str ?_ ?_ hz
    · exact ⟨V.str y, _, I1, ⟨t, rfl⟩, q⟩
    · exact ⟨V.str y, _, I1.tok _, ⟨_, rfl⟩, q⟩
  · obtain ⟨t, rfl⟩ := r1
    refine wpAny_formatField_int hz ?_
    exact ⟨V.str (toString i), _, I1.tok _, ⟨_, rfl⟩, q⟩
  · cases (show v = Value.none from r1)
    exact wpAny_formatField_none ⟨.str "None", H1, I1.tok _, ⟨_, rfl⟩, q⟩
end
/-! ### own binary operators with a built-in right operand -/
section
variable {X : Cx} {cx : CXT} {n : Nat} {C g : Addr} {sp : Sp} {E : XK} {op : Operator}
def binB (K : PySem.W.Frag) (x : Str) (nm : String) : Bool := PySem.W.selfFirst K (He.ga K x) && (He.eqO (PySem.W.findIn K (.ref (He.ga K x)) (PySem.dunderR nm)) (some none) && kinds.all fun T => (PySem.W.findIn K (.type T) (PySem.dunder nm)).isSome && (PySem.W.findIn K (.type T) (PySem.dunderR nm)).isSome)
structure BinF (K : PySem.W.Frag) (C : Addr) (nm : String) : Prop where
  self : PySem.W.selfFirst K C = true
  rn : PySem.W.findIn K (.ref C) (PySem.dunderR nm) = some none
  ty : ∀ T ∈ kinds, ∃ fo ro, PySem.W.findIn K (.type T) (PySem.dunder nm) = some fo ∧ PySem.W.findIn K (.type T) (PySem.dunderR nm) = some ro
theorem bin_ok {K : PySem.W.Frag} {x : Str} {nm : String} (h : binB K x nm = true) : BinF K (He.ga K x) nm := by
  obtain ⟨h1, h⟩ := He.ba h
  obtain ⟨h2, h⟩ := He.ba h
  refine ⟨h1, He.eqO_ok h2, fun T hT => ?_⟩
  obtain ⟨h7, h8⟩ := He.ba (List.all_eq_true.mp h T hT)
  obtain ⟨fo, e1⟩ := Option.isSome_iff_exists.mp h7
  obtain ⟨ro, e2⟩ := Option.isSome_iff_exists.mp h8
  exact ⟨fo, ro, e1, e2⟩
theorem bin_KO {prog : Program} {w : World} {K : PySem.W.Frag} {A : Around} {E : Value → Shared → Prop} {s : Shared} {x C f : Addr} {ox : Obj} {od : Option Obj} {b : Value} {T : String} {fo ro : Option Value} {Q : Value → Shared → Prop} (X : K.In s.heap) (I : PySem.W.InstAt s.heap x ox C od) (hb : PySem.W.Looks (model prog w) s.heap (typeOf b) (.type T))
    (B : PySem.W.selfFirst K C = true) (rn : PySem.W.findIn K (.ref C) (PySem.dunderR op.info.2) = some none) (hs : PySem.W.findIn K (.ref C) (PySem.dunder op.info.2) = some (some (.ref f))) (hf : PySem.W.isFn K (.ref f) = true)
    (t1 : PySem.W.findIn K (.type T) (PySem.dunder op.info.2) = some fo) (t2 : PySem.W.findIn K (.type T) (PySem.dunderR op.info.2) = some ro) (su : PySem.W.subIn K (.type T) (.ref C) = some false)
    (h : wpAny (model prog w) A (call (.ref f) [.ref x, b]) (PySem.W.CmpBack Q) E s) : wpAny (model prog w) A (binaryOp op (.ref x) b) Q E s := by
  obtain ⟨cd, rest, hcd, hm⟩ := PySem.W.ksp_first B
  rcases hi : op.info with ⟨sym, nm'⟩
  rw [hi] at hs rn t1 t2
  dsimp only at hs rn t1 t2
  have one := PySem.W.ksp_try X I hs hf h
  obtain ⟨hh, gg, dd, tt, oo⟩ := s
  have k1 : PySem.W.Looks (model prog w) hh (typeOf (.ref x)) (.ref C) := I.type
  have k2 : PySem.W.Looks (model prog w) hh (typeOf b) (.type T) := hb
  have k3 : PySem.W.Looks (model prog w) hh (fillsNumberSlot (.ref C) nm') true := PySem.W.fills_K X hcd hm hs
  have k4 := PySem.W.ksp_fillsT (M := model prog w) X t1 t2
  have k5 : PySem.W.Looks (model prog w) hh (isSubtype (.type T) (.ref C)) false := PySem.W.looks_subIn X su
  have k6 : PySem.W.Looks (model prog w) hh (numberSlotInPython (.ref C) nm') true := PySem.W.ksp_inPy X hs rn (.inl rfl)
  have k7 : PySem.W.Looks (model prog w) hh (numberSlotInPython (.type T) nm') false := PySem.W.Looks.of_pure rfl
  have k8 : PySem.W.Looks (model prog w) hh (typeLookup (.type T) (dunderR nm')) ro := PySem.W.looks_findIn X t2
  revert k4
  generalize ((fo.isSome && !isSeqSlot fo) || (ro.isSome && !isSeqSlot ro)) = rt
  intro k4
  have hne : (Value.ref C == Value.type T) = false := Bool.eq_false_iff.mpr fun q => by cases beq_iff_eq.mp q
  simp only [binaryOp, hi]
  refine wpAny_holding (wpAny_bind ?_)
  unfold binaryOp1
  refine wpAny_bind (k1.at (wpAny_bind (k2.at (wpAny_bind (k3.at ?_)))))
  simp only [hne, Bool.false_eq_true, if_false]
  cases rt
  all_goals
    ksp_lk
    refine wpAny_mono one (fun r s' ⟨v, e, hq⟩ => ?_) fun _ _ e => e
    subst e
    ksp_lk
    exact hq
/-- x op y, x an instance of the class at C with its own method; y a value of a built-in kind -/
def AtBin (C : Addr) (sp : Sp) (E : XK) (x y : V) (H : Hp) (Q : VK) : Prop := ∃ a dx fs T, x = .ref a ∧ H a = some (.ins C dx fs) ∧ Kd H y T ∧ sp [.ref a, y] H Q E
def tBinO (C : Addr) (sp : Sp) (E : L2.St → XK) (ta tb : TE) : TE := fun σ H Q => ta σ H fun x H1 => tb σ H1 fun y H2 => AtBin C sp (E σ) x y H2 Q
theorem pe_binO {fd : FuncData} {ps : List Str} {E : L2.St → XK} {a b : Expr} {ta tb : TE} {pos : Pos} (cf : CF X.K C) (bf : BinF X.K C op.info.2) (hs : PySem.W.findIn X.K (.ref C) (PySem.dunder op.info.2) = some (some (.ref g))) (hf : PySem.W.isFn X.K (.ref g) = true) (F : FnOk X.prog X.w X.K X.mg X.base cx n g fd ps sp) (hb : Binds X.K fd ps []) (hr : Room n X.A) (hx : ∀ σ, PassesAt cx X σ (E σ))
    (he : PE X a ta) (hu : PE X b tb) : PE X (.BinOp a op b pos) (tBinO C sp E ta tb) := by
  refine ⟨fun pins s σ H Q I h => wpAny_BinOp (binT (R := fun x y H => AtBin C sp (E σ) x y H Q) he hu I h fun v u s2 x y H2 I2 rx ry q => ?_)⟩
  obtain ⟨a, dx, fs, T, rfl, ha, kd, q⟩ := q
  cases (show v = Value.ref a from rx)
  obtain ⟨mA, O, _⟩ := ins_get I2.hok ha
  obtain ⟨od, J, _⟩ := O.look
  obtain ⟨P, Z, p, _⟩ := kit_of I2 ry (kd.ty (K := X.K))
  obtain ⟨fo, ro, t1, t2⟩ := bf.ty T kd.mem
  refine bin_KO (T := T) I2.kIn J (Z.ty _ _ I2.kIn p) bf.self bf.rn hs hf t1 t2 (cf.no T kd.mem).2 ?_
  exact wpAny_mono (run_fnS (us := [.ref a, u]) (vs := [.ref a, y]) F hr hb (hx σ) I2 (.cons rfl (.cons ry .nil)) q) (fun w s' z => back_of z) fun _ _ x => x
theorem i_binW {σ : L2.St} {H : Hp} {Q : VK} {E : L2.St → XK} {ta tb : TE} (q : ta σ H fun x H1 => tb σ H1 fun y H2 => AtBin C sp (E σ) x y H2 Q) : tBinO C sp E ta tb σ H Q := q
theorem i_atBin {H : Hp} {Q : VK} {a dx : Addr} {fs : List (Str × V)} {y : V} {T : String} (h : H a = some (.ins C dx fs)) (k : Kd H y T) (q : sp [.ref a, y] H Q E) : AtBin C sp E (.ref a) y H Q := ⟨a, dx, fs, T, rfl, h, k, q⟩
end
section
variable {σ : L2.St} {H H0 : Hp} {M : List Addr} {B : Option (Addr × Nat)} {R R' : List (Addr × HO)} {Q : VK} {K : PySem.W.Frag} {D : Ends} {a C dx : Addr} {fs gs : List (Str × V)} {f nm : Str} {v y : V}
/-- putF step by step -/
inductive PutF (f : Str) (v : V) : List (Str × V) → List (Str × V) → Prop
  | nil : PutF f v [] [(f, v)]
  | hit {x : V} {r : List (Str × V)} : PutF f v ((f, x) :: r) ((f, v) :: r)
  | skip {g : Str} {x : V} {r r' : List (Str × V)} (h : (g == f) = false) (q : PutF f v r r') : PutF f v ((g, x) :: r) ((g, x) :: r')
theorem PutF.eq (h : PutF f v fs gs) : putF f v fs = gs := by
  induction h with
  | nil => rfl
  | hit => exact if_pos rfl
  | skip h q ih =>
    show (if _ then _ else _) = _
    rw [if_neg (fun e => by rw [e, beq_self_eq_true] at h; cases h), ih]
theorem i_putA {S : Hp → Prop} (l : Led H0 M H B R) (h : (a, HO.ins C dx fs) ∈ R) (cl : Cls K C) (na : NoAttr K C f) (hl : fs.length < 1000) (pf : PutF f y fs gs) (hp : Put a (.ins C dx gs) R R') (q : ∀ H', Led H0 M H' B R' → S H') : AtSet K f y (.ref a) H S :=
  i_atSet l h cl na hl (by rw [pf.eq]; exact hp) q
/-- raise C(v) -/
def AtRaise (C : Addr) (f : Str) (vs : List V) (H : Hp) (F : XK) : Prop := ∃ v, vs = [v] ∧ ∀ d, H d = none → F (.ref C) (some d) (upd H d (.xd [(f, v)]))
theorem i_raiseW {ta : TA} {F : XK} (q : ta σ H fun vs H1 => AtRaise C f vs H1 F) : tMkX C f ta σ H F := q
theorem i_raiseL {F : XK} (l : Led H0 M H B R) (q : ∀ d H', Led H0 M H' B ((d, .xd [(f, v)]) :: R) → F (.ref C) (some d) H') : AtRaise C f [v] H F := ⟨v, rfl, fun d hd => q d _ (l.new hd)⟩
/-- the clauses -/
theorem i_asY {c cls : Value} {d : Option Addr} {i : Nat} {ts : Addr → Value → Option Addr → TS} {W : WX} (e : PySem.W.exmOne K cls c = some true) (q : ∀ a, ts a cls d { nx := fun σ' H' => D.nx (σ'.set i none) H', rt := D.rt, bk := fun σ' H' => D.bk (σ'.set i none) H', ct := fun σ' H' => D.ct (σ'.set i none) H' } (σ.set i (some (.ref a))) H) : wAs K c i ts W D cls d σ H := ⟨true, e, fun _ a _ => q a, nofun⟩
theorem i_asN {c cls : Value} {d : Option Addr} {i : Nat} {ts : Addr → Value → Option Addr → TS} {W : WX} (e : PySem.W.exmOne K cls c = some false) (q : W cls d σ H) : wAs K c i ts W D cls d σ H := ⟨false, e, nofun, fun _ => q⟩
theorem i_onlyY {c cls : Value} {d : Option Addr} {ts : Addr → Value → Option Addr → TS} {W : WX} (e : PySem.W.exmOne K cls c = some true) (q : ∀ a, ts a cls d D σ H) : wOnly K c ts W D cls d σ H := ⟨true, e, fun _ a _ => q a, nofun⟩
theorem i_onlyN {c cls : Value} {d : Option Addr} {ts : Addr → Value → Option Addr → TS} {W : WX} (e : PySem.W.exmOne K cls c = some false) (q : W cls d σ H) : wOnly K c ts W D cls d σ H := ⟨false, e, nofun, fun _ => q⟩
def AtXf (a : Addr) (cls : Value) (d : Option Addr) (C : Addr) (f : Str) (x : V) (H : Hp) (Q : VK) : Prop := x = .ref a ∧ cls = .ref C ∧ ∃ (dd : Addr) (fs : List (Str × V)) (v : V), d = some dd ∧ H dd = some (.xd fs) ∧ fs.lookup f = some v ∧ Q v H
theorem i_xfW {cls : Value} {d : Option Addr} {te : TE} (q : te σ H fun x H1 => AtXf a cls d C f x H1 Q) : tXf a cls d C f te σ H Q := q
theorem i_atXf {e : Addr} (h : H e = some (.xd [(f, v)])) (q : Q v H) : AtXf a (.ref C) (some e) C f (.ref a) H Q := ⟨rfl, rfl, e, _, v, rfl, h, by simp, q⟩
end
end G
/-! # LR: ledgers put together: what a call did, in the caller's ledger -/
namespace G
open PySem PySem.Spec PyProof.Rows L2
section
variable {H0 H H' : Hp} {M M' : List Addr} {B : Option (Addr × Nat)} {R R' R1 : List (Addr × HO)} {a p x : Addr} {o o' : HO} {n m : Nat}
theorem Led.startO (h : H x = some o) : Led H [x] H none [(x, o)] := by
  refine ⟨fun q hq => ?_, List.pairwise_singleton _ _, fun q hq => ?_, fun _ _ h _ => h, nofun⟩
  · rw [List.mem_singleton.mp hq]
    exact h
  · rw [List.mem_singleton.mp hq]
    exact .inr List.mem_cons_self
theorem Led.startBO (b : BoxAt n H a) (h : H x = some o) (ne : x ≠ a) : Led H [a, x] H (some (a, n)) [(x, o)] := by
  refine ⟨fun q hq => ?_, List.pairwise_singleton _ _, fun q hq => ?_, fun _ _ h _ => h, fun b' k e => ?_⟩
  · rw [List.mem_singleton.mp hq]
    exact h
  · rw [List.mem_singleton.mp hq]
    exact .inr (List.mem_cons_of_mem _ List.mem_cons_self)
  · cases e
    exact ⟨b, fun q hq => by rw [List.mem_singleton.mp hq]; exact ne, .inr List.mem_cons_self⟩
/-- a call that leaves all as it was, and makes R1 -/
theorem Led.comp0 {B' : Option (Addr × Nat)} (l : Led H0 M H B R) (k : Led H [] H' B' R1) : Led H0 M H' B (R1 ++ R) := by
  have s := k.toSame
  have l2 := l.same s
  have fresh : ∀ q ∈ R1, H q.1 = none := fun q hq => (k.own q hq).elim id fun z => absurd z List.not_mem_nil
  refine ⟨fun q hq => ?_, List.pairwise_append.mpr ⟨k.nd, l.nd, fun u hu v hv e => ?_⟩, fun q hq => ?_, l2.fr, fun b n e => ?_⟩
  · rcases List.mem_append.mp hq with hq | hq
    · exact k.has q hq
    · exact l2.has q hq
  · have h1 := fresh u hu
    rw [e, l.has v hv] at h1
    cases h1
  · rcases List.mem_append.mp hq with hq | hq
    · exact l.free (fresh q hq)
    · exact l.own q hq
  · obtain ⟨h1, h2, h3⟩ := l2.bx b n e
    refine ⟨h1, fun q hq => ?_, h3⟩
    rcases List.mem_append.mp hq with hq | hq
    · exact (l.bx b n e).1.ne (fresh q hq)
    · exact h2 q hq
/-- a call that draws from the box at a, and makes R1 -/
theorem Led.compB (l : Led H0 M H (some (a, n)) R) (k : Led H [a] H' (some (a, m)) R1) : Led H0 M H' (some (a, m)) (R1 ++ R) := by
  have s := k.toKp
  obtain ⟨bb, bne, bow⟩ := l.bx a n rfl
  obtain ⟨kb, kne, _⟩ := k.bx a m rfl
  have l2 := l.kp s kb
  have fresh : ∀ q ∈ R1, H q.1 = none := fun q hq => (k.own q hq).elim id fun z => absurd (List.mem_singleton.mp z) (kne q hq)
  refine ⟨fun q hq => ?_, List.pairwise_append.mpr ⟨k.nd, l.nd, fun u hu v hv e => ?_⟩, fun q hq => ?_, l2.fr, fun b n e => ?_⟩
  · rcases List.mem_append.mp hq with hq | hq
    · exact k.has q hq
    · exact l2.has q hq
  · have h1 := fresh u hu
    rw [e, l.has v hv] at h1
    cases h1
  · rcases List.mem_append.mp hq with hq | hq
    · exact l.free (fresh q hq)
    · exact l.own q hq
  · obtain ⟨h1, h2, h3⟩ := l2.bx b n e
    refine ⟨h1, fun q hq => ?_, h3⟩
    rcases List.mem_append.mp hq with hq | hq
    · cases e
      exact kne q hq
    · exact h2 q hq
/-- a call that writes at x, an object of the ledger, and makes R1 -/
theorem Led.compO {B' : Option (Addr × Nat)} (l : Led H0 M H B R) (k : Led H [x] H' B' R1) (hx : ∃ o, (x, o) ∈ R) (hp : ∀ q ∈ R', q ∈ R ∧ q.1 ≠ x) (sl : R'.Sublist R) : Led H0 M H' B (R1 ++ R') := by
  obtain ⟨o, hxo⟩ := hx
  have xs : H x = some o := l.has _ hxo
  have kp := k.toKp
  have own1 : ∀ q ∈ R1, H0 q.1 = none ∨ q.1 ∈ M := fun q hq => (k.own q hq).elim (fun z => l.free z) fun z => by rw [List.mem_singleton.mp z]; exact l.own _ hxo
  refine ⟨fun q hq => ?_, List.pairwise_append.mpr ⟨k.nd, l.nd.sublist sl, fun u hu v hv e => ?_⟩, fun q hq => ?_, fun b u h hm => ?_, fun b n e => ?_⟩
  · rcases List.mem_append.mp hq with hq | hq
    · exact k.has q hq
    · exact kp _ _ (hp q hq).2 (l.has q (hp q hq).1)
  · rcases k.own u hu with z | z
    · rw [e, l.has v (hp v hv).1] at z
      cases z
    · exact (hp v hv).2 (e ▸ List.mem_singleton.mp z)
  · rcases List.mem_append.mp hq with hq | hq
    · exact own1 q hq
    · exact l.own q (hp q hq).1
  · refine kp _ _ (fun e => ?_) (l.fr b u h hm)
    rcases l.own _ hxo with z | z
    · rw [e, z] at h
      cases h
    · exact hm (e ▸ z)
  · obtain ⟨⟨ob, h1, h1'⟩, h2, h3⟩ := l.bx b n e
    have nb : x ≠ b := h2 _ hxo
    refine ⟨⟨ob, kp _ _ (Ne.symm nb) h1, h1'⟩, fun q hq => ?_, h3⟩
    rcases List.mem_append.mp hq with hq | hq
    · rcases k.own q hq with z | z
      · exact (l.bx b n e).1.ne z
      · rw [List.mem_singleton.mp z]
        exact nb
    · exact h2 q (hp q hq).1
/-- x stands first -/
theorem Led.compH {B' : Option (Addr × Nat)} (l : Led H0 M H B ((x, o) :: R)) (k : Led H [x] H' B' R1) : Led H0 M H' B (R1 ++ R) :=
  l.compO k ⟨o, List.mem_cons_self⟩ (fun q hq => ⟨List.mem_cons_of_mem _ hq, ((List.pairwise_cons.mp l.nd).1 q hq).symm⟩) (List.sublist_cons_self _ _)
theorem Led.perm (l : Led H0 M H B R) (h : R.Perm R') : Led H0 M H B R' := ⟨fun q hq => l.has q (h.symm.subset hq), h.pairwise l.nd (fun hne => Ne.symm hne), fun q hq => l.own q (h.symm.subset hq), l.fr, fun b k e => let ⟨h1, h2, h3⟩ := l.bx b k e; ⟨h1, fun q hq => h2 q (h.symm.subset hq), h3⟩⟩
theorem Led.hd (l : Led H0 M H B ((p, o) :: R)) : Led H0 M H B [(p, o)] := l.sub (.cons₂ _ (List.nil_sublist _))
theorem Led.hd2 {q : Addr} {u : HO} (l : Led H0 M H B ((p, o) :: (q, u) :: R)) : Led H0 M H B [(p, o), (q, u)] := l.sub (.cons₂ _ (.cons₂ _ (List.nil_sublist _)))
theorem Led.kd {v : V} {T : String} (l : Led H0 M H B R) (k : Kd H0 v T) (h : ∀ b ∈ M, v ≠ .ref b) : Kd H v T := by
  cases k with
  | non => exact .non
  | bl b => exact .bl b
  | int i => exact .int i
  | str x => exact .str x
  | lst e => exact .lst (l.fr _ _ e fun z => h _ z rfl)
  | tup e => exact .tup (l.fr _ _ e fun z => h _ z rfl)
  | dct e => exact .dct (l.fr _ _ e fun z => h _ z rfl)
theorem Led.kd0 {v : V} {T : String} (l : Led H0 [] H B R) (k : Kd H0 v T) : Kd H v T := l.kd k nofun
theorem i_isint {Q : VK} {E : XK} {v : V} {lo hi : Int} {T : String} (k : Kd H v T) (q : Q (.bl (isI v lo hi)) H) : sp_is_integer [v, .int lo, .int hi] H Q E := ⟨v, lo, hi, T, rfl, k, q⟩
/-- an instance is made: what its __init__ did, in the caller's ledger -/
theorem i_newM {C : Addr} {N m' : Nat} {sp : Sp} {gV : List V → List V → List V} {E : XK} {vs zs : List V} {Q : VK} {us : Addr → List V} (l : Led H0 M H B R) (h1 : vs.length = N) (h2 : zs.length = m') (e : ∀ x, gV (.ref x :: vs) zs = us x)
    (q : ∀ x dx Hx, Led H0 M Hx B ((x, .ins C dx []) :: R) → sp (us x) Hx (fun v H3 => v = .non ∧ Q (.ref x) H3) E) : NewM C N m' sp gV E vs zs H Q :=
  ⟨h1, h2, fun x dx hx hd ne => (e x) ▸ q x dx _ (led_made0 l hx hd ne)⟩
end
end G
namespace G
open PySem PySem.Spec PyProof.Rows L2
section
variable {σ : L2.St} {H : Hp} {Q : VK}
def AtJs (ts : List TE) (acc : Str) (σ : L2.St) (x : V) (H : Hp) (F : Str → Hp → Prop) : Prop := ∃ y : Str, x = .str y ∧ (acc ++ y).length ≤ sizeLine ∧ tJs ts (acc ++ y) σ H F
theorem i_js {t : TE} {ts : List TE} {acc : Str} {F : Str → Hp → Prop} (q : t σ H fun x H1 => AtJs ts acc σ x H1 F) : tJs (t :: ts) acc σ H F := q
theorem i_js0 {acc : Str} {F : Str → Hp → Prop} (q : F acc H) : tJs [] acc σ H F := q
theorem i_atJs {ts : List TE} {acc y : Str} {F : Str → Hp → Prop} (hl : (acc ++ y).length ≤ sizeLine) (q : tJs ts (acc ++ y) σ H F) : AtJs ts acc σ (.str y) H F := ⟨y, rfl, hl, q⟩
def AtFmt (x : V) (H : Hp) (Q : VK) : Prop := (∃ y : Str, x = .str y ∧ y.length ≤ sizeLine ∧ Q (.str y) H) ∨ (∃ i : Int, x = .int i ∧ i.natAbs.log2 < 1920 ∧ Q (.str (toString i)) H) ∨ (x = .non ∧ Q (.str "None") H)
theorem i_fmtN {te : TE} (q : te σ H fun x H1 => AtFmt x H1 Q) : tFmtN te σ H Q := q
theorem fmt_str {y : Str} (h : y.length ≤ sizeLine) (q : Q (.str y) H) : AtFmt (.str y) H Q := .inl ⟨y, rfl, h, q⟩
theorem fmt_int {i : Int} (h : i.natAbs.log2 < 1920) (q : Q (.str (toString i)) H) : AtFmt (.int i) H Q := .inr (.inl ⟨i, rfl, h, q⟩)
theorem fmt_non (q : Q (.str "None") H) : AtFmt .non H Q := .inr (.inr ⟨rfl, q⟩)
theorem len_app (x y : Str) : (x ++ y).length = x.length + y.length := by
  show (x.cps ++ y.cps).size = x.cps.size + y.cps.size
  exact Array.size_append
end
end G
namespace G
open PySem PySem.Spec PyProof.Rows L2
section
variable {K : PySem.W.Frag} {H0 H H' : Hp} {M : List Addr} {B : Option (Addr × Nat)} {R : List (Addr × HO)} {Q : VK}
/-- data of a list's items -/
def Ths (K : PySem.W.Frag) (H : Hp) (xs : List V) (ds : List PyData) : Prop := DqAll K H xs ds ∧ ∀ d ∈ ds, Okd 1000 1 d
theorem Ths.nil : Ths K H [] [] := ⟨.nil, nofun⟩
theorem Ths.cons {x : V} {xs : List V} {d : PyData} {ds : List PyData} (h : Dq K H x d) (k : Okd 1000 1 d) (t : Ths K H xs ds) : Ths K H (x :: xs) (d :: ds) := ⟨.cons h t.1, fun e he => (List.mem_cons.mp he).elim (fun z => z ▸ k) (t.2 e)⟩
theorem okS {z : Str} {n : Nat} (h : Signs z) (hl : z.length ≤ n) (hn : 10 * n + 2 ≤ 1000) : Okd 1000 1 (.str z) := (Okd.str h hl).mono hn (by decide)
theorem okI1 {i : Int} (h : i.natAbs < 10 ^ 40) : Okd 1000 1 (.int i) := (Okd.int h).mono (by decide) (by decide)
theorem okB1 (b : Bool) : Okd 1000 1 (.bool b) := (Okd.bool b).mono (by decide) (by decide)
theorem okN1 : Okd 1000 1 .none := Okd.none.mono (by decide) (by decide)
theorem okL {ds : List PyData} (h : ∀ d ∈ ds, Okd 1000 1 d) (hl : ds.length ≤ 1000) : Okd 16000000 60 (.list ds) := (Okd.list h).mono (by have := Nat.mul_le_mul_right 1002 hl; omega) (by decide)
theorem okT {ds : List PyData} (h : ∀ d ∈ ds, Okd 1000 1 d) (hl : ds.length ≤ 1000) : Okd 16000000 60 (.tuple ds) := (Okd.tuple h).mono (by have := Nat.mul_le_mul_right 1002 hl; omega) (by decide)
theorem dqAll_len : ∀ {xs : List V} {ds : List PyData}, DqAll K H xs ds → xs.length = ds.length
  | _, _, h => Paired.length h
/-- repr of a list of the ledger -/
theorem i_reprL {p : Addr} {xs : List V} {ds : List PyData} (h : H p = some (.lst xs)) (t : Ths K H xs ds) (hl : xs.length ≤ 1000) (q : Q (.str (PyData.list ds).shown) H) : rRepr K [.ref p] H Q :=
  i_repr (.lstH h t.1) (okL t.2 (by rw [← dqAll_len t.1]; exact hl)) q
theorem i_reprT {p : Addr} {xs : List V} {ds : List PyData} (h : H p = some (.tup xs)) (t : Ths K H xs ds) (hl : xs.length ≤ 1000) (q : Q (.str (PyData.tuple ds).shown) H) : rRepr K [.ref p] H Q :=
  i_repr (.tupH h t.1) (okT t.2 (by rw [← dqAll_len t.1]; exact hl)) q
theorem i_eqQ {x y : V} {d e : PyData} {b : Bool} (h1 : Dq K H x d) (h2 : Dq K H y e) (s1 : SeqAt.shaped d = true) (s2 : SeqAt.shaped e = true) (eb : PyData.eqv d e = b) (q : Q (.bl b) H) : rEqQ K x y H Q := ⟨d, e, h1, h2, s1, s2, eb ▸ q⟩
theorem i_neQ {x y : V} {d e : PyData} {b : Bool} (h1 : Dq K H x d) (h2 : Dq K H y e) (s1 : SeqAt.shaped d = true) (s2 : SeqAt.shaped e = true) (eb : (!PyData.eqv d e) = b) (q : Q (.bl b) H) : rNeQ K x y H Q := ⟨d, e, h1, h2, s1, s2, eb ▸ q⟩
theorem dq_mono {v : V} {d : PyData} (s : Same H H') (h : Dq K H v d) : Dq K H' v d := by
  induction h with
  | non => exact .non
  | bl b => exact .bl b
  | int i => exact .int i
  | str x => exact .str x
  | lst h1 h2 _ ih =>
    refine .lst ?_ h2 ih
    rcases h1 with (h | ⟨u, h⟩) | h
    · exact .inl (.inl (s _ _ h))
    · exact .inl (.inr ⟨u, s _ _ h⟩)
    · exact .inr h
  | tup h1 h2 _ ih =>
    refine .tup ?_ h2 ih
    rcases h1 with (h | ⟨u, h⟩) | h
    · exact .inl (.inl (s _ _ h))
    · exact .inl (.inr ⟨u, s _ _ h⟩)
    · exact .inr h
  | dct h1 h2 _ ih =>
    refine .dct ?_ h2 ih
    rcases h1 with h | ⟨u, h⟩
    · exact .inl (s _ _ h)
    · exact .inr ⟨u, s _ _ h⟩
theorem dqAll_mono (s : Same H H') : ∀ {xs : List V} {ds : List PyData}, DqAll K H xs ds → DqAll K H' xs ds
  | _, _, .nil => .nil
  | _, _, .cons h t => .cons (dq_mono s h) (dqAll_mono s t)
theorem Ths.same {xs : List V} {ds : List PyData} (t : Ths K H xs ds) (s : Same H H') : Ths K H' xs ds := ⟨dqAll_mono s t.1, t.2⟩
theorem i_glst {σ : L2.St} {F : L2.St → Hp → Prop} {p : Addr} {xs : List V} {n : Nat} {t : TGs} (h : H p = some (.lst xs)) (hl : xs.length = n) (q : t xs σ H F) : gLst K n t (.ref p) σ H F := ⟨p, xs, rfl, SqL.of h, hl, q⟩
theorem Led.same0 {H0 : Hp} (l : Led H0 [] H B R) : Same H0 H := l.toSame
theorem Led.dq0 {v : V} {d : PyData} (l : Led H0 [] H B R) (h : Dq K H0 v d) : Dq K H v d := dq_mono l.toSame h
theorem eqv_same {d : PyData} (h : SeqAt.shaped d = true) : PyData.eqv d d = true := SeqAt.eqv_refl d (by unfold SeqAt.shaped at h; rw [Bool.and_eq_true] at h; exact h.1)
end
end G
/-! # LS: rules where the context is that of a try's body or of a suite: K is said -/
namespace G
open PySem PySem.Spec PyProof.Rows L2
section
variable {X : Cx} {K : PySem.W.Frag}
theorem roomU {k : Nat} {A : Around} (r : Room k A) : A.units + 200 < cLine := by have := r.un; omega
theorem opK {f : Value → Value → Sem Value} {r : PySem.W.Frag → R2} (hK : X.K = K) (h : OpR X f (r X.K)) : OpR X f (r K) := hK ▸ h
theorem callK {f : Value} {r : PySem.W.Frag → List V → Hp → VK → Prop} (hK : X.K = K) (h : CallR X f (r X.K)) : CallR X f (r K) := hK ▸ h
theorem ixK {r : PySem.W.Frag → R2} (hK : X.K = K) (h : IxR X (r X.K)) : IxR X (r K) := hK ▸ h
theorem pe_bmK {T name : _} {id : _} {r : V → List V → Hp → VK → Prop} {o e : Expr} {es : List Expr} {to : TE} {t : TA} {apos cpos : Pos} (hK : X.K = K) (pa : PlainAttrs T) (slot : Slot T name id) (hty : typeOf (.builtin id) = pure (.type "method_descriptor")) (hm : MtR X id r) (ho : PE X o to) (ha : PA X (e :: es) t) (hbase : attributeBase o name X.env (eval o X.env) = eval o X.env := by rfl) (hfew : ((backTo cpos (starEach (e :: es) X.env)).all (fun x => !x.1) && (backToKw cpos (keywordEach [] X.env)).all (fun x => x.1.isSome) && decide ((e :: es).length + ([] : List Keyword).length + (if ([] : List Keyword).isEmpty then 0 else 1) < 30)) = true := by rfl) (hline : (apos.endLine == cpos.line) = true := by rfl) (hs : starEach (e :: es) X.env = (false, eval e X.env) :: starEach es X.env := by rfl) (hplain : (backTo cpos (starEach es X.env)).any (·.1) = false := by rfl) : PE X (.Call (.Attribute o name apos) (e :: es) [] cpos) (tBM K T r to t) := hK ▸ pe_bm pa slot hty hm ho ha hbase hfew hline hs hplain
theorem pe_fldK {o : Expr} {f : Str} {to : TE} {pos : Pos} (hK : X.K = K) (h : PE X (.Attribute o f pos) (tFld X.K to f)) : PE X (.Attribute o f pos) (tFld K to f) := hK ▸ h
theorem pi_listK {tg it : Expr} {te : TE} (hK : X.K = K) (h : PI X tg it (iList X.K te)) : PI X tg it (iList K te) := hK ▸ h
end
/-! ### loops, with the body said -/
section
variable {σ : L2.St} {H : Hp} {K : PySem.W.Frag} {D : Ends} {g : TG} {tb : TS}
def AtFor (g : TG) (tb : TS) (D : Ends) (σ : L2.St) (J : It) (H : Hp) : Prop := ∃ W : Nat → Nat → L2.St → Hp → Prop, (∃ m, W 0 m σ H) ∧ ∀ i m σ H, W i m σ H →
    (J.stop i H ∧ D.nx σ H) ∨ (J.go i H ∧ ∃ N : L2.St → Hp → Prop, (∀ σ' H', N σ' H' → ∃ m', m' < m ∧ W (i + 1) m' σ' H') ∧ ∀ x H', J.yld i H x H' → g x σ H' fun σ2 H2 => tb { D with nx := N, ct := N, bk := D.nx } σ2 H2)
theorem i_forW {wi : TI} (q : wi σ H fun J H1 => AtFor g tb D σ J H1) : tFor wi g tb D σ H := q
theorem i_atFor {J : It} {n : Nat} {Gd : Hp → Prop} {Y : Nat → Hp → V → Hp → Prop} (w : Walk J n Gd Y) (Pv : Nat → L2.St → Hp → Prop) (h0 : Pv 0 σ H) (hG : ∀ i σ H, i ≤ n → Pv i σ H → Gd H)
    (hs : ∀ i x σ H H', i < n → Pv i σ H → Y i H x H' → g x σ H' fun σ2 H2 => tb { D with nx := Pv (i + 1), ct := Pv (i + 1), bk := D.nx } σ2 H2) (hd : ∀ σ H, Pv n σ H → D.nx σ H) : AtFor g tb D σ J H := for_it w Pv h0 hG hs hd
/-- for i in range(n) -/
theorem i_forR {n : Nat} (Pv : Nat → L2.St → Hp → Prop) (h0 : Pv 0 σ H) (hs : ∀ (i : Nat) σ H, i < n → Pv i σ H → g (.int (0 + i)) σ H fun σ2 H2 => tb { D with nx := Pv (i + 1), ct := Pv (i + 1), bk := D.nx } σ2 H2) (hd : ∀ σ H, Pv n σ H → D.nx σ H) : AtFor g tb D σ (Itr 0 n) H :=
  i_atFor walk_range Pv h0 (fun _ _ _ _ _ => trivial) (fun i x σ H H' hi p y => by
    obtain ⟨rfl, rfl⟩ := y
    exact hs i σ H' hi p) hd
/-- for x in a list that stays -/
theorem i_forL {a : Addr} {xs : List V} (Pv : Nat → L2.St → Hp → Prop) (h0 : Pv 0 σ H) (hG : ∀ i σ H, Pv i σ H → SqL K H a xs) (hs : ∀ (i : Nat) x σ H, xs[i]? = some x → Pv i σ H → g x σ H fun σ2 H2 => tb { D with nx := Pv (i + 1), ct := Pv (i + 1), bk := D.nx } σ2 H2) (hd : ∀ σ H, Pv xs.length σ H → D.nx σ H) : AtFor g tb D σ (Itl K a) H :=
  i_atFor (walk_listI (xs := xs)) Pv h0 (fun i σ H _ p => hG i σ H p) (fun i x σ H H' hi p y => by
    obtain ⟨rfl, y, hy, e⟩ := y
    have e' : x = y := e
    exact hs i x σ H' (e' ▸ hy) p) hd
def AtRng (vs : List V) (H : Hp) (R : It → Hp → Prop) : Prop := ∃ j : Int, vs = [.int j] ∧ -(2 ^ 62) ≤ j ∧ j < 2 ^ 62 ∧ R (Itr 0 j.toNat) H
theorem i_rngW {ta : TA} {R : It → Hp → Prop} (q : ta σ H fun vs H1 => AtRng vs H1 R) : iRng1 ta σ H R := q
theorem i_atRng {j : Int} {R : It → Hp → Prop} (h1 : -(2 ^ 62) ≤ j) (h2 : j < 2 ^ 62) (q : R (Itr 0 j.toNat) H) : AtRng [.int j] H R := ⟨j, rfl, h1, h2, q⟩
def AtIL (K : PySem.W.Frag) (x : V) (H : Hp) (R : It → Hp → Prop) : Prop := ∃ a, x = .ref a ∧ (∃ xs, SqL K H a xs) ∧ R (Itl K a) H
theorem i_ilW {tl : TE} {R : It → Hp → Prop} (q : tl σ H fun x H1 => AtIL K x H1 R) : iList K tl σ H R := q
theorem i_atIL {a : Addr} {xs : List V} {R : It → Hp → Prop} (h : H a = some (.lst xs)) (q : R (Itl K a) H) : AtIL K (.ref a) H R := ⟨a, rfl, ⟨xs, SqL.of h⟩, q⟩
def AtIT (K : PySem.W.Frag) (x : V) (H : Hp) (R : It → Hp → Prop) : Prop := ∃ a, x = .ref a ∧ (∃ xs, SqT K H a xs) ∧ R (Itt K a) H
theorem i_itW {tl : TE} {R : It → Hp → Prop} (q : tl σ H fun x H1 => AtIT K x H1 R) : iTup K tl σ H R := q
theorem i_atIT {a : Addr} {xs : List V} {R : It → Hp → Prop} (h : H a = some (.tup xs)) (q : R (Itt K a) H) : AtIT K (.ref a) H R := ⟨a, rfl, ⟨xs, SqT.of h⟩, q⟩
end
/-! ### list * int -/
theorem i_rep {H0 H : Hp} {M : List Addr} {B : Option (Addr × Nat)} {R : List (Addr × HO)} {Q : VK} {a : Addr} {xs zs : List V} {k : Int} (l : Led H0 M H B R) (h : (a, HO.lst xs) ∈ R) (h1 : 0 ≤ k) (h2 : k < 1000000) (hs : xs.length * k.toNat ≤ sizeLine) (e : (List.replicate k.toNat xs).flatten = zs) (q : ∀ p H', Led H0 M H' B ((p, .lst zs) :: R) → Q (.ref p) H') : rRep (.ref a) (.int k) H Q :=
  ⟨a, k, xs, rfl, rfl, l.get h, by omega, by omega, hs, fun p hp => by rw [e]; exact q p _ (l.new hp)⟩
/-! ### comprehensions, with the ledger -/
section
variable {σ : L2.St} {H0 H : Hp} {M : List Addr} {B : Option (Addr × Nat)} {R R' : List (Addr × HO)} {Q : VK} {K : PySem.W.Frag} {g : TG} {tt : TT} {te : TE} {vs : List Nat}
def LcApp (D : Addr) (y : V) (H : Hp) (N : Hp → Prop) : Prop := ∃ acc, H D = some (.lst acc) ∧ acc.length < sizeLine ∧ N (upd H D (.lst (acc ++ [y])))
def AtLc (g : TG) (tt : TT) (te : TE) (vs : List Nat) (σ : L2.St) (J : It) (H1 : Hp) (Q : VK) : Prop := ∀ D, H1 D = none → ∃ W : Nat → Nat → Hp → Prop, (∃ m, W 0 m (upd H1 D (.lst []))) ∧ ∀ i m H, W i m H →
  (J.stop i H ∧ Q (.ref D) H) ∨ (J.go i H ∧ ∃ Nx : Hp → Prop, (∀ H', Nx H' → ∃ m', m' < m ∧ W (i + 1) m' H') ∧ ∀ x H', J.yld i H x H' → g x (wipe σ vs) H' fun σ2 H2 => wipe σ2 vs = wipe σ vs ∧ tt σ2 H2 fun b H3 =>
    if b = true then te σ2 H3 fun y H4 => LcApp D y H4 Nx else Nx H3)
theorem i_lcW {wi : TI} (q : wi σ H fun J H1 => AtLc g tt te vs σ J H1 Q) : tLc wi g tt te vs σ H Q := q
theorem i_atLc {J : It} {n : Nat} {Gd : Hp → Prop} {Y : Nat → Hp → V → Hp → Prop} (w : Walk J n Gd Y) (l : Led H0 M H B R) (Pv : Addr → Nat → Hp → Prop) (h0 : ∀ D H', Led H0 M H' B ((D, .lst []) :: R) → Pv D 0 H') (hG : ∀ D i H, Pv D i H → Gd H)
    (hs : ∀ D i x H H', i < n → Pv D i H → Y i H x H' → g x (wipe σ vs) H' fun σ2 H2 => wipe σ2 vs = wipe σ vs ∧ tt σ2 H2 fun b H3 => if b = true then te σ2 H3 fun y H4 => LcApp D y H4 (Pv D (i + 1)) else Pv D (i + 1) H3) (hd : ∀ D H, Pv D n H → Q (.ref D) H) : AtLc g tt te vs σ J H Q :=
  fun D hD => lc_it w (Pv D) (h0 D _ (l.new hD)) (fun i H _ p => hG D i H p) (fun i x H H' hi p y => hs D i x H H' hi p y) (hd D)
theorem i_lcApp {D : Addr} {acc : List V} {y : V} {N : Hp → Prop} (l : Led H0 M H B R) (h : (D, HO.lst acc) ∈ R) (hs : acc.length < sizeLine) (hp : Put D (.lst (acc ++ [y])) R R') (q : ∀ H', Led H0 M H' B R' → N H') : LcApp D y H N := ⟨acc, l.get h, hs, q _ (l.put hp)⟩
theorem i_wipe {σ2 : L2.St} {P : Prop} (h : wipe σ2 vs = wipe σ vs) (q : P) : wipe σ2 vs = wipe σ vs ∧ P := ⟨h, q⟩
end
end G
namespace K22
open PySem PySem.Spec PyProof.Rows L2 G
abbrev P : Program := PySem.Challenge.pw_eventdeliveries_k22_services_made
def top (i : Nat) : Stmt := PySem.Challenge.pw_eventdeliveries_k22_services_made.main.body.getD i (.Pass ⟨0, 0, 0, 0⟩)
abbrev s_is_integer : Stmt := top 16
abbrev N_is_integer : List Str := ["value", "low", "high"]
abbrev P_is_integer : List Str := ["value", "low", "high"]
theorem sc_is_integer : FnScope N_is_integer P_is_integer (defScope s_is_integer) := ⟨rfl, rfl, rfl, by decide +kernel, rfl, by decide +kernel, by decide +kernel⟩
abbrev s_Service_init : Stmt := inClass (top 30) 0
abbrev N_Service_init : List Str := ["self", "most_down", "least_up"]
abbrev P_Service_init : List Str := ["self", "most_down", "least_up"]
theorem sc_Service_init : FnScope N_Service_init P_Service_init (defScope s_Service_init) := ⟨rfl, rfl, rfl, by decide +kernel, rfl, by decide +kernel, by decide +kernel⟩
abbrev s_Service_most_down : Stmt := inClass (top 30) 2
abbrev N_Service_most_down : List Str := ["self"]
abbrev P_Service_most_down : List Str := ["self"]
theorem sc_Service_most_down : FnScope N_Service_most_down P_Service_most_down (defScope s_Service_most_down) := ⟨rfl, rfl, rfl, by decide +kernel, rfl, by decide +kernel, by decide +kernel⟩
abbrev s_Service_least_up : Stmt := inClass (top 30) 3
abbrev N_Service_least_up : List Str := ["self"]
abbrev P_Service_least_up : List Str := ["self"]
theorem sc_Service_least_up : FnScope N_Service_least_up P_Service_least_up (defScope s_Service_least_up) := ⟨rfl, rfl, rfl, by decide +kernel, rfl, by decide +kernel, by decide +kernel⟩
abbrev s_Service_eq : Stmt := inClass (top 30) 4
abbrev N_Service_eq : List Str := ["self", "other"]
abbrev P_Service_eq : List Str := ["self", "other"]
theorem sc_Service_eq : FnScope N_Service_eq P_Service_eq (defScope s_Service_eq) := ⟨rfl, rfl, rfl, by decide +kernel, rfl, by decide +kernel, by decide +kernel⟩
abbrev s_Service_str : Stmt := inClass (top 30) 5
abbrev N_Service_str : List Str := ["self", "down"]
abbrev P_Service_str : List Str := ["self"]
theorem sc_Service_str : FnScope N_Service_str P_Service_str (defScope s_Service_str) := ⟨rfl, rfl, rfl, by decide +kernel, rfl, by decide +kernel, by decide +kernel⟩
abbrev s_Service_repr : Stmt := inClass (top 30) 6
abbrev N_Service_repr : List Str := ["self"]
abbrev P_Service_repr : List Str := ["self"]
theorem sc_Service_repr : FnScope N_Service_repr P_Service_repr (defScope s_Service_repr) := ⟨rfl, rfl, rfl, by decide +kernel, rfl, by decide +kernel, by decide +kernel⟩
abbrev s_Service_and : Stmt := inClass (top 30) 14
abbrev N_Service_and : List Str := ["self", "other", "down"]
abbrev P_Service_and : List Str := ["self", "other"]
theorem sc_Service_and : FnScope N_Service_and P_Service_and (defScope s_Service_and) := ⟨rfl, rfl, rfl, by decide +kernel, rfl, by decide +kernel, by decide +kernel⟩
abbrev s_Service_implies : Stmt := inClass (top 30) 15
abbrev N_Service_implies : List Str := ["self", "other"]
abbrev P_Service_implies : List Str := ["self", "other"]
theorem sc_Service_implies : FnScope N_Service_implies P_Service_implies (defScope s_Service_implies) := ⟨rfl, rfl, rfl, by decide +kernel, rfl, by decide +kernel, by decide +kernel⟩
abbrev s_l_cell : Stmt := top 32
abbrev N_l_cell : List Str := ["_law_script", "_law_k"]
abbrev P_l_cell : List Str := ["_law_script", "_law_k"]
theorem sc_l_cell : FnScope N_l_cell P_l_cell (defScope s_l_cell) := ⟨rfl, rfl, rfl, by decide +kernel, rfl, by decide +kernel, by decide +kernel⟩
abbrev s_l_box : Stmt := top 33
abbrev N_l_box : List Str := ["_law_cell_here"]
abbrev P_l_box : List Str := ["_law_cell_here"]
theorem sc_l_box : FnScope N_l_box P_l_box (defScope s_l_box) := ⟨rfl, rfl, rfl, by decide +kernel, rfl, by decide +kernel, by decide +kernel⟩
abbrev s_l_take : Stmt := top 34
abbrev N_l_take : List Str := ["_law_box_here", "_law_size", "_law_digit", "_law_mixed"]
abbrev P_l_take : List Str := ["_law_box_here", "_law_size"]
theorem sc_l_take : FnScope N_l_take P_l_take (defScope s_l_take) := ⟨rfl, rfl, rfl, by decide +kernel, rfl, by decide +kernel, by decide +kernel⟩
abbrev s_l_bounds : Stmt := top 35
abbrev N_l_bounds : List Str := ["_law_box_here"]
abbrev P_l_bounds : List Str := ["_law_box_here"]
theorem sc_l_bounds : FnScope N_l_bounds P_l_bounds (defScope s_l_bounds) := ⟨rfl, rfl, rfl, by decide +kernel, rfl, by decide +kernel, by decide +kernel⟩
abbrev s_l_made : Stmt := top 36
abbrev N_l_made : List Str := ["_law_down", "_law_least", "_law_made_here", "e"]
abbrev P_l_made : List Str := ["_law_down", "_law_least"]
theorem sc_l_made : FnScope N_l_made P_l_made (defScope s_l_made) := ⟨rfl, rfl, rfl, by decide +kernel, rfl, by decide +kernel, by decide +kernel⟩
abbrev s_l_is_bound : Stmt := top 37
abbrev N_l_is_bound : List Str := ["_law_thing"]
abbrev P_l_is_bound : List Str := ["_law_thing"]
theorem sc_l_is_bound : FnScope N_l_is_bound P_l_is_bound (defScope s_l_is_bound) := ⟨rfl, rfl, rfl, by decide +kernel, rfl, by decide +kernel, by decide +kernel⟩
abbrev s_l_due : Stmt := top 38
abbrev N_l_due : List Str := ["_law_down", "_law_least"]
abbrev P_l_due : List Str := ["_law_down", "_law_least"]
theorem sc_l_due : FnScope N_l_due P_l_due (defScope s_l_due) := ⟨rfl, rfl, rfl, by decide +kernel, rfl, by decide +kernel, by decide +kernel⟩
abbrev s_l_no_other : Stmt := top 39
abbrev N_l_no_other : List Str := ["_law_one", "_law_odd", "_law_found", "_law_way", "e"]
abbrev P_l_no_other : List Str := ["_law_one", "_law_odd"]
theorem sc_l_no_other : FnScope N_l_no_other P_l_no_other (defScope s_l_no_other) := ⟨rfl, rfl, rfl, by decide +kernel, rfl, by decide +kernel, by decide +kernel⟩
abbrev s_l_very_object : Stmt := top 40
abbrev N_l_very_object : List Str := ["_law_thing", "e"]
abbrev P_l_very_object : List Str := []
theorem sc_l_very_object : FnScope N_l_very_object P_l_very_object (defScope s_l_very_object) := ⟨rfl, rfl, rfl, by decide +kernel, rfl, by decide +kernel, by decide +kernel⟩
abbrev s_law : Stmt := top 41
abbrev N_law : List Str := ["_law_script", "_law_k", "_law_box_here", "_law_odd", "_law_turn", "_law_down", "_law_least", "_law_pairs", "_law_one", "_law_other", "_law_strange", "_law_pair"]
abbrev P_law : List Str := ["_law_script"]
theorem sc_law : FnScope N_law P_law (defScope s_law) := ⟨rfl, rfl, rfl, by decide +kernel, rfl, by decide +kernel, by decide +kernel⟩
/-! what the head tells -/
def d_is_integer : He.DefD := ⟨("is_integer", none), "is_integer", "is_integer", defArgs s_is_integer, defBody s_is_integer, defScope s_is_integer, [], []⟩
def d_Service_init : He.DefD := ⟨("Service", some "__init__"), "__init__", "Service.__init__", defArgs s_Service_init, defBody s_Service_init, defScope s_Service_init, [.non, .int 1], []⟩
def d_Service_most_down : He.DefD := ⟨("Service", some "most_down"), "most_down", "Service.most_down", defArgs s_Service_most_down, defBody s_Service_most_down, defScope s_Service_most_down, [], []⟩
def d_Service_least_up : He.DefD := ⟨("Service", some "least_up"), "least_up", "Service.least_up", defArgs s_Service_least_up, defBody s_Service_least_up, defScope s_Service_least_up, [], []⟩
def d_Service_eq : He.DefD := ⟨("Service", some "__eq__"), "__eq__", "Service.__eq__", defArgs s_Service_eq, defBody s_Service_eq, defScope s_Service_eq, [], []⟩
def d_Service_str : He.DefD := ⟨("Service", some "__str__"), "__str__", "Service.__str__", defArgs s_Service_str, defBody s_Service_str, defScope s_Service_str, [], []⟩
def d_Service_repr : He.DefD := ⟨("Service", some "__repr__"), "__repr__", "Service.__repr__", defArgs s_Service_repr, defBody s_Service_repr, defScope s_Service_repr, [], []⟩
def d_Service_and : He.DefD := ⟨("Service", some "__and__"), "__and__", "Service.__and__", defArgs s_Service_and, defBody s_Service_and, defScope s_Service_and, [], []⟩
def d_Service_implies : He.DefD := ⟨("Service", some "implies"), "implies", "Service.implies", defArgs s_Service_implies, defBody s_Service_implies, defScope s_Service_implies, [], []⟩
def d_l_cell : He.DefD := ⟨("_law_cell", none), "_law_cell", "_law_cell", defArgs s_l_cell, defBody s_l_cell, defScope s_l_cell, [], []⟩
def d_l_box : He.DefD := ⟨("_law_box", none), "_law_box", "_law_box", defArgs s_l_box, defBody s_l_box, defScope s_l_box, [], []⟩
def d_l_take : He.DefD := ⟨("_law_take", none), "_law_take", "_law_take", defArgs s_l_take, defBody s_l_take, defScope s_l_take, [], []⟩
def d_l_bounds : He.DefD := ⟨("_law_bounds", none), "_law_bounds", "_law_bounds", defArgs s_l_bounds, defBody s_l_bounds, defScope s_l_bounds, [], []⟩
def d_l_made : He.DefD := ⟨("_law_made", none), "_law_made", "_law_made", defArgs s_l_made, defBody s_l_made, defScope s_l_made, [], []⟩
def d_l_is_bound : He.DefD := ⟨("_law_is_bound", none), "_law_is_bound", "_law_is_bound", defArgs s_l_is_bound, defBody s_l_is_bound, defScope s_l_is_bound, [], []⟩
def d_l_due : He.DefD := ⟨("_law_due", none), "_law_due", "_law_due", defArgs s_l_due, defBody s_l_due, defScope s_l_due, [], []⟩
def d_l_no_other : He.DefD := ⟨("_law_no_other", none), "_law_no_other", "_law_no_other", defArgs s_l_no_other, defBody s_l_no_other, defScope s_l_no_other, [], []⟩
def d_l_very_object : He.DefD := ⟨("_law_very_object", none), "_law_very_object", "_law_very_object", defArgs s_l_very_object, defBody s_l_very_object, defScope s_l_very_object, [], []⟩
def d_law : He.DefD := ⟨("law", none), "law", "law", defArgs s_law, defBody s_law, defScope s_law, [], []⟩
def fn : List He.DefD := [d_is_integer, d_Service_init, d_Service_eq, d_Service_str, d_Service_repr, d_Service_and, d_Service_implies, d_l_cell, d_l_box, d_l_take, d_l_bounds, d_l_made, d_l_is_bound, d_l_due, d_l_no_other, d_l_very_object, d_law]
def fa : List He.Fa := [.glo "is_integer", .glo "_law_cell", .glo "_law_box", .glo "_law_take", .glo "_law_bounds", .glo "_law_made", .glo "_law_is_bound", .glo "_law_due", .glo "_law_no_other", .glo "_law_very_object", .glo "law", .free "len", .free "isinstance", .free "int", .free "bool", .free "str", .free "list", .free "max", .free "min", .free "range", .free "repr", .int "MOST_services" 8, .glo "Service", .cls "Service", .mkr "Service", .noat "Service" "own_down", .noat "Service" "own_up", .meth "Service" "__eq__", .meth "Service" "__str__", .meth "Service" "__repr__", .meth "Service" "__and__", .meth "Service" "implies", .exm "InvalidInteger" "InvalidInteger" true, .exm "InvalidService" "InvalidService" true]
def exl : List (PySem.W.Frag → Bool) := [fun K => xokV K "/claim/cut.py" "InvalidInteger" "value", fun K => xokV K "/claim/cut.py" "InvalidService" "value", fun K => cfB K "Service", fun K => codeB K (getA "property" "Service" "most_down" K) "Service.most_down", fun K => propB K "Service" "most_down", fun K => codeB K (getA "property" "Service" "least_up" K) "Service.least_up", fun K => propB K "Service" "least_up", fun K => binB K "Service" "and"]
def ex : PySem.W.Frag → Bool := fun K => exl.all fun e => e K
def xs : List XD := [.exc "InvalidInteger" (inClass (top 5) 0), .exc "InvalidService" (inClass (top 9) 0), .plain (getA "property" "Service" "most_down") "most_down" "Service.most_down" s_Service_most_down, .plain (getA "property" "Service" "least_up") "least_up" "Service.least_up" s_Service_least_up]
section
variable {K : PySem.W.Frag} {mg : Str → Option Value}
theorem mg_is_integer (c : Hd fa fn ex xs K mg) : mg "is_integer" = some (.ref (He.ga K "is_integer")) := c.glo 0
theorem mg_l_cell (c : Hd fa fn ex xs K mg) : mg "_law_cell" = some (.ref (He.ga K "_law_cell")) := c.glo 1
theorem mg_l_box (c : Hd fa fn ex xs K mg) : mg "_law_box" = some (.ref (He.ga K "_law_box")) := c.glo 2
theorem mg_l_take (c : Hd fa fn ex xs K mg) : mg "_law_take" = some (.ref (He.ga K "_law_take")) := c.glo 3
theorem mg_l_bounds (c : Hd fa fn ex xs K mg) : mg "_law_bounds" = some (.ref (He.ga K "_law_bounds")) := c.glo 4
theorem mg_l_made (c : Hd fa fn ex xs K mg) : mg "_law_made" = some (.ref (He.ga K "_law_made")) := c.glo 5
theorem mg_l_is_bound (c : Hd fa fn ex xs K mg) : mg "_law_is_bound" = some (.ref (He.ga K "_law_is_bound")) := c.glo 6
theorem mg_l_due (c : Hd fa fn ex xs K mg) : mg "_law_due" = some (.ref (He.ga K "_law_due")) := c.glo 7
theorem mg_l_no_other (c : Hd fa fn ex xs K mg) : mg "_law_no_other" = some (.ref (He.ga K "_law_no_other")) := c.glo 8
theorem mg_l_very_object (c : Hd fa fn ex xs K mg) : mg "_law_very_object" = some (.ref (He.ga K "_law_very_object")) := c.glo 9
theorem mg_law (c : Hd fa fn ex xs K mg) : mg "law" = some (.ref (He.ga K "law")) := c.glo 10
theorem fr_len (c : Hd fa fn ex xs K mg) : mg "len" = none := c.free 11
theorem fr_isinstance (c : Hd fa fn ex xs K mg) : mg "isinstance" = none := c.free 12
theorem fr_int (c : Hd fa fn ex xs K mg) : mg "int" = none := c.free 13
theorem fr_bool (c : Hd fa fn ex xs K mg) : mg "bool" = none := c.free 14
theorem fr_str (c : Hd fa fn ex xs K mg) : mg "str" = none := c.free 15
theorem fr_list (c : Hd fa fn ex xs K mg) : mg "list" = none := c.free 16
theorem fr_max (c : Hd fa fn ex xs K mg) : mg "max" = none := c.free 17
theorem fr_min (c : Hd fa fn ex xs K mg) : mg "min" = none := c.free 18
theorem fr_range (c : Hd fa fn ex xs K mg) : mg "range" = none := c.free 19
theorem fr_repr (c : Hd fa fn ex xs K mg) : mg "repr" = none := c.free 20
theorem c_MOST_services (c : Hd fa fn ex xs K mg) : ∃ t, mg "MOST_services" = some (.int 8 t) := c.int 21
theorem mg_Service (c : Hd fa fn ex xs K mg) : mg "Service" = some (.ref (He.ga K "Service")) := c.glo 22
theorem cl_Service (c : Hd fa fn ex xs K mg) : Cls K (He.ga K "Service") := He.cls_ok (c.s.d.fact 23)
theorem mk_Service (c : Hd fa fn ex xs K mg) : Mk K (He.ga K "Service") (He.ma K (He.ga K "Service") "__init__") := He.mkr_ok (c.s.d.fact 24)
theorem na_Service_own_down (c : Hd fa fn ex xs K mg) : NoAttr K (He.ga K "Service") "own_down" := He.noat_ok (c.s.d.fact 25)
theorem na_Service_own_up (c : Hd fa fn ex xs K mg) : NoAttr K (He.ga K "Service") "own_up" := He.noat_ok (c.s.d.fact 26)
theorem me_Service_eq (c : Hd fa fn ex xs K mg) : Meth K (He.ga K "Service") "__eq__" (He.ma K (He.ga K "Service") "__eq__") := He.meth_ok (c.s.d.fact 27)
theorem me_Service_str (c : Hd fa fn ex xs K mg) : Meth K (He.ga K "Service") "__str__" (He.ma K (He.ga K "Service") "__str__") := He.meth_ok (c.s.d.fact 28)
theorem me_Service_repr (c : Hd fa fn ex xs K mg) : Meth K (He.ga K "Service") "__repr__" (He.ma K (He.ga K "Service") "__repr__") := He.meth_ok (c.s.d.fact 29)
theorem me_Service_and (c : Hd fa fn ex xs K mg) : Meth K (He.ga K "Service") "__and__" (He.ma K (He.ga K "Service") "__and__") := He.meth_ok (c.s.d.fact 30)
theorem me_Service_implies (c : Hd fa fn ex xs K mg) : Meth K (He.ga K "Service") "implies" (He.ma K (He.ga K "Service") "implies") := He.meth_ok (c.s.d.fact 31)
theorem cf_Service (c : Hd fa fn ex xs K mg) : CF K (He.ga K "Service") := cf_ok (ex_at c.s.more 2 rfl)
theorem em_InvalidInteger_InvalidInteger (c : Hd fa fn ex xs K mg) : PySem.W.exmOne K (.ref (He.ga K "InvalidInteger")) (.ref (He.ga K "InvalidInteger")) = some true := He.exm_ok (c.s.d.fact 32)
theorem em_InvalidService_InvalidService (c : Hd fa fn ex xs K mg) : PySem.W.exmOne K (.ref (He.ga K "InvalidService")) (.ref (He.ga K "InvalidService")) = some true := He.exm_ok (c.s.d.fact 33)
theorem bf_Service_and (c : Hd fa fn ex xs K mg) : BinF K (He.ga K "Service") "and" := bin_ok (ex_at c.s.more 7 rfl)
theorem xf_InvalidInteger : XForm "value" (inClass (top 5) 0) := ⟨_, _, _, _, _, _, _, _, _, _, _, _, rfl, rfl, rfl, rfl⟩
theorem xc_InvalidInteger (c : Hd fa fn ex xs K mg) : XC P K mg "InvalidInteger" "value" (He.ga K "InvalidInteger") := xv_ok PySem.XV.fname_value (ex_at c.s.more 0 rfl) (c.xd (d := .exc "InvalidInteger" (inClass (top 5) 0)) 0) xf_InvalidInteger (by kernel_rfl) (by kernel_rfl) c.at_
theorem xf_InvalidService : XForm "value" (inClass (top 9) 0) := ⟨_, _, _, _, _, _, _, _, _, _, _, _, rfl, rfl, rfl, rfl⟩
theorem xc_InvalidService (c : Hd fa fn ex xs K mg) : XC P K mg "InvalidService" "value" (He.ga K "InvalidService") := xv_ok PySem.XV.fname_value (ex_at c.s.more 1 rfl) (c.xd (d := .exc "InvalidService" (inClass (top 9) 0)) 1) xf_InvalidService (by kernel_rfl) (by kernel_rfl) c.at_
abbrev a_is_integer (K : PySem.W.Frag) : Addr := He.ga K "is_integer"
theorem fd_is_integer (c : Hd fa fn ex xs K mg) : FunD K "is_integer" "is_integer" (defArgs s_is_integer) (defBody s_is_integer) (defScope s_is_integer) ([] : List V) ([] : List (Str × V)) (a_is_integer K) (fdOf K (a_is_integer K)) := c.fun_ 0
theorem bd_is_integer (c : Hd fa fn ex xs K mg) : Binds K (fdOf K (a_is_integer K)) P_is_integer [] := (fd_is_integer c).bindsN fun _ _ _ _ _ _ us hl => match us, hl with | [_, _, _], _ => rfl
abbrev a_Service_init (K : PySem.W.Frag) : Addr := He.ma K (He.ga K "Service") "__init__"
theorem fd_Service_init (c : Hd fa fn ex xs K mg) : FunD K "__init__" "Service.__init__" (defArgs s_Service_init) (defBody s_Service_init) (defScope s_Service_init) ([.non, .int 1] : List V) ([] : List (Str × V)) (a_Service_init K) (fdOf K (a_Service_init K)) := c.fun_ 1
abbrev a_Service_most_down (K : PySem.W.Frag) : Addr := getA "property" "Service" "most_down" K
theorem fd_Service_most_down (c : Hd fa fn ex xs K mg) : FunD K "most_down" "Service.most_down" (defArgs s_Service_most_down) (defBody s_Service_most_down) (defScope s_Service_most_down) [] [] (a_Service_most_down K) (fdOf K (a_Service_most_down K)) := funD_plain (c.xd 2) (ex_at c.s.more 3 rfl)
theorem bd_Service_most_down (c : Hd fa fn ex xs K mg) : Binds K (fdOf K (a_Service_most_down K)) P_Service_most_down [] := (fd_Service_most_down c).bindsN fun _ _ _ _ _ _ us hl => match us, hl with | [_], _ => rfl
theorem pr_Service_most_down (c : Hd fa fn ex xs K mg) : PropOf K (He.ga K "Service") "most_down" (He.ma K (He.ga K "Service") "most_down") (a_Service_most_down K) := prop_ok (ex_at c.s.more 4 rfl)
abbrev a_Service_least_up (K : PySem.W.Frag) : Addr := getA "property" "Service" "least_up" K
theorem fd_Service_least_up (c : Hd fa fn ex xs K mg) : FunD K "least_up" "Service.least_up" (defArgs s_Service_least_up) (defBody s_Service_least_up) (defScope s_Service_least_up) [] [] (a_Service_least_up K) (fdOf K (a_Service_least_up K)) := funD_plain (c.xd 3) (ex_at c.s.more 5 rfl)
theorem bd_Service_least_up (c : Hd fa fn ex xs K mg) : Binds K (fdOf K (a_Service_least_up K)) P_Service_least_up [] := (fd_Service_least_up c).bindsN fun _ _ _ _ _ _ us hl => match us, hl with | [_], _ => rfl
theorem pr_Service_least_up (c : Hd fa fn ex xs K mg) : PropOf K (He.ga K "Service") "least_up" (He.ma K (He.ga K "Service") "least_up") (a_Service_least_up K) := prop_ok (ex_at c.s.more 6 rfl)
abbrev a_Service_eq (K : PySem.W.Frag) : Addr := He.ma K (He.ga K "Service") "__eq__"
theorem fd_Service_eq (c : Hd fa fn ex xs K mg) : FunD K "__eq__" "Service.__eq__" (defArgs s_Service_eq) (defBody s_Service_eq) (defScope s_Service_eq) ([] : List V) ([] : List (Str × V)) (a_Service_eq K) (fdOf K (a_Service_eq K)) := c.fun_ 2
theorem bd_Service_eq (c : Hd fa fn ex xs K mg) : Binds K (fdOf K (a_Service_eq K)) P_Service_eq [] := (fd_Service_eq c).bindsN fun _ _ _ _ _ _ us hl => match us, hl with | [_, _], _ => rfl
abbrev a_Service_str (K : PySem.W.Frag) : Addr := He.ma K (He.ga K "Service") "__str__"
theorem fd_Service_str (c : Hd fa fn ex xs K mg) : FunD K "__str__" "Service.__str__" (defArgs s_Service_str) (defBody s_Service_str) (defScope s_Service_str) ([] : List V) ([] : List (Str × V)) (a_Service_str K) (fdOf K (a_Service_str K)) := c.fun_ 3
theorem bd_Service_str (c : Hd fa fn ex xs K mg) : Binds K (fdOf K (a_Service_str K)) P_Service_str [] := (fd_Service_str c).bindsN fun _ _ _ _ _ _ us hl => match us, hl with | [_], _ => rfl
abbrev a_Service_repr (K : PySem.W.Frag) : Addr := He.ma K (He.ga K "Service") "__repr__"
theorem fd_Service_repr (c : Hd fa fn ex xs K mg) : FunD K "__repr__" "Service.__repr__" (defArgs s_Service_repr) (defBody s_Service_repr) (defScope s_Service_repr) ([] : List V) ([] : List (Str × V)) (a_Service_repr K) (fdOf K (a_Service_repr K)) := c.fun_ 4
theorem bd_Service_repr (c : Hd fa fn ex xs K mg) : Binds K (fdOf K (a_Service_repr K)) P_Service_repr [] := (fd_Service_repr c).bindsN fun _ _ _ _ _ _ us hl => match us, hl with | [_], _ => rfl
abbrev a_Service_and (K : PySem.W.Frag) : Addr := He.ma K (He.ga K "Service") "__and__"
theorem fd_Service_and (c : Hd fa fn ex xs K mg) : FunD K "__and__" "Service.__and__" (defArgs s_Service_and) (defBody s_Service_and) (defScope s_Service_and) ([] : List V) ([] : List (Str × V)) (a_Service_and K) (fdOf K (a_Service_and K)) := c.fun_ 5
theorem bd_Service_and (c : Hd fa fn ex xs K mg) : Binds K (fdOf K (a_Service_and K)) P_Service_and [] := (fd_Service_and c).bindsN fun _ _ _ _ _ _ us hl => match us, hl with | [_, _], _ => rfl
abbrev a_Service_implies (K : PySem.W.Frag) : Addr := He.ma K (He.ga K "Service") "implies"
theorem fd_Service_implies (c : Hd fa fn ex xs K mg) : FunD K "implies" "Service.implies" (defArgs s_Service_implies) (defBody s_Service_implies) (defScope s_Service_implies) ([] : List V) ([] : List (Str × V)) (a_Service_implies K) (fdOf K (a_Service_implies K)) := c.fun_ 6
theorem bd_Service_implies (c : Hd fa fn ex xs K mg) : Binds K (fdOf K (a_Service_implies K)) P_Service_implies [] := (fd_Service_implies c).bindsN fun _ _ _ _ _ _ us hl => match us, hl with | [_, _], _ => rfl
abbrev a_l_cell (K : PySem.W.Frag) : Addr := He.ga K "_law_cell"
theorem fd_l_cell (c : Hd fa fn ex xs K mg) : FunD K "_law_cell" "_law_cell" (defArgs s_l_cell) (defBody s_l_cell) (defScope s_l_cell) ([] : List V) ([] : List (Str × V)) (a_l_cell K) (fdOf K (a_l_cell K)) := c.fun_ 7
theorem bd_l_cell (c : Hd fa fn ex xs K mg) : Binds K (fdOf K (a_l_cell K)) P_l_cell [] := (fd_l_cell c).bindsN fun _ _ _ _ _ _ us hl => match us, hl with | [_, _], _ => rfl
abbrev a_l_box (K : PySem.W.Frag) : Addr := He.ga K "_law_box"
theorem fd_l_box (c : Hd fa fn ex xs K mg) : FunD K "_law_box" "_law_box" (defArgs s_l_box) (defBody s_l_box) (defScope s_l_box) ([] : List V) ([] : List (Str × V)) (a_l_box K) (fdOf K (a_l_box K)) := c.fun_ 8
theorem bd_l_box (c : Hd fa fn ex xs K mg) : Binds K (fdOf K (a_l_box K)) P_l_box [] := (fd_l_box c).bindsN fun _ _ _ _ _ _ us hl => match us, hl with | [_], _ => rfl
abbrev a_l_take (K : PySem.W.Frag) : Addr := He.ga K "_law_take"
theorem fd_l_take (c : Hd fa fn ex xs K mg) : FunD K "_law_take" "_law_take" (defArgs s_l_take) (defBody s_l_take) (defScope s_l_take) ([] : List V) ([] : List (Str × V)) (a_l_take K) (fdOf K (a_l_take K)) := c.fun_ 9
theorem bd_l_take (c : Hd fa fn ex xs K mg) : Binds K (fdOf K (a_l_take K)) P_l_take [] := (fd_l_take c).bindsN fun _ _ _ _ _ _ us hl => match us, hl with | [_, _], _ => rfl
abbrev a_l_bounds (K : PySem.W.Frag) : Addr := He.ga K "_law_bounds"
theorem fd_l_bounds (c : Hd fa fn ex xs K mg) : FunD K "_law_bounds" "_law_bounds" (defArgs s_l_bounds) (defBody s_l_bounds) (defScope s_l_bounds) ([] : List V) ([] : List (Str × V)) (a_l_bounds K) (fdOf K (a_l_bounds K)) := c.fun_ 10
theorem bd_l_bounds (c : Hd fa fn ex xs K mg) : Binds K (fdOf K (a_l_bounds K)) P_l_bounds [] := (fd_l_bounds c).bindsN fun _ _ _ _ _ _ us hl => match us, hl with | [_], _ => rfl
abbrev a_l_made (K : PySem.W.Frag) : Addr := He.ga K "_law_made"
theorem fd_l_made (c : Hd fa fn ex xs K mg) : FunD K "_law_made" "_law_made" (defArgs s_l_made) (defBody s_l_made) (defScope s_l_made) ([] : List V) ([] : List (Str × V)) (a_l_made K) (fdOf K (a_l_made K)) := c.fun_ 11
theorem bd_l_made (c : Hd fa fn ex xs K mg) : Binds K (fdOf K (a_l_made K)) P_l_made [] := (fd_l_made c).bindsN fun _ _ _ _ _ _ us hl => match us, hl with | [_, _], _ => rfl
abbrev a_l_is_bound (K : PySem.W.Frag) : Addr := He.ga K "_law_is_bound"
theorem fd_l_is_bound (c : Hd fa fn ex xs K mg) : FunD K "_law_is_bound" "_law_is_bound" (defArgs s_l_is_bound) (defBody s_l_is_bound) (defScope s_l_is_bound) ([] : List V) ([] : List (Str × V)) (a_l_is_bound K) (fdOf K (a_l_is_bound K)) := c.fun_ 12
theorem bd_l_is_bound (c : Hd fa fn ex xs K mg) : Binds K (fdOf K (a_l_is_bound K)) P_l_is_bound [] := (fd_l_is_bound c).bindsN fun _ _ _ _ _ _ us hl => match us, hl with | [_], _ => rfl
abbrev a_l_due (K : PySem.W.Frag) : Addr := He.ga K "_law_due"
theorem fd_l_due (c : Hd fa fn ex xs K mg) : FunD K "_law_due" "_law_due" (defArgs s_l_due) (defBody s_l_due) (defScope s_l_due) ([] : List V) ([] : List (Str × V)) (a_l_due K) (fdOf K (a_l_due K)) := c.fun_ 13
theorem bd_l_due (c : Hd fa fn ex xs K mg) : Binds K (fdOf K (a_l_due K)) P_l_due [] := (fd_l_due c).bindsN fun _ _ _ _ _ _ us hl => match us, hl with | [_, _], _ => rfl
abbrev a_l_no_other (K : PySem.W.Frag) : Addr := He.ga K "_law_no_other"
theorem fd_l_no_other (c : Hd fa fn ex xs K mg) : FunD K "_law_no_other" "_law_no_other" (defArgs s_l_no_other) (defBody s_l_no_other) (defScope s_l_no_other) ([] : List V) ([] : List (Str × V)) (a_l_no_other K) (fdOf K (a_l_no_other K)) := c.fun_ 14
theorem bd_l_no_other (c : Hd fa fn ex xs K mg) : Binds K (fdOf K (a_l_no_other K)) P_l_no_other [] := (fd_l_no_other c).bindsN fun _ _ _ _ _ _ us hl => match us, hl with | [_, _], _ => rfl
abbrev a_l_very_object (K : PySem.W.Frag) : Addr := He.ga K "_law_very_object"
theorem fd_l_very_object (c : Hd fa fn ex xs K mg) : FunD K "_law_very_object" "_law_very_object" (defArgs s_l_very_object) (defBody s_l_very_object) (defScope s_l_very_object) ([] : List V) ([] : List (Str × V)) (a_l_very_object K) (fdOf K (a_l_very_object K)) := c.fun_ 15
theorem bd_l_very_object (c : Hd fa fn ex xs K mg) : Binds K (fdOf K (a_l_very_object K)) P_l_very_object [] := (fd_l_very_object c).bindsN fun _ _ _ _ _ _ us hl => match us, hl with | [], _ => rfl
abbrev a_law (K : PySem.W.Frag) : Addr := He.ga K "law"
theorem fd_law (c : Hd fa fn ex xs K mg) : FunD K "law" "law" (defArgs s_law) (defBody s_law) (defScope s_law) ([] : List V) ([] : List (Str × V)) (a_law K) (fdOf K (a_law K)) := c.fun_ 16
theorem bd_law (c : Hd fa fn ex xs K mg) : Binds K (fdOf K (a_law K)) P_law [] := (fd_law c).bindsN fun _ _ _ _ _ _ us hl => match us, hl with | [_], _ => rfl
end
end K22
local macro_rules | `(tactic| walk_at "s1") => `(tactic| first
  | (with_reducible show L2.tVar _ _ _ _; refine G.i_var rfl ?_)
  | with_reducible refine G.i_c ?_
  | with_reducible refine G.i_op ?_
  | with_reducible refine G.i_cons ?_
  | with_reducible refine G.i_nil ?_
  | with_reducible refine G.i_I0 ?_
  | with_reducible refine G.i_seq ?_
  | with_reducible refine G.i_asg ?_
  | with_reducible refine G.i_name ?_
  | with_reducible refine G.i_ifs ?_
  | with_reducible refine G.i_test ?_
  | with_reducible refine G.i_B ?_
  | with_reducible refine G.i_bl ?_
  | with_reducible refine G.i_ret ?_
  | with_reducible refine G.i_next ?_
  | with_reducible refine G.i_cb ?_
  | with_reducible refine G.i_call ?_
  | (with_reducible refine G.i_eqR rfl ?_)
  | (with_reducible refine G.i_neR rfl ?_)
  | (with_reducible show L2.rEq _ _ _ _; refine G.i_eq rfl ?_)
  | (with_reducible show L2.rNe _ _ _ _; refine G.i_ne rfl ?_)
  | with_reducible refine G.i_gsub ?_
  | with_reducible refine G.i_drop ?_
  | with_reducible refine G.i_par ?_
  | with_reducible refine G.i_two ?_
  | with_reducible refine G.i_ii ?_
  | with_reducible refine G.i_ss ?_
  | with_reducible refine G.i_not ?_
  | with_reducible refine G.i_notV ?_
  | with_reducible refine G.i_andV ?_
  | with_reducible refine G.i_orV ?_
  | with_reducible refine G.i_and ?_
  | with_reducible refine G.i_or ?_
  | with_reducible refine G.i_if ?_
  | with_reducible refine G.i_chain ?_
  | with_reducible refine G.i_lstW ?_
  | with_reducible refine G.i_tupW ?_
  | with_reducible refine G.i_un ?_
  | with_reducible refine G.i_U ?_
  | with_reducible refine G.i_sl ?_
  | with_reducible refine G.i_noPart ?_
  | with_reducible refine G.i_part ?_
  | with_reducible refine G.i_int ?_
  | with_reducible refine G.i_forW ?_
  | with_reducible refine G.i_rngW ?_
  | with_reducible refine G.i_retN ?_
  | with_reducible refine G.i_lcW ?_
  | with_reducible refine G.i_iStr ?_
  | with_reducible refine G.i_str ?_
  | with_reducible refine G.i_ilW ?_
  | with_reducible refine G.i_itW ?_
  | with_reducible refine G.i_yes ?_
  | with_reducible refine G.i_M1 ?_
  | with_reducible refine G.i_isB ?_
  | with_reducible refine G.i_callK ?_
  | with_reducible refine G.i_callN0 ?_
  | with_reducible refine G.i_callUW ?_
  | with_reducible refine G.i_callS ?_
  | with_reducible refine G.i_notB ?_
  | with_reducible refine G.i_makeW ?_
  | with_reducible refine G.i_gnil ?_
  | with_reducible refine G.i_gcons ?_
  | with_reducible refine G.i_methUW ?_
  | with_reducible refine G.i_fldW ?_
  | with_reducible refine G.i_sfldW ?_
  | with_reducible refine G.i_propW ?_
  | with_reducible refine G.i_lrgW ?_
  | with_reducible refine G.i_rg2 ?_
  | with_reducible refine G.i_int2 ?_
  | with_reducible refine G.i_raiseW ?_
  | with_reducible refine G.i_js ?_
  | with_reducible refine G.i_js0 ?_
  | with_reducible refine G.i_fmtN ?_
  | with_reducible refine G.fmt_non ?_
  | with_reducible refine G.i_binW ?_
  | with_reducible refine G.i_xfW ?_
  | with_reducible refine G.isN_non ?_
  | with_reducible refine G.isN_int ?_
  | with_reducible refine G.isN_bl ?_
  | with_reducible refine G.isN_str ?_
  | with_reducible refine G.isN_ref ?_
  | with_reducible refine G.notN_non ?_
  | with_reducible refine G.notN_int ?_
  | with_reducible refine G.notN_bl ?_
  | with_reducible refine G.notN_str ?_
  | with_reducible refine G.notN_ref ?_
  | with_reducible refine L2.iteT ?_
  | with_reducible refine L2.iteF ?_
  | (with_reducible show (if (!false) = true then _ else _); refine G.i_isT rfl ?_)
  | (with_reducible show (if (!true) = true then _ else _); refine G.i_isF rfl ?_))
local macro_rules | `(tactic| walk_at "S") => `(tactic| repeat walk_at "s1")
local macro_rules | `(tactic| walk_at "hp") => `(tactic| first
  | assumption
  | with_reducible exact L2.upd_same
  | (with_reducible refine G.old' (by assumption) ?_; walk_at "hp")
  | (with_reducible refine G.oldw (by assumption) ?_; walk_at "hp")
  | (with_reducible refine G.oldw (Ne.symm (by assumption)) ?_; walk_at "hp")
  | (with_reducible refine G.Kp.at (by assumption) (by assumption) ?_; walk_at "hp"))
local macro_rules | `(tactic| walk_at "bx") => `(tactic| first
  | with_reducible assumption
  | with_reducible exact G.BoxAt.of (by assumption)
  | with_reducible exact G.box_new (by assumption) (by walk_at "bx")
  | with_reducible exact G.box_wr (by assumption) (by walk_at "bx")
  | with_reducible exact G.box_wr (Ne.symm (by assumption)) (by walk_at "bx")
  | with_reducible exact G.box_same (by assumption) (by walk_at "bx"))
local macro_rules | `(tactic| walk_at "kp") => `(tactic| first
  | with_reducible assumption
  | with_reducible exact G.Kp.refl
  | (with_reducible refine G.kp_new (by assumption) ?_; walk_at "kp")
  | (with_reducible refine G.Kp.bx ?_; walk_at "kp")
  | (with_reducible refine G.kp_tr (by assumption) ?_; walk_at "kp")
  | (with_reducible refine G.kp_same (by assumption) ?_; walk_at "kp"))
local macro_rules | `(tactic| walk_at "sm") => `(tactic| first
  | with_reducible assumption
  | with_reducible exact L2.Same.refl _
  | (with_reducible refine G.same_nw (by assumption) ?_; walk_at "sm")
  | (with_reducible refine G.same_kp' (by assumption) (by assumption) ?_; walk_at "sm")
  | (with_reducible refine G.same_tr (by assumption) ?_; walk_at "sm"))
local macro_rules | `(tactic| walk_at "kd") => `(tactic| first
  | with_reducible assumption
  | (with_reducible refine G.kd_new (by assumption) ?_; walk_at "kd")
  | (with_reducible refine G.kd_kp (by assumption) (by assumption) ?_; walk_at "kd")
  | (with_reducible refine G.kd_same (by assumption) ?_; walk_at "kd"))
local macro_rules | `(tactic| walk_at "sub") => `(tactic| first | with_reducible exact List.Sublist.slnil | ((with_reducible refine List.Sublist.cons₂ _ ?_); walk_at "sub") | with_reducible exact List.nil_sublist _ | ((with_reducible refine List.Sublist.cons _ ?_); walk_at "sub"))
local macro_rules | `(tactic| walk_at "in") => `(tactic| first | with_reducible exact List.mem_cons_self | ((with_reducible refine List.mem_cons_of_mem _ ?_); walk_at "in"))
local macro_rules | `(tactic| walk_at "put") => `(tactic| first | with_reducible exact G.Put.here | exact G.Put.there (by walk_at "put"))
local macro_rules | `(tactic| walk_at "lk") => `(tactic| first | with_reducible exact G.lk_hd | exact G.lk_tl (by decide +kernel) (by walk_at "lk"))
local macro_rules | `(tactic| walk_at "lkn") => `(tactic| first | with_reducible exact G.lk_nil | exact G.lk_no (by decide +kernel) (by walk_at "lkn"))
set_option hygiene false
local macro_rules | `(tactic| walk_at "s2") => `(tactic| first
  | ((with_reducible refine G.i_newL led ?fw ?_); (case fw => exact G.few); clear led; intro p Hc led)
  | ((with_reducible refine G.i_newT led ?fw ?_); (case fw => exact G.few); clear led; intro p Hc led)
  | ((with_reducible show L2.rIxL _ (L2.V.ref _) (L2.V.int (OfNat.ofNat _)) _ _); refine G.i_ixL (L2.SqL.of (led.get (by walk_at "in"))) (by rfl) ?_)
  | ((with_reducible show L2.rIxT _ (L2.V.ref _) (L2.V.int (OfNat.ofNat _)) _ _); refine G.i_ixT (L2.SqT.of (led.get (by walk_at "in"))) (by rfl) ?_)
  | ((with_reducible show G.sp_l_take _ _ _ _); refine G.i_take led (by first | decide | omega) (by first | decide | omega) (by first | decide | omega) ?_; clear led; intro r Hc hr0 hr1 led)
  | ((with_reducible refine G.i_newR led ?ok ?_); (case ok => exact ⟨by omega, by omega, by omega, by omega, by omega⟩); clear led; intro p Hc led)
  | ((with_reducible refine G.i_gtup (xs := ?xx) ?ee ?el ?_); (case ee => exact led.get (by walk_at "in")); (case el => exact rfl))
  | with_reducible refine G.i_bm ?_
  | ((with_reducible refine G.i_tyL (xs := ?xx) ?ee ?_); (case ee => exact led.get (by walk_at "in"))))
local macro_rules | `(tactic| walk_at "pf") => `(tactic| first | exact G.PutF.nil | exact G.PutF.hit | exact G.PutF.skip (by decide +kernel) (by walk_at "pf"))
local macro_rules | `(tactic| walk_at "s3") => `(tactic| first
  | ((with_reducible show G.AtFld _ _ (L2.V.ref _) _ _); refine G.i_atFld (K := K) (led.get (by walk_at "in")) (by walk_at "cl") (by walk_at "na") (by walk_at "lk") ?_)
  | ((with_reducible show G.AtMeth _ _ _ _ _ _ _ _ _ _ (L2.V.ref _) _ _); refine G.i_atMeth (led.get (by walk_at "in")) (by walk_at "lkn") ?_)
  | ((with_reducible refine G.i_glst (xs := ?xx) ?ee ?el ?_); (case ee => exact led.get (by walk_at "in")); (case el => exact rfl))
  | ((with_reducible show G.AtProp _ _ _ _ (L2.V.ref _) _ _); refine G.i_atProp (led.get (by walk_at "in")) ?_)
  | ((with_reducible show G.AtCallM _ _ _ _ _ _ _ _ _ _); refine G.i_atCallM rfl rfl rfl ?_)
  | ((with_reducible show G.AtCall _ _ _ _ _ _ _ _ _); refine G.i_atCall rfl rfl rfl ?_)
  | ((with_reducible show G.AtSet _ _ _ (L2.V.ref _) _ _); refine G.i_putA (K := K) led (by walk_at "in") (by walk_at "cl") (by walk_at "na") (Nat.le_of_ble_eq_true rfl) (by walk_at "pf") (by walk_at "put") ?_; clear led; intro Hc led)
  | ((with_reducible refine G.i_raiseL led ?_); clear led; intro p Hc led)
  | ((with_reducible show L2.rAppend (L2.V.ref _) _ _ _); refine G.i_app led (by walk_at "in") (by first | exact G.few' | (simp only [List.length_map, List.length_append, List.length_cons, List.length_nil, sizeLine_eq]; omega)) (by walk_at "put") ?_; clear led; intro Hc led; try simp only [List.cons_append, List.nil_append] at led)
  | ((with_reducible show G.LcApp _ _ _ _); refine G.i_lcApp led (by walk_at "in") (by first | exact G.few' | (simp only [List.length_map, List.length_append, List.length_cons, List.length_nil, sizeLine_eq]; omega)) (by walk_at "put") ?_; clear led; intro Hc led; try simp only [List.cons_append, List.nil_append] at led)
  | ((with_reducible refine G.i_wipe ?ww ?_); (case ww => exact rfl))
  | ((with_reducible refine G.i_atRng ?ra ?rb ?_); (case ra => first | decide | omega); (case rb => first | decide | omega))
  | ((with_reducible refine G.i_atIL (xs := ?xx) ?ee ?_); (case ee => exact led.get (by walk_at "in")))
  | ((with_reducible refine G.i_atIT (xs := ?xx) ?ee ?_); (case ee => exact led.get (by walk_at "in")))
  | ((with_reducible show L2.wAs _ _ _ _ _ _ _ _ _ _); first | (refine G.i_asY (K := K) (by walk_at "em") ?_; intro px) | refine G.i_asN (K := K) (by walk_at "em") ?_)
  | ((with_reducible show L2.wOnly _ _ _ _ _ _ _ _ _); first | (refine G.i_onlyY (K := K) (by walk_at "em") ?_; intro px) | refine G.i_onlyN (K := K) (by walk_at "em") ?_)
  | ((with_reducible show G.AtXf _ _ _ _ _ _ _ _); refine G.i_atXf (led.get (by walk_at "in")) ?_))
local macro_rules | `(tactic| walk_at "br") => `(tactic| first
  | (with_reducible refine G.i_isT (by first | rfl | (with_reducible exact decide_eq_true (by omega))) ?_)
  | (with_reducible refine G.i_isF (by first | rfl | (with_reducible exact decide_eq_false (by omega))) ?_))
local macro_rules | `(tactic| walk_at "L") => `(tactic| repeat first | walk_at "s1" | walk_at "s2" | walk_at "s3" | walk_at "fn")
set_option hygiene true
set_option hygiene false
local macro_rules | `(tactic| walk_at "cl") => `(tactic| first | with_reducible exact K22.cl_Service c)
local macro_rules | `(tactic| walk_at "na") => `(tactic| first | with_reducible exact K22.na_Service_own_down c | with_reducible exact K22.na_Service_own_up c)
local macro_rules | `(tactic| walk_at "em") => `(tactic| first | with_reducible exact K22.em_InvalidInteger_InvalidInteger c | with_reducible exact K22.em_InvalidService_InvalidService c)
set_option hygiene true
namespace K22
open PySem PySem.Spec PyProof.Rows L2 G
section
variable {P : Program} {w : World} {K : PySem.W.Frag} {mg : Str → Option Value} {base : Heap}
theorem ok_is_integer (c : Hd fa fn ex xs K mg) : FnOk P w K mg base CX0 1 (a_is_integer K) (fdOf K (a_is_integer K)) P_is_integer sp_is_integer := by
  refine (fd_is_integer c).ok sc_is_integer (fun vs H Q E h => ?_) (fun cdv A outer s H vs Q E hr h => ?_)
  · obtain ⟨v, lo, hi, T, rfl, _⟩ := h
    rfl
  · obtain ⟨v, lo, hi, T, rfl, kd, k⟩ := h
    refine ⟨_, PSs.nox (pss_one (ps_ret (pe_and (pe_callB call_isi rfl (fr_isinstance c) (by decide +kernel) (pa_cons (pv 0) (pa_cons (pe_ty (T := "int") (fr_int c) (by decide +kernel)) pa_nil))) (pe_and (pe_not (pe_callB call_isi rfl (fr_isinstance c) (by decide +kernel) (pa_cons (pv 0) (pa_cons (pe_ty (T := "bool") (fr_bool c) (by decide +kernel)) pa_nil)))) (pe_one (pe_chain op_le op_le (pv 1) (pv 0) (pv 2))))))), ?_⟩
    walk_at "S"
    cases kd with
    | int i =>
      refine i_isi (.int i) (b := true) (by decide +kernel) ?_
      walk_at "S"
      refine i_isi (.int i) (b := false) (by decide +kernel) ?_
      walk_at "S"
      refine i_dec (fun h1 => ?_) (fun h1 => ?_)
      · walk_at "S"
        simpa [isI, h1] using k
      · simpa [isI, h1] using k
    | bl b =>
      refine i_isi (.bl b) (b := true) (by decide +kernel) ?_
      walk_at "S"
      refine i_isi (.bl b) (b := true) (by decide +kernel) ?_
      walk_at "S"
      exact k
    | non => exact i_isi .non (b := false) (by decide +kernel) (by walk_at "S"; exact k)
    | str x => exact i_isi (.str x) (b := false) (by decide +kernel) (by walk_at "S"; exact k)
    | lst e => exact i_isi (.lst e) (b := false) (by decide +kernel) (by walk_at "S"; exact k)
    | tup e => exact i_isi (.tup e) (b := false) (by decide +kernel) (by walk_at "S"; exact k)
    | dct e => exact i_isi (.dct e) (b := false) (by decide +kernel) (by walk_at "S"; exact k)

end
abbrev cS (K : PySem.W.Frag) : Addr := He.ga K "Service"
abbrev cInt (K : PySem.W.Frag) : Addr := He.ga K "InvalidInteger"
abbrev cSrv (K : PySem.W.Frag) : Addr := He.ga K "InvalidService"
abbrev svO (K : PySem.W.Frag) (dx : Addr) (d u : V) : HO := .ins (cS K) dx [("own_down", d), ("own_up", u)]
abbrev xO (v : V) : HO := .xd [("value", v)]
def sp_down (K : PySem.W.Frag) : Sp := fun vs H Q _ => ∃ (a dx : Addr) (d u : V), vs = [.ref a] ∧ H a = some (svO K dx d u) ∧ Q d H
def sp_up (K : PySem.W.Frag) : Sp := fun vs H Q _ => ∃ (a dx : Addr) (d u : V), vs = [.ref a] ∧ H a = some (svO K dx d u) ∧ Q u H
def okd (d : V) : Bool := decide (d = .non) || isI d 1 8
def sp_init (K : PySem.W.Frag) : Sp := fun vs H Q E => ∃ (x dx : Addr) (d u : V) (T1 T2 : String), vs = [.ref x, d, u] ∧ Kd H d T1 ∧ Kd H u T2 ∧ d ≠ .ref x ∧ u ≠ .ref x ∧ H x = some (.ins (cS K) dx []) ∧
  (okd d = true → isI u 1 8 = true → ∀ H', Led H [x] H' none [(x, svO K dx d u)] → Q .non H') ∧
  (okd d = false → ∀ e H', Led H [x] H' none [(e, xO d)] → E (.ref (cInt K)) (some e) H') ∧
  (okd d = true → isI u 1 8 = false → ∀ e H', Led H [x] H' none [(e, xO u)] → E (.ref (cInt K)) (some e) H')
set_option hygiene false
local macro_rules | `(tactic| walk_at "kd") => `(tactic| first | exact .int _ | exact .non | exact .bl _ | exact .str _ | assumption | exact led.kd0 (by assumption) | exact .lst (led.get (by walk_at "in")) | exact .tup (led.get (by walk_at "in")) | exact .dct (led.get (by walk_at "in")))
local macro_rules | `(tactic| walk_at "fn") => `(tactic| first
  | ((with_reducible show G.sp_is_integer _ _ _ _); refine G.i_isint (by walk_at "kd") ?_))
set_option hygiene true
section
variable {w : World} {K : PySem.W.Frag} {mg : Str → Option Value} {base : Heap}
theorem ok_Service_most_down (c : Hd fa fn ex xs K mg) : FnOk P w K mg base CX0 1 (a_Service_most_down K) (fdOf K (a_Service_most_down K)) P_Service_most_down (sp_down K) := by
  refine (fd_Service_most_down c).ok sc_Service_most_down (fun vs H Q E h => ?_) (fun cdv A outer s H vs Q E hr h => ?_)
  · obtain ⟨a, dx, d, u, rfl, _⟩ := h
    rfl
  · obtain ⟨a, dx, d, u, rfl, ha, q⟩ := h
    refine ⟨_, PSs.nox (pss_one (ps_ret (pe_fld (pv 0) rfl))), ?_⟩
    have led := Led.startO ha
    walk_at "L"
    exact q
theorem ok_Service_least_up (c : Hd fa fn ex xs K mg) : FnOk P w K mg base CX0 1 (a_Service_least_up K) (fdOf K (a_Service_least_up K)) P_Service_least_up (sp_up K) := by
  refine (fd_Service_least_up c).ok sc_Service_least_up (fun vs H Q E h => ?_) (fun cdv A outer s H vs Q E hr h => ?_)
  · obtain ⟨a, dx, d, u, rfl, _⟩ := h
    rfl
  · obtain ⟨a, dx, d, u, rfl, ha, q⟩ := h
    refine ⟨_, PSs.nox (pss_one (ps_ret (pe_fld (pv 0) rfl))), ?_⟩
    have led := Led.startO ha
    walk_at "L"
    exact q
theorem ok_Service_init (c : Hd fa fn ex xs K mg) : FnOk P w K mg base (L2.CX P w) 3 (a_Service_init K) (fdOf K (a_Service_init K)) P_Service_init (sp_init K) := by
  refine (fd_Service_init c).ok sc_Service_init (fun vs H Q E h => ?_) (fun cdv A outer s H vs Q E hr h => ?_)
  · obtain ⟨x, dx, d, u, T1, T2, rfl, _⟩ := h
    rfl
  · obtain ⟨x, dx, d, u, T1, T2, rfl, k1, k2, n1, n2, hx, q1, q2, q3⟩ := h
    refine ⟨_, (pss_cons (ps_if (PW.pt (pw_and (pt_cmpR op_notN1 (pv 1) pe_non (nomark _)) (pw_and1 (pt_not (pt_val (pe_call (ok_is_integer c) (hr.mono (by decide)) rfl (mg_is_integer c) (fd_is_integer c).kp (bd_is_integer c) .nil pass0 (pa_cons (pv 1) (pa_cons pe_int (pa_cons (pe_gint (c_MOST_services c)) pa_nil))))))))) (pss_one (ps_raise rfl (takes_of rfl rfl rfl rfl) (pmk_x (xc_InvalidInteger c) hr (pa_cons (pv 1) pa_nil)))) pss_nil)
      (pss_cons (ps_if (pt_not (pt_val (pe_call (ok_is_integer c) (hr.mono (by decide)) rfl (mg_is_integer c) (fd_is_integer c).kp (bd_is_integer c) .nil pass0 (pa_cons (pv 2) (pa_cons pe_int (pa_cons (pe_gint (c_MOST_services c)) pa_nil)))))) (pss_one (ps_raise rfl (takes_of rfl rfl rfl rfl) (pmk_x (xc_InvalidInteger c) hr (pa_cons (pv 2) pa_nil)))) pss_nil)
      (pss_cons (ps_fld (pv 0) (pv 1) rfl)
      (pss_one (ps_fld (pv 0) (pv 2) rfl))))), ?_⟩
    have led := Led.startO hx
    walk_at "L"
    have hd1 : ∀ {Hc : Hp} {R : List (Addr × HO)}, Led H [x] Hc none R → Kd Hc d T1 := fun l => l.kd k1 fun b hb => by rw [List.mem_singleton.mp hb]; exact n1
    have hu1 : ∀ {Hc : Hp} {R : List (Addr × HO)}, Led H [x] Hc none R → Kd Hc u T2 := fun l => l.kd k2 fun b hb => by rw [List.mem_singleton.mp hb]; exact n2
    have second : okd d = true → tIfS (tNot (tB (tCall sp_is_integer [] E0 (tCons (tVar 2) (tCons (tC (V.int 1)) (tCons (tC (V.int 8)) tNil)))))) = tIfS (tNot (tB (tCall sp_is_integer [] E0 (tCons (tVar 2) (tCons (tC (V.int 1)) (tCons (tC (V.int 8)) tNil)))))) := fun _ => rfl
    refine i_notN ?_
    walk_at "L"
    by_cases hd : d = .non
    · subst hd
      refine i_isF rfl ?_
      walk_at "L"
      cases e : isI u 1 8 with
      | false =>
        refine i_isT rfl ?_
        walk_at "L"
        exact q3 rfl e _ _ led.hd
      | true =>
        refine i_isF rfl ?_
        walk_at "L"
        exact q1 rfl e _ led
    · refine i_isT (by rw [decide_eq_false hd]; rfl) ?_
      walk_at "L"
      have od : okd d = isI d 1 8 := by
        unfold okd
        rw [decide_eq_false hd, Bool.false_or]
      rw [od] at q1 q2 q3
      cases e1 : isI d 1 8 with
      | false =>
        refine i_isT rfl ?_
        walk_at "L"
        exact q2 e1 _ _ led.hd
      | true =>
        refine i_isF rfl ?_
        walk_at "L"
        cases e : isI u 1 8 with
        | false =>
          refine i_isT rfl ?_
          walk_at "L"
          exact q3 e1 e _ _ led.hd
        | true =>
          refine i_isF rfl ?_
          walk_at "L"
          exact q1 e1 e _ led
end

end K22
namespace K22
open PySem PySem.Spec PyProof.Rows L2 G
section
variable {K : PySem.W.Frag} {mg : Str → Option Value}
theorem kb_Service_init_3_ (c : Hd fa fn ex xs K mg) : KBx K (fdOf K (a_Service_init K)) P_Service_init 3 [] (gp3 [0, 1, 2] [.non, .int 1]) := kbx_dfl (fd_Service_init c) 3 [] [0, 1, 2] (by simp) fun _ _ _ _ _ _ _ us its ws h1 h2 h3 => match us, h1, its, h2, ws, h3 with | [_, _, _], _, [_, _], _, [], _ => ⟨_, rfl, rfl⟩
end
set_option maxHeartbeats 300000
/-- a bound as a value -/
def fmtV : V → Str
  | .non => "None"
  | .int i => toString i
  | _ => ""
def reprS (d u : V) : Str := ((((Str.empty ++ "Service(") ++ fmtV d) ++ ", ") ++ fmtV u) ++ ")"
def sp_eq (K : PySem.W.Frag) : Sp := fun vs H Q _ => ∃ (a dx : Addr) (d u y : V), vs = [.ref a, y] ∧ H a = some (svO K dx d u) ∧
  ((∃ (b dx' : Addr) (d' u' : V), y = .ref b ∧ H b = some (svO K dx' d' u') ∧ scal d d' = true ∧ scal u u' = true ∧ Q (.bl (decide (d = d') && decide (u = u'))) H) ∨ (∃ T, Kd H y T ∧ Q (.bl false) H))
def sp_refuse (K : PySem.W.Frag) : Sp := fun vs H _ E => ∃ (a dx : Addr) (d u y : V) (T : String), vs = [.ref a, y] ∧ H a = some (svO K dx d u) ∧ Kd H y T ∧ ∀ e H', Led H [] H' none [(e, xO y)] → E (.ref (cSrv K)) (some e) H'
def sp_str (K : PySem.W.Frag) : Sp := fun vs H Q _ => ∃ (a dx : Addr) (d u : V), vs = [.ref a] ∧ H a = some (svO K dx d u) ∧ okd d = true ∧ isI u 1 8 = true ∧ ∀ z, Q (.str z) H
def sp_repr (K : PySem.W.Frag) : Sp := fun vs H Q _ => ∃ (a dx : Addr) (d u : V), vs = [.ref a] ∧ H a = some (svO K dx d u) ∧ okd d = true ∧ isI u 1 8 = true ∧ Q (.str (reprS d u)) H
theorem okd_cases {d : V} (h : okd d = true) : d = .non ∨ ∃ i : Int, d = .int i ∧ 1 ≤ i ∧ i ≤ 8 := by
  unfold okd at h
  rcases Bool.or_eq_true_iff.mp h with h | h
  · exact .inl (of_decide_eq_true h)
  · exact .inr (isI_int h)
theorem dig1 {i : Int} (h1 : 1 ≤ i) (h2 : i ≤ 8) : (Str.ofString (toString i)).length ≤ 1 ∧ i.natAbs.log2 < 1920 := by
  rcases (by omega : i = 1 ∨ i = 2 ∨ i = 3 ∨ i = 4 ∨ i = 5 ∨ i = 6 ∨ i = 7 ∨ i = 8) with rfl | rfl | rfl | rfl | rfl | rfl | rfl | rfl <;> exact ⟨by decide +kernel, by decide +kernel⟩
theorem len_fmt {d : V} (h : okd d = true) : (fmtV d).length ≤ 4 := by
  rcases okd_cases h with rfl | ⟨i, rfl, h1, h2⟩
  · decide +kernel
  · exact Nat.le_trans (dig1 h1 h2).1 (by decide)
theorem i_fmtV {d : V} {H : Hp} {Q : VK} (h : okd d = true) (q : Q (.str (fmtV d)) H) : AtFmt d H Q := by
  rcases okd_cases h with rfl | ⟨i, rfl, h1, h2⟩
  · exact fmt_non q
  · exact fmt_int (dig1 h1 h2).2 q
theorem okd_u {u : V} (h : isI u 1 8 = true) : okd u = true := by
  unfold okd
  rw [h, Bool.or_true]
theorem lenK {x y : Str} {n m : Nat} (h1 : x.length ≤ n) (h2 : y.length ≤ m) (h : n + m ≤ 1000) : (x ++ y).length ≤ sizeLine := by
  rw [len_app]
  exact Nat.le_trans (Nat.add_le_add h1 h2) (Nat.le_trans h (by decide))
theorem lenP {x y : Str} {n m : Nat} (h1 : x.length ≤ n) (h2 : y.length ≤ m) : (x ++ y).length ≤ n + m := by
  rw [len_app]
  exact Nat.add_le_add h1 h2
section
variable {w : World} {K : PySem.W.Frag} {mg : Str → Option Value} {base : Heap}
theorem ok_Service_eq (c : Hd fa fn ex xs K mg) : FnOk P w K mg base CX0 1 (a_Service_eq K) (fdOf K (a_Service_eq K)) P_Service_eq (sp_eq K) := by
  refine (fd_Service_eq c).ok sc_Service_eq (fun vs H Q E h => ?_) (fun cdv A outer s H vs Q E hr h => ?_)
  · obtain ⟨a, dx, d, u, y, rfl, _⟩ := h
    rfl
  · obtain ⟨a, dx, d, u, y, rfl, ha, h⟩ := h
    refine ⟨_, PSs.nox (pss_one (ps_ret (pe_and (pe_callB call_isi rfl (fr_isinstance c) (by decide +kernel) (pa_cons (pv 1) (pa_cons (pe_glob (v := .ref _) rfl (mg_Service c) rfl) pa_nil))) (pe_and (pe_cmpR op_eq (pe_fld (pv 0) rfl) (pe_fld (pv 1) rfl) (nomark _)) (pe_one (pe_cmpR op_eq (pe_fld (pv 0) rfl) (pe_fld (pv 1) rfl) (nomark _))))))), ?_⟩
    have led : Led H [] H none [] := .start
    rcases h with ⟨b, dx', d', u', rfl, hb, s1, s2, q⟩ | ⟨T, kd, q⟩
    · walk_at "L"
      refine i_isiY (cf_Service c) (cl_Service c) hb ?_
      walk_at "L"
      refine i_atFld (K := K) ha (cl_Service c) (na_Service_own_down c) (by walk_at "lk") ?_
      walk_at "L"
      refine i_atFld (K := K) hb (cl_Service c) (na_Service_own_down c) (by walk_at "lk") ?_
      refine i_eq s1 ?_
      walk_at "L"
      by_cases h1 : d = d'
      · refine i_isT (decide_eq_true h1) ?_
        walk_at "L"
        refine i_atFld (K := K) ha (cl_Service c) (na_Service_own_up c) (by walk_at "lk") ?_
        walk_at "L"
        refine i_atFld (K := K) hb (cl_Service c) (na_Service_own_up c) (by walk_at "lk") ?_
        refine i_eq s2 ?_
        rw [decide_eq_true h1, Bool.true_and] at q
        exact q
      · refine i_isF (decide_eq_false h1) ?_
        rw [decide_eq_false h1, Bool.false_and] at q
        exact q
    · walk_at "L"
      refine i_isiN (cf_Service c) kd ?_
      walk_at "L"
      exact q
theorem ok_Service_and (c : Hd fa fn ex xs K mg) : FnOk P w K mg base (L2.CX P w) 5 (a_Service_and K) (fdOf K (a_Service_and K)) P_Service_and (sp_refuse K) := by
  refine (fd_Service_and c).ok sc_Service_and (fun vs H Q E h => ?_) (fun cdv A outer s H vs Q E hr h => ?_)
  · obtain ⟨a, dx, d, u, y, T, rfl, _⟩ := h
    rfl
  · obtain ⟨a, dx, d, u, y, T, rfl, ha, kd, q⟩ := h
    refine ⟨_, (pss_cons (ps_if (pt_not (pt_val (pe_callB call_isi rfl (fr_isinstance c) (by decide +kernel) (pa_cons (pv 1) (pa_cons (pe_glob (v := .ref _) rfl (mg_Service c) rfl) pa_nil))))) (pss_one (ps_raise rfl (takes_of rfl rfl rfl rfl) (pmk_x (xc_InvalidService c) hr (pa_cons (pv 1) pa_nil)))) pss_nil)
      (pss_cons (ps_set (i := 2) sc_Service_and.nd rfl (Or.inl rfl) (pe_fld (pv 0) rfl))
      (pss_cons (ps_if (PW.pt (pw_or (pt_cmpR op_isN1 (pv 2) pe_non (nomark _)) (pw_or1 (PW.pt (pw_and (pt_cmpR op_notN1 (pe_fld (pv 1) rfl) pe_non (nomark _)) (pw_and1 (pt_cmpR op_lt (pe_fld (pv 1) rfl) (pv 2) (nomark _)))))))) (pss_one (ps_set (i := 2) sc_Service_and.nd rfl (Or.inl rfl) (pe_fld (pv 1) rfl))) pss_nil)
      (pss_one (ps_ret (pe_makeU (mk_Service c) (ok_Service_init c) (hr.mono (by decide)) rfl (mg_Service c) (kb_Service_init_3_ c) (fun σ => passAt (takes_of rfl rfl rfl rfl) σ) (pa_cons (pv 2) (pa_cons (pe_callB (call_max2 rfl) rfl (fr_max c) (by decide +kernel) (pa_cons (pe_callTy call_int_str rfl (fr_int c) (by decide +kernel) (pa_cons (pe_fld (pv 0) rfl) pa_nil)) (pa_cons (pe_fld (pv 1) rfl) pa_nil))) pa_nil)) pk_nil)))))), ?_⟩
    have led : Led H [] H none [] := .start
    walk_at "L"
    refine i_isiN (cf_Service c) kd ?_
    walk_at "L"
    exact q _ _ led
theorem ok_Service_implies (c : Hd fa fn ex xs K mg) : FnOk P w K mg base (L2.CX P w) 3 (a_Service_implies K) (fdOf K (a_Service_implies K)) P_Service_implies (sp_refuse K) := by
  refine (fd_Service_implies c).ok sc_Service_implies (fun vs H Q E h => ?_) (fun cdv A outer s H vs Q E hr h => ?_)
  · obtain ⟨a, dx, d, u, y, T, rfl, _⟩ := h
    rfl
  · obtain ⟨a, dx, d, u, y, T, rfl, ha, kd, q⟩ := h
    refine ⟨_, (pss_cons (ps_if (pt_not (pt_val (pe_callB call_isi rfl (fr_isinstance c) (by decide +kernel) (pa_cons (pv 1) (pa_cons (pe_glob (v := .ref _) rfl (mg_Service c) rfl) pa_nil))))) (pss_one (ps_raise rfl (takes_of rfl rfl rfl rfl) (pmk_x (xc_InvalidService c) hr (pa_cons (pv 1) pa_nil)))) pss_nil)
      (pss_cons (ps_if (PW.pt (pw_and (pt_cmpR op_notN1 (pe_fld (pv 1) rfl) pe_non (nomark _)) (pw_and1 (PW.pt (pw_or (pt_cmpR op_isN1 (pe_fld (pv 0) rfl) pe_non (nomark _)) (pw_or1 (pt_cmpR op_gt (pe_fld (pv 0) rfl) (pe_fld (pv 1) rfl) (nomark _)))))))) (pss_one (ps_ret pe_bl)) pss_nil)
      (pss_one (ps_ret (pe_cmpR op_ge (pe_fld (pv 0) rfl) (pe_fld (pv 1) rfl) (nomark _)))))), ?_⟩
    have led : Led H [] H none [] := .start
    walk_at "L"
    refine i_isiN (cf_Service c) kd ?_
    walk_at "L"
    exact q _ _ led
theorem ok_Service_repr (c : Hd fa fn ex xs K mg) : FnOk P w K mg base CX0 1 (a_Service_repr K) (fdOf K (a_Service_repr K)) P_Service_repr (sp_repr K) := by
  refine (fd_Service_repr c).ok sc_Service_repr (fun vs H Q E h => ?_) (fun cdv A outer s H vs Q E hr h => ?_)
  · obtain ⟨a, dx, d, u, rfl, _⟩ := h
    rfl
  · obtain ⟨a, dx, d, u, rfl, ha, od, ou, q⟩ := h
    refine ⟨_, PSs.nox (pss_one (ps_ret (pe_joined (PJ.cons pe_str (PJ.cons (pe_fmtN (pe_fld (pv 0) rfl)) (PJ.cons pe_str (PJ.cons (pe_fmtN (pe_fld (pv 0) rfl)) (PJ.cons pe_str PJ.nil)))))))), ?_⟩
    have led := Led.startO ha
    have l0 : (Str.empty ++ Str.ofString "Service(").length ≤ 8 := by decide +kernel
    have l1 := lenP l0 (len_fmt od)
    have l2 := lenP l1 (show (Str.ofString ", ").length ≤ 2 by decide +kernel)
    have l3 := lenP l2 (len_fmt (okd_u ou))
    walk_at "L"
    refine i_atJs (Nat.le_trans l0 (by decide)) ?_
    walk_at "L"
    refine i_fmtV od ?_
    refine i_atJs (Nat.le_trans l1 (by decide)) ?_
    walk_at "L"
    refine i_atJs (Nat.le_trans l2 (by decide)) ?_
    walk_at "L"
    refine i_fmtV (okd_u ou) ?_
    refine i_atJs (Nat.le_trans l3 (by decide)) ?_
    walk_at "L"
    refine i_atJs (lenK l3 (show (Str.ofString ")").length ≤ 1 by decide +kernel) (by decide)) ?_
    walk_at "L"
    exact q
theorem ok_Service_str (c : Hd fa fn ex xs K mg) : FnOk P w K mg base CX0 1 (a_Service_str K) (fdOf K (a_Service_str K)) P_Service_str (sp_str K) := by
  refine (fd_Service_str c).ok sc_Service_str (fun vs H Q E h => ?_) (fun cdv A outer s H vs Q E hr h => ?_)
  · obtain ⟨a, dx, d, u, rfl, _⟩ := h
    rfl
  · obtain ⟨a, dx, d, u, rfl, ha, od, ou, q⟩ := h
    refine ⟨_, PSs.nox (pss_cons (ps_set (i := 1) sc_Service_str.nd rfl (Or.inl rfl) (pe_ifExp (pt_cmpR op_isN1 (pe_fld (pv 0) rfl) pe_non (nomark _)) pe_str (pe_callTy call_str_int rfl (fr_str c) (by decide +kernel) (pa_cons (pe_fld (pv 0) rfl) pa_nil))))
      (pss_one (ps_ret (pe_joined (PJ.cons (pe_fmtN (pv 1)) (PJ.cons pe_str (PJ.cons (pe_fmtN (pe_fld (pv 0) rfl)) PJ.nil))))))), ?_⟩
    have led := Led.startO ha
    rcases okd_cases od with rfl | ⟨i, rfl, h1, h2⟩
    · have l1 : (Str.empty ++ Str.ofString "-").length ≤ 1 := by decide +kernel
      have l2 := lenP l1 (show (Str.ofString " ").length ≤ 1 by decide +kernel)
      walk_at "L"
      refine fmt_str (by decide +kernel) ?_
      refine i_atJs (Nat.le_trans l1 (by decide)) ?_
      walk_at "L"
      refine i_atJs (Nat.le_trans l2 (by decide)) ?_
      walk_at "L"
      refine i_fmtV (okd_u ou) ?_
      refine i_atJs (lenK l2 (len_fmt (okd_u ou)) (by decide)) ?_
      walk_at "L"
      exact q _
    · have l1 := lenP (show Str.empty.length ≤ 0 by decide +kernel) (dig1 h1 h2).1
      have l2 := lenP l1 (show (Str.ofString " ").length ≤ 1 by decide +kernel)
      walk_at "L"
      refine ⟨i, rfl, (dig1 h1 h2).2, ?_⟩
      walk_at "L"
      refine fmt_str (Nat.le_trans (dig1 h1 h2).1 (by decide)) ?_
      refine i_atJs (Nat.le_trans l1 (by decide)) ?_
      walk_at "L"
      refine i_atJs (Nat.le_trans l2 (by decide)) ?_
      walk_at "L"
      refine i_fmtV (okd_u ou) ?_
      refine i_atJs (lenK l2 (len_fmt (okd_u ou)) (by decide)) ?_
      walk_at "L"
      exact q _
end

end K22
namespace K22
open PySem PySem.Spec PyProof.Rows L2 G
section
variable {P : Program} {w : World} {K : PySem.W.Frag} {mg : Str → Option Value} {base : Heap}
theorem ok_l_cell (c : Hd fa fn ex xs K mg) : FnOk P w K mg base CX0 1 (a_l_cell K) (fdOf K (a_l_cell K)) P_l_cell (sp_l_cell K) := by
  refine (fd_l_cell c).ok sc_l_cell (fun vs H Q E h => ?_) (fun cdv A outer s H vs Q E hr h => ?_)
  · obtain ⟨a, ns, j, rfl, _⟩ := h
    rfl
  · obtain ⟨a, ns, j, rfl, hs, hj, k⟩ := h
    refine ⟨_, PSs.nox (pss_cons (ps_if (pt_cmpR op_lt (pv 1) (pe_callB call_len rfl (fr_len c) (by decide +kernel) (pa_cons (pv 0) pa_nil)) (nomark _)) (pss_one (ps_ret (pe_ix ix_list (pv 0) (pv 1) (fun _ _ => rfl)))) pss_nil)
      (pss_one (ps_ret (pe_op op_add (pe_op op_mul pe_int (pv 1)) pe_int)))), ?_⟩
    walk_at "S"
    refine ⟨_, _, rfl, .inl ⟨_, hs, rfl⟩, ?_⟩
    walk_at "S"
    refine i_dec (fun hx => ?_) (fun hx => ?_)
    · walk_at "S"
      rw [List.length_map] at hx
      have hlt : j.toNat < ns.length := by omega
      refine i_ixL hs (v := .int ns[j.toNat]) (by simp [atI, ixN, hj, hx, hlt]) ?_
      exact k _
    · walk_at "S"
      refine i_I (.inl ⟨by decide, by decide⟩) ?_
      walk_at "S"
      exact k _

theorem ok_l_box (c : Hd fa fn ex xs K mg) : FnOk P w K mg base CX0 1 (a_l_box K) (fdOf K (a_l_box K)) P_l_box sp_l_box := by
  refine (fd_l_box c).ok sc_l_box (fun vs H Q E h => ?_) (fun cdv A outer s H vs Q E hr h => ?_)
  · obtain ⟨i, rfl, _⟩ := h
    rfl
  · obtain ⟨i, rfl, k⟩ := h
    refine ⟨_, PSs.nox (pss_one (ps_ret (pe_lst (pa_cons (pe_callB (call_max2 rfl) rfl (fr_max c) (by decide +kernel) (pa_cons pe_int (pa_cons (pe_op op_sub (pv 0) (pe_op op_pow pe_int pe_int)) pa_nil))) (pa_cons (pe_op op_mod (pv 0) pe_int) (pa_cons pe_int pa_nil)))))), ?_⟩
    walk_at "S"
    refine i_I ⟨by decide, by decide, by decide⟩ ?_
    walk_at "S"
    refine i_I (by decide) ?_
    walk_at "S"
    refine ⟨few, fun p hp => ?_⟩
    exact k p _ hp ⟨_, _, _, rfl, Int.emod_nonneg _ (by decide), Int.lt_of_lt_of_le (Int.emod_lt_of_pos _ (by decide)) (by decide), by decide, by decide⟩

theorem ok_l_take (c : Hd fa fn ex xs K mg) : FnOk P w K mg base CX0 1 (a_l_take K) (fdOf K (a_l_take K)) P_l_take sp_l_take := by
  refine (fd_l_take c).ok sc_l_take (fun vs H Q E h => ?_) (fun cdv A outer s H vs Q E hr h => ?_)
  · obtain ⟨a, m, n, rfl, _⟩ := h
    rfl
  · obtain ⟨a, m, n, rfl, ⟨o, ho, x, y, z, rfl, hy, hy2, hz, hz2⟩, hn, hm, hm2, k⟩ := h
    refine ⟨_, PSs.nox (pss_cons (ps_if (pt_cmpR op_gt (pe_ix ix_list (pv 0) pe_int (fun _ _ => rfl)) pe_int (nomark _)) (pss_cons (ps_set (i := 2) sc_l_take.nd rfl (Or.inl rfl) (pe_op op_mod (pe_ix ix_list (pv 0) pe_int (fun _ _ => rfl)) (pv 1)))
      (pss_cons (ps_asg (pe_op op_fdiv (pe_ix ix_list (pv 0) pe_int (fun _ _ => rfl)) (pv 1)) (pg_sub (pv 0) pe_int set_list))
      (pss_one (ps_ret (pv 2))))) pss_nil)
      (pss_cons (ps_asg (pe_op op_add (pe_ix ix_list (pv 0) pe_int (fun _ _ => rfl)) pe_int) (pg_sub (pv 0) pe_int set_list))
      (pss_cons (ps_set (i := 3) sc_l_take.nd rfl (Or.inl rfl) (pe_op op_mod (pe_op op_add (pe_op op_add (pe_op op_mul (pe_ix ix_list (pv 0) pe_int (fun _ _ => rfl)) pe_int) (pe_op op_mul pe_int (pe_ix ix_list (pv 0) pe_int (fun _ _ => rfl)))) pe_int) pe_int))
      (pss_cons (ps_asg (pe_op op_mod (pe_op op_add (pe_op op_pow (pv 3) pe_int) (pe_op op_mul pe_int (pe_ix ix_list (pv 0) pe_int (fun _ _ => rfl)))) pe_int) (pg_sub (pv 0) pe_int set_list))
      (pss_one (ps_ret (pe_op op_mod (pe_op op_fdiv (pe_ix ix_list (pv 0) pe_int (fun _ _ => rfl)) pe_int) (pv 1)))))))), ?_⟩
    walk_at "S"
    refine i_ixL (SqL.of ho) rfl ?_
    walk_at "S"
    refine i_dec (fun hx => ?_) (fun hx => ?_)
    · walk_at "S"
      refine i_ixL (SqL.of ho) rfl ?_
      walk_at "S"
      refine i_I hm ?_
      walk_at "S"
      refine i_ixL (SqL.of ho) rfl ?_
      walk_at "S"
      refine i_I ⟨hm, hm2⟩ ?_
      walk_at "S"
      refine i_setL ho rfl ?_
      walk_at "S"
      exact k _ _ (Int.emod_nonneg _ (by omega)) (Int.emod_lt_of_pos _ hm) ⟨_, y, z, rfl, hy, hy2, hz, by omega⟩
    · walk_at "S"
      refine i_ixL (SqL.of ho) rfl ?_
      walk_at "S"
      refine i_setL ho rfl ?_
      walk_at "S"
      refine i_ixL (SqL.of upd_same) rfl ?_
      walk_at "S"
      refine i_I (.inr ⟨by decide, by decide⟩) ?_
      walk_at "S"
      refine i_ixL (SqL.of upd_same) rfl ?_
      walk_at "S"
      refine i_I (.inl ⟨by decide, by decide⟩) ?_
      walk_at "S"
      refine i_I (by decide) ?_
      walk_at "S"
      generalize e1e : (_ : Int) % 2147483647 = e1
      have h1 : 0 ≤ e1 := by rw [← e1e]; exact Int.emod_nonneg _ (by decide)
      have h2 : e1 < 2147483647 := by rw [← e1e]; exact Int.emod_lt_of_pos _ (by decide)
      clear e1e
      refine i_I ⟨by decide, by decide, by omega⟩ ?_
      walk_at "S"
      refine i_ixL (SqL.of upd_same) rfl ?_
      walk_at "S"
      refine i_I (.inl ⟨by decide, by decide⟩) ?_
      walk_at "S"
      refine i_I (by decide) ?_
      walk_at "S"
      generalize e2e : (_ : Int) % 2147483647 = e2
      have g1 : 0 ≤ e2 := by rw [← e2e]; exact Int.emod_nonneg _ (by decide)
      have g2 : e2 < 2147483647 := by rw [← e2e]; exact Int.emod_lt_of_pos _ (by decide)
      clear e2e
      refine i_setL upd_same rfl ?_
      walk_at "S"
      refine i_ixL (SqL.of upd_same) rfl ?_
      walk_at "S"
      refine i_I ⟨by decide, by decide⟩ ?_
      walk_at "S"
      refine i_I hm ?_
      rw [upd_upd]
      exact k _ _ (Int.emod_nonneg _ (by omega)) (Int.emod_lt_of_pos _ hm) ⟨x, e2, z + 1, rfl, g1, g2, by omega, by omega⟩

end
def sp_l_bounds : Sp := fun vs H Q _ => ∃ (a : Addr) (n : Nat), vs = [.ref a] ∧ BoxAt n H a ∧ n ≤ 900000 ∧ ∀ (p : Addr) (d u : V) (H' : Hp), okd d = true → isI u 1 8 = true → Led H [a] H' (some (a, n + 4)) [(p, .tup [d, u])] → Q (.ref p) H'
def sp_l_isb : Sp := fun vs H Q _ => ∃ (v : V) (T : String), vs = [v] ∧ Kd H v T ∧ Q (.bl (isI v 1 8)) H
def dueL (d u : V) : List V := if okd d = true then (if isI u 1 8 = true then [.str "made", d, u] else [.str "refused", u]) else [.str "refused", d]
def sp_l_due : Sp := fun vs H Q _ => ∃ (d u : V) (T1 T2 : String), vs = [d, u] ∧ Kd H d T1 ∧ Kd H u T2 ∧ ∀ p H', Led H [] H' none [(p, .lst (dueL d u))] → Q (.ref p) H'
section
variable {H0 H H' : Hp} {M : List Addr} {B : Option (Addr × Nat)} {R : List (Addr × HO)} {Q : VK} {K : PySem.W.Frag} {E : XK} {d u v : V} {T1 T2 T : String} {a dx : Addr}
theorem i_service {N m : Nat} {gV : List V → List V → List V} {vs zs : List V} (led : Led H0 M H B R) (k1 : Kd H d T1) (k2 : Kd H u T2) (h1 : vs.length = N) (h2 : zs.length = m) (e : ∀ x, gV (.ref x :: vs) zs = [.ref x, d, u])
    (q1 : okd d = true → isI u 1 8 = true → ∀ x dx H', Led H0 M H' B ((x, svO K dx d u) :: R) → Q (.ref x) H')
    (q2 : okd d = false → ∀ e H', Led H0 M H' B ((e, xO d) :: R) → E (.ref (cInt K)) (some e) H')
    (q3 : okd d = true → isI u 1 8 = false → ∀ e H', Led H0 M H' B ((e, xO u) :: R) → E (.ref (cInt K)) (some e) H') : NewM (cS K) N m (sp_init K) gV E vs zs H Q := by
  refine ⟨h1, h2, fun x dx hx hd ne => ?_⟩
  rw [e x]
  have l1 := led_made0 (C := cS K) led hx hd ne
  have hx1 : upd H dx (.own x) x = none := by rw [upd_ne (Ne.symm ne)]; exact hx
  have s : Same H (upd (upd H dx (.own x)) x (.ins (cS K) dx [])) := G.Same.new (same_new hd) hx1
  have nn : ∀ {v : V} {T : String}, Kd H v T → v ≠ .ref x := fun k z => by
    subst z
    cases k with
    | lst e => rw [hx] at e; cases e
    | tup e => rw [hx] at e; cases e
    | dct e => rw [hx] at e; cases e
  exact ⟨x, dx, d, u, T1, T2, rfl, k1.same s, k2.same s, nn k1, nn k2, upd_same, fun o1 o2 H' k => ⟨rfl, q1 o1 o2 x dx H' (l1.compH k)⟩, fun o1 e H' k => q2 o1 e H' (l1.compH k), fun o1 o2 e H' k => q3 o1 o2 e H' (l1.compH k)⟩
/-- good bounds -/
theorem i_serviceG {N m : Nat} {gV : List V → List V → List V} {vs zs : List V} (led : Led H0 M H B R) (o1 : okd d = true) (o2 : isI u 1 8 = true) (h1 : vs.length = N) (h2 : zs.length = m) (e : ∀ x, gV (.ref x :: vs) zs = [.ref x, d, u])
    (q1 : ∀ x dx H', Led H0 M H' B ((x, svO K dx d u) :: R) → Q (.ref x) H') : NewM (cS K) N m (sp_init K) gV E vs zs H Q := by
  obtain ⟨i, rfl, _⟩ := isI_int o2
  have k1 : ∃ T, Kd H d T := by
    rcases okd_cases o1 with rfl | ⟨j, rfl, _⟩
    · exact ⟨_, .non⟩
    · exact ⟨_, .int j⟩
  obtain ⟨T, k1⟩ := k1
  exact i_service led k1 (.int i) h1 h2 e (fun _ _ => q1) (fun z => by rw [o1] at z; cases z) (fun _ z => by rw [o2] at z; cases z)
theorem i_down (led : Led H0 M H B R) (h : (a, svO K dx d u) ∈ R) (q : Q d H) : sp_down K [.ref a] H Q E := ⟨a, dx, d, u, rfl, led.get h, q⟩
theorem i_up (led : Led H0 M H B R) (h : (a, svO K dx d u) ∈ R) (q : Q u H) : sp_up K [.ref a] H Q E := ⟨a, dx, d, u, rfl, led.get h, q⟩
theorem i_isb (k : Kd H v T) (q : Q (.bl (isI v 1 8)) H) : sp_l_isb [v] H Q E := ⟨v, T, rfl, k, q⟩
theorem i_due (led : Led H0 M H B R) (k1 : Kd H d T1) (k2 : Kd H u T2) (q : ∀ p H', Led H0 M H' B ((p, .lst (dueL d u)) :: R) → Q (.ref p) H') : sp_l_due [d, u] H Q E := ⟨d, u, T1, T2, rfl, k1, k2, fun p H' k => q p H' (led.comp0 k)⟩
theorem i_bounds {b : Addr} {n : Nat} (led : Led H0 M H (some (b, n)) R) (hn : n ≤ 900000) (q : ∀ p d u H', okd d = true → isI u 1 8 = true → Led H0 M H' (some (b, n + 4)) ((p, .tup [d, u]) :: R) → Q (.ref p) H') : sp_l_bounds [.ref b] H Q E :=
  ⟨b, n, rfl, led.box, hn, fun p d u H' o1 o2 k => q p d u H' o1 o2 (led.compB k)⟩
end
set_option hygiene false
local macro_rules | `(tactic| walk_at "kd") => `(tactic| first | with_reducible exact .int _ | with_reducible exact .non | with_reducible exact .bl _ | with_reducible exact .str _ | with_reducible assumption | with_reducible exact led.kd0 (by assumption) | exact .lst (led.get (by walk_at "in")) | exact .tup (led.get (by walk_at "in")) | exact .dct (led.get (by walk_at "in")))
local macro_rules | `(tactic| walk_at "fn") => `(tactic| first
  | ((with_reducible show G.sp_is_integer _ _ _ _); refine G.i_isint (by walk_at "kd") ?_)
  | ((with_reducible show sp_down _ _ _ _ _); refine i_down led (by walk_at "in") ?_)
  | ((with_reducible show sp_up _ _ _ _ _); refine i_up led (by walk_at "in") ?_)
  | ((with_reducible show sp_l_isb _ _ _ _); refine i_isb (by walk_at "kd") ?_))
set_option hygiene true
section
variable {w : World} {K : PySem.W.Frag} {mg : Str → Option Value} {base : Heap}
theorem ok_l_bounds (c : Hd fa fn ex xs K mg) : FnOk P w K mg base CX0 2 (a_l_bounds K) (fdOf K (a_l_bounds K)) P_l_bounds sp_l_bounds := by
  refine (fd_l_bounds c).ok sc_l_bounds (fun vs H Q E h => ?_) (fun cdv A outer s H vs Q E hr h => ?_)
  · obtain ⟨a, n, rfl, _⟩ := h
    rfl
  · obtain ⟨a, n, rfl, hb, hn, k⟩ := h
    refine ⟨_, PSs.nox (pss_one (ps_ret (pe_tup (pa_cons (pe_ix ix_list (pe_lst (pa_cons pe_non (pa_cons pe_int (pa_cons pe_int (pa_cons (pe_op op_add pe_int (pe_call (ok_l_take c) (hr.mono (by decide)) rfl (mg_l_take c) (fd_l_take c).kp (bd_l_take c) .nil pass0 (pa_cons (pv 0) (pa_cons pe_int pa_nil)))) pa_nil))))) (pe_call (ok_l_take c) (hr.mono (by decide)) rfl (mg_l_take c) (fd_l_take c).kp (bd_l_take c) .nil pass0 (pa_cons (pv 0) (pa_cons pe_int pa_nil))) (fun _ _ => rfl)) (pa_cons (pe_ix ix_list (pe_lst (pa_cons pe_int (pa_cons pe_int (pa_cons (pe_op op_add pe_int (pe_call (ok_l_take c) (hr.mono (by decide)) rfl (mg_l_take c) (fd_l_take c).kp (bd_l_take c) .nil pass0 (pa_cons (pv 0) (pa_cons pe_int pa_nil)))) pa_nil)))) (pe_call (ok_l_take c) (hr.mono (by decide)) rfl (mg_l_take c) (fd_l_take c).kp (bd_l_take c) .nil pass0 (pa_cons (pv 0) (pa_cons pe_int pa_nil))) (fun _ _ => rfl)) pa_nil))))), ?_⟩
    have led := Led.startB hb
    walk_at "L"
    refine i_menuL (SqL.of (led.get (by walk_at "in"))) hr0 (by exact hr1) fun v hv => ?_
    have hd : okd v = true := by
      simp only [List.mem_cons, List.not_mem_nil, or_false] at hv
      rcases hv with rfl | rfl | rfl | rfl
      · rfl
      · rfl
      · rfl
      · exact okd_u (isI_yes (by omega) (by omega))
    walk_at "L"
    refine i_menuL (SqL.of (led.get (by walk_at "in"))) hr0 (by exact hr1) fun u hu => ?_
    have hu : isI u 1 8 = true := by
      simp only [List.mem_cons, List.not_mem_nil, or_false] at hu
      rcases hu with rfl | rfl | rfl
      · rfl
      · rfl
      · exact isI_yes (by omega) (by omega)
    walk_at "L"
    exact k _ _ _ _ hd hu led.hd
theorem ok_l_is_bound (c : Hd fa fn ex xs K mg) : FnOk P w K mg base CX0 1 (a_l_is_bound K) (fdOf K (a_l_is_bound K)) P_l_is_bound sp_l_isb := by
  refine (fd_l_is_bound c).ok sc_l_is_bound (fun vs H Q E h => ?_) (fun cdv A outer s H vs Q E hr h => ?_)
  · obtain ⟨v, T, rfl, _⟩ := h
    rfl
  · obtain ⟨v, T, rfl, kd, k⟩ := h
    refine ⟨_, PSs.nox (pss_one (ps_ret (pe_and (pe_callB call_isi rfl (fr_isinstance c) (by decide +kernel) (pa_cons (pv 0) (pa_cons (pe_ty (T := "int") (fr_int c) (by decide +kernel)) pa_nil))) (pe_and (pe_not (pe_callB call_isi rfl (fr_isinstance c) (by decide +kernel) (pa_cons (pv 0) (pa_cons (pe_ty (T := "bool") (fr_bool c) (by decide +kernel)) pa_nil)))) (pe_one (pe_chain op_le op_le pe_int (pv 0) pe_int)))))), ?_⟩
    walk_at "S"
    cases kd with
    | int i =>
      refine i_isi (.int i) (b := true) (by decide +kernel) ?_
      walk_at "S"
      refine i_isi (.int i) (b := false) (by decide +kernel) ?_
      walk_at "S"
      refine i_dec (fun h1 => ?_) (fun h1 => ?_)
      · walk_at "S"
        simpa [isI, h1] using k
      · simpa [isI, h1] using k
    | bl b =>
      refine i_isi (.bl b) (b := true) (by decide +kernel) ?_
      walk_at "S"
      refine i_isi (.bl b) (b := true) (by decide +kernel) ?_
      walk_at "S"
      exact k
    | non => exact i_isi .non (b := false) (by decide +kernel) (by walk_at "S"; exact k)
    | str x => exact i_isi (.str x) (b := false) (by decide +kernel) (by walk_at "S"; exact k)
    | lst e => exact i_isi (.lst e) (b := false) (by decide +kernel) (by walk_at "S"; exact k)
    | tup e => exact i_isi (.tup e) (b := false) (by decide +kernel) (by walk_at "S"; exact k)
    | dct e => exact i_isi (.dct e) (b := false) (by decide +kernel) (by walk_at "S"; exact k)
theorem ok_l_due (c : Hd fa fn ex xs K mg) : FnOk P w K mg base CX0 2 (a_l_due K) (fdOf K (a_l_due K)) P_l_due sp_l_due := by
  refine (fd_l_due c).ok sc_l_due (fun vs H Q E h => ?_) (fun cdv A outer s H vs Q E hr h => ?_)
  · obtain ⟨d, u, T1, T2, rfl, _⟩ := h
    rfl
  · obtain ⟨d, u, T1, T2, rfl, k1, k2, q⟩ := h
    refine ⟨_, PSs.nox (pss_cons (ps_if (PW.pt (pw_and (pt_cmpR op_notN1 (pv 0) pe_non (nomark _)) (pw_and1 (pt_not (pt_val (pe_call (ok_l_is_bound c) (hr.mono (by decide)) rfl (mg_l_is_bound c) (fd_l_is_bound c).kp (bd_l_is_bound c) .nil pass0 (pa_cons (pv 0) pa_nil))))))) (pss_one (ps_ret (pe_lst (pa_cons pe_str (pa_cons (pv 0) pa_nil))))) pss_nil)
      (pss_cons (ps_if (pt_not (pt_val (pe_call (ok_l_is_bound c) (hr.mono (by decide)) rfl (mg_l_is_bound c) (fd_l_is_bound c).kp (bd_l_is_bound c) .nil pass0 (pa_cons (pv 1) pa_nil)))) (pss_one (ps_ret (pe_lst (pa_cons pe_str (pa_cons (pv 1) pa_nil))))) pss_nil)
      (pss_one (ps_ret (pe_lst (pa_cons pe_str (pa_cons (pv 0) (pa_cons (pv 1) pa_nil)))))))), ?_⟩
    have led : Led H [] H none [] := .start
    have od : d ≠ .non → okd d = isI d 1 8 := fun h => by
      unfold okd
      rw [decide_eq_false h, Bool.false_or]
    walk_at "L"
    refine i_notN ?_
    walk_at "L"
    by_cases hd : d = .non
    · subst hd
      refine i_isF rfl ?_
      walk_at "L"
      cases e : isI u 1 8 with
      | false =>
        refine i_isT rfl ?_
        walk_at "L"
        refine q _ _ ?_
        rw [show dueL .non u = [.str "refused", u] by simp [dueL, okd, e]]
        exact led
      | true =>
        refine i_isF rfl ?_
        walk_at "L"
        refine q _ _ ?_
        rw [show dueL .non u = [.str "made", .non, u] by simp [dueL, okd, e]]
        exact led
    · have od := od hd
      refine i_isT (by rw [decide_eq_false hd]; rfl) ?_
      walk_at "L"
      cases e1 : isI d 1 8 with
      | false =>
        refine i_isT rfl ?_
        walk_at "L"
        refine q _ _ ?_
        rw [show dueL d u = [.str "refused", d] by simp [dueL, od, e1]]
        exact led
      | true =>
        refine i_isF rfl ?_
        walk_at "L"
        cases e : isI u 1 8 with
        | false =>
          refine i_isT rfl ?_
          walk_at "L"
          refine q _ _ ?_
          rw [show dueL d u = [.str "refused", u] by simp [dueL, od, e1, e]]
          exact led
        | true =>
          refine i_isF rfl ?_
          walk_at "L"
          refine q _ _ ?_
          rw [show dueL d u = [.str "made", d, u] by simp [dueL, od, e1, e]]
          exact led
theorem ok_l_made (c : Hd fa fn ex xs K mg) : FnOk P w K mg base CX0 5 (a_l_made K) (fdOf K (a_l_made K)) P_l_made sp_l_due := by
  refine (fd_l_made c).ok sc_l_made (fun vs H Q E h => ?_) (fun cdv A outer s H vs Q E hr h => ?_)
  · obtain ⟨d, u, T1, T2, rfl, _⟩ := h
    rfl
  · obtain ⟨d, u, T1, T2, rfl, k1, k2, q⟩ := h
    refine ⟨_, PSs.nox (pss_one (ps_tryG rfl rfl (fun W pn xe tk pw => (pss_cons (ps_set (i := 2) sc_l_made.nd rfl (Or.inl rfl) (pe_makeU (mk_Service c) (ok_Service_init c) (hr.mono (by decide)) rfl (mg_Service c) (kb_Service_init_3_ c) (fun σ => passAt tk σ) (pa_cons (pv 0) (pa_cons (pv 1) pa_nil)) pk_nil))
      (pss_one (ps_ret (pe_lst (pa_cons pe_str (pa_cons (pe_prop (pv 2) (cl_Service c) (pr_Service_most_down c) (ok_Service_most_down c) (hr.mono (by decide)) (bd_Service_most_down c) .nil pass0 rfl) (pa_cons (pe_prop (pv 2) (cl_Service c) (pr_Service_least_up c) (ok_Service_least_up c) (hr.mono (by decide)) (bd_Service_least_up c) .nil pass0 rfl) pa_nil)))))))) (HG.as_ (i := 3) sc_l_made.nd rfl rfl ⟨rfl, by decide, Or.inl (xc_InvalidInteger c).gC⟩ (fun a oe cls d pn hz hf => (pss_one (ps_ret (pe_lst (pa_cons pe_str (pa_cons (pe_xf (xc_InvalidInteger c).xf (xc_InvalidInteger c).noF hz hf (pv 3)) pa_nil)))))) (HG.stop _)))), ?_⟩
    have led : Led H [] H none [] := .start
    walk_at "L"
    refine i_service led k1 k2 rfl rfl (fun _ => rfl) (fun o1 o2 => ?_) (fun o1 => ?_) (fun o1 o2 => ?_)
    · clear led
      intro x dx Hc led
      walk_at "L"
      refine q _ _ ?_
      rw [show dueL d u = [.str "made", d, u] by simp [dueL, o1, o2]]
      exact led.hd
    · clear led
      intro e Hc led
      walk_at "L"
      refine q _ _ ?_
      rw [show dueL d u = [.str "refused", d] by simp [dueL, o1]]
      exact led.hd
    · clear led
      intro e Hc led
      walk_at "L"
      refine q _ _ ?_
      rw [show dueL d u = [.str "refused", u] by simp [dueL, o1, o2]]
      exact led.hd
end

end K22
namespace K22
open PySem PySem.Spec PyProof.Rows L2 G
section
variable {K : PySem.W.Frag} {mg : Str → Option Value}
theorem kb_Service_implies_2_ (c : Hd fa fn ex xs K mg) : KBx K (fdOf K (a_Service_implies K)) P_Service_implies 2 [] (gp [0, 1]) := ⟨_, kbn_of (fd_Service_implies c) 2 [] [0, 1] fun _ _ _ _ _ _ us ws h1 h2 => match us, h1, ws, h2 with | [_, _], _, [], _ => rfl⟩
end
def okr (H : Hp) (s : Str) (p : Addr) : Addr × HO := (p, .lst [.str "refused", .str s])
def sp_l_no (K : PySem.W.Frag) : Sp := fun vs H Q _ => ∃ (a dx : Addr) (d u y : V) (T : String) (dy : PyData), vs = [.ref a, y] ∧ H a = some (svO K dx d u) ∧ Kd H y T ∧ Dq K H y dy ∧ Okd 1000 1 dy ∧ PyData.strOk dy.shown = true ∧ ∀ H', Led H [] H' none [] → Q (.bl true) H'
def sp_l_very : Sp := fun vs H Q _ => vs = [] ∧ ∀ H', Led H [] H' none [] → Q (.bl true) H'
section
variable {w : World} {K : PySem.W.Frag} {mg : Str → Option Value} {base : Heap}
theorem ok_l_very_object (c : Hd fa fn ex xs K mg) : FnOk P w K mg base CX0 5 (a_l_very_object K) (fdOf K (a_l_very_object K)) P_l_very_object sp_l_very := by
  refine (fd_l_very_object c).ok sc_l_very_object (fun vs H Q E h => ?_) (fun cdv A outer s H vs Q E hr h => ?_)
  · obtain ⟨rfl, _⟩ := h
    rfl
  · obtain ⟨rfl, q⟩ := h
    refine ⟨_, PSs.nox (pss_cons (ps_set (i := 0) sc_l_very_object.nd rfl (Or.inl rfl) (pe_lst (pa_cons pe_int pa_nil)))
      (pss_cons (ps_tryG rfl rfl (fun W pn xe tk pw => (pss_one (ps_expr (pe_makeU (mk_Service c) (ok_Service_init c) (hr.mono (by decide)) rfl (mg_Service c) (kb_Service_init_3_ c) (fun σ => passAt tk σ) (pa_cons pe_int (pa_cons (pv 0) pa_nil)) pk_nil)))) (HG.as_ (i := 1) sc_l_very_object.nd rfl rfl ⟨rfl, by decide, Or.inl (xc_InvalidInteger c).gC⟩ (fun a oe cls d pn hz hf => (pss_cons (ps_expr (pe_bmK (K := K) rfl PySem.F.plainAttrs_list PySem.F.slot_list_append PySem.F.type_list_append mt_append (pv 0) (pa_cons pe_int pa_nil)))
      (pss_one (ps_ret (pe_cmpR (opK (K := K) (r := rEqQ) rfl (op_eqQ c.sys (show _ < _ from hr.units))) (pe_xf (xc_InvalidInteger c).xf (xc_InvalidInteger c).noF hz hf (pv 1)) (pv 0) (nomark _)))))) (HG.stop _)))
      (pss_one (ps_ret pe_bl)))), ?_⟩
    have led : Led H [] H none [] := .start
    walk_at "L"
    refine i_service led (.int 2) (.lst (led.get (by walk_at "in"))) rfl rfl (fun _ => rfl) (fun o1 o2 => nomatch o2) (fun o1 => nomatch o1) (fun o1 o2 => ?_)
    clear led
    intro e Hc led
    walk_at "L"
    have dq : Dq K Hc (.ref p) (.list [.int 1, .int 2]) := .lstH (led.get (by walk_at "in")) (.cons (.int 1) (.cons (.int 2) .nil))
    refine i_eqQ dq dq rfl rfl rfl ?_
    exact q _ led.nil
theorem ok_l_no_other (c : Hd fa fn ex xs K mg) : FnG P w K mg base CX0 7 (a_l_no_other K) (fdOf K (a_l_no_other K)) P_l_no_other (sp_l_no K) := by
  refine fnG (fd_l_no_other c) sc_l_no_other (fun vs H Q E h => ?_) (fun cdv A outer s H vs Q E cl hr h => ?_)
  · obtain ⟨a, dx, d, u, y, T, dy, rfl, _⟩ := h
    rfl
  · obtain ⟨a, dx, d, u, y, T, dy, rfl, ha, kd, dq, okd, hso, q⟩ := h
    refine ⟨_, PSs.nox (pss_cons (ps_set (i := 2) sc_l_no_other.nd rfl (Or.inl rfl) (pe_lst pa_nil))
      (pss_cons (ps_for PassesOwn.never rfl (pi_range1 rfl (fr_range c) (pa_cons pe_int pa_nil)) (pg_name (i := 3) sc_l_no_other.nd rfl (Or.inl rfl)) (pss_one (ps_tryG rfl rfl (fun W pn xe tk pw => (pss_one (ps_expr (pe_bmK (K := K) rfl PySem.F.plainAttrs_list PySem.F.slot_list_append PySem.F.type_list_append mt_append (pv 2) (pa_cons (pe_ifExp (pt_cmpR op_eq (pv 3) pe_int (nomark _)) (pe_methU (pv 0) (cl_Service c) (me_Service_implies c) (ok_Service_implies c) (hr.mono (by decide)) (kb_Service_implies_2_ c) (fun σ => passAt tk σ) (pa_cons (pv 1) pa_nil) pk_nil) (pe_binO (op := .BitAnd) (cf_Service c) (bf_Service_and c) (me_Service_and c).at_ (me_Service_and c).fn (ok_Service_and c) (bd_Service_and c) (hr.mono (by decide)) (fun σ => passAt tk σ) (pv 0) (pv 1))) pa_nil))))) (HG.as_ (i := 4) sc_l_no_other.nd rfl rfl ⟨rfl, by decide, Or.inl (xc_InvalidService c).gC⟩ (fun a oe cls d pn hz hf => (pss_one (ps_expr (pe_bmK (K := K) rfl PySem.F.plainAttrs_list PySem.F.slot_list_append PySem.F.type_list_append mt_append (pv 2) (pa_cons (pe_lst (pa_cons pe_str (pa_cons (pe_callB (callK (K := K) (r := rRepr) rfl (call_reprDU cl (have h := roomU hr; h) c.sys)) rfl (fr_repr c) (by decide +kernel) (pa_cons (pe_xf (xc_InvalidService c).xf (xc_InvalidService c).noF hz hf (pv 4)) pa_nil)) pa_nil))) pa_nil))))) (HG.stop _)))))
      (pss_one (ps_ret (pe_cmpR (op_eqQ c.sys hr.units) (pv 2) (pe_op op_rep (pe_lst (pa_cons (pe_lst (pa_cons pe_str (pa_cons (pe_callB (call_reprD cl hr c.sys) rfl (fr_repr c) (by decide +kernel) (pa_cons (pv 1) pa_nil)) pa_nil))) pa_nil)) pe_int) (nomark _)))))), ?_⟩
    have led : Led H [] H none [] := .start
    walk_at "L"
    refine i_forR (fun i σ H1 => ∃ (w3 w4 : Option V) (ps : List Addr), σ = [some (.ref a), some y, some (.ref p), w3, w4] ∧ ps.length = i ∧ Led H [] H1 none ((p, .lst (ps.map V.ref)) :: ps.map (fun q => (q, .lst [.str "refused", .str dy.shown])))) ?_ ?_ ?_
    · exact ⟨_, _, [], rfl, rfl, led⟩
    · rintro i σ H1 hi ⟨w3, w4, ps, rfl, hl, led⟩
      have hps : ps.length < 2 := by
        have : (Int.toNat 2) = 2 := rfl
        omega
      have ha1 := led.toSame _ _ ha
      have kd1 := led.kd0 kd
      have fin : ∀ {q e : Addr} {H2 : Hp} {w3 w4 : Option V}, Led H [] H2 none ((q, .lst [.str "refused", .str dy.shown]) :: (e, xO y) :: (p, .lst (ps.map V.ref ++ [.ref q])) :: ps.map (fun q => (q, .lst [.str "refused", .str dy.shown]))) → Led H [] H2 none ((p, .lst ((ps ++ [q]).map V.ref)) :: (ps ++ [q]).map (fun q => (q, .lst [.str "refused", .str dy.shown]))) := by
        intro q e H2 w3 w4 led
        have l2 := led.sub (R' := (q, .lst [.str "refused", .str dy.shown]) :: (p, .lst (ps.map V.ref ++ [.ref q])) :: ps.map (fun q => (q, .lst [.str "refused", .str dy.shown]))) (.cons₂ _ (.cons _ (List.Sublist.refl _)))
        rw [List.map_append, List.map_append]
        exact l2.perm ((List.Perm.swap _ _ _).trans (.cons _ (List.perm_append_singleton _ _).symm))
      walk_at "L"
      refine i_ite (fun _ => ?_) (fun _ => ?_)
      · walk_at "L"
        refine i_atMeth ha1 (by walk_at "lkn") ?_
        walk_at "L"
        refine ⟨a, dx, d, u, y, T, rfl, ha1, kd1, fun e H2 k => ?_⟩
        have led := led.comp0 k
        simp only [List.cons_append, List.nil_append] at led
        walk_at "L"
        refine i_repr (led.dq0 dq) (okd.mono (by decide) (by decide)) ?_
        walk_at "L"
        exact ⟨_, _, ps ++ [p], rfl, by rw [List.length_append, hl]; rfl, fin (w3 := none) (w4 := none) led⟩
      · walk_at "L"
        refine i_atBin ha1 kd1 ?_
        refine ⟨a, dx, d, u, y, T, rfl, ha1, kd1, fun e H2 k => ?_⟩
        have led := led.comp0 k
        simp only [List.cons_append, List.nil_append] at led
        walk_at "L"
        refine i_repr (led.dq0 dq) (okd.mono (by decide) (by decide)) ?_
        walk_at "L"
        exact ⟨_, _, ps ++ [p], rfl, by rw [List.length_append, hl]; rfl, fin (w3 := none) (w4 := none) led⟩
    · rintro σ H1 ⟨w3, w4, ps, rfl, hl, led⟩
      have hl2 : ps.length = 2 := hl
      match ps, hl2 with
      | [a1, a2], _ =>
      simp only [List.map_cons, List.map_nil] at led
      walk_at "L"
      refine i_repr (led.dq0 dq) (okd.mono (by decide) (by decide)) ?_
      walk_at "L"
      refine i_rep (zs := [.ref _, .ref _]) led (by walk_at "in") (by decide) (by decide) (Nat.le_of_ble_eq_true rfl) rfl ?_
      clear led
      intro rp Hc led
      have shp : SeqAt.shaped (.list [.list [.str "refused", .str dy.shown], .list [.str "refused", .str dy.shown]]) = true := by
        simp [SeqAt.shaped, PyData.canLay0, PyData.canLayAll0, PyData.depth, PyData.depthAll, hso]
        decide +kernel
      have dd : ∀ {x : Addr}, Hc x = some (.lst [.str "refused", .str dy.shown]) → Dq K Hc (.ref x) (.list [.str "refused", .str dy.shown]) := fun h => .lstH h (.cons (.str _) (.cons (.str _) .nil))
      have d1 : Dq K Hc _ (.list [.list [.str "refused", .str dy.shown], .list [.str "refused", .str dy.shown]]) := .lstH (led.get (by walk_at "in")) (.cons (dd (led.get (by walk_at "in"))) (.cons (dd (led.get (by walk_at "in"))) .nil))
      refine i_eqQ (b := true) (.lstH (led.get (by walk_at "in")) (.cons (dd (led.get (by walk_at "in"))) (.cons (dd (led.get (by walk_at "in"))) .nil))) d1 shp shp ?_ ?_
      · exact eqv_same shp
      · exact q _ led.nil
end

end K22
namespace K22
open PySem PySem.Spec PyProof.Rows L2 G
section
variable {K : PySem.W.Frag} {mg : Str → Option Value}
theorem kb_Service_init_1_least_up_most_down (c : Hd fa fn ex xs K mg) : KBx K (fdOf K (a_Service_init K)) P_Service_init 1 ["least_up", "most_down"] (gp3 [0, 2, 1] [.non, .int 1]) := kbx_dfl (fd_Service_init c) 1 ["least_up", "most_down"] [0, 2, 1] (by simp) fun _ _ _ _ _ _ _ us its ws h1 h2 h3 => match us, h1, its, h2, ws, h3 with | [_], _, [_, _], _, [_, _], _ => ⟨_, rfl, rfl⟩
theorem kb_Service_init_1_ (c : Hd fa fn ex xs K mg) : KBx K (fdOf K (a_Service_init K)) P_Service_init 1 [] (gp3 [0, 1, 2] [.non, .int 1]) := kbx_dfl (fd_Service_init c) 1 [] [0, 1, 2] (by simp) fun _ _ _ _ _ _ _ us its ws h1 h2 h3 => match us, h1, its, h2, ws, h3 with | [_], _, [_, _], _, [], _ => ⟨_, rfl, rfl⟩
theorem kb_Service_init_2_ (c : Hd fa fn ex xs K mg) : KBx K (fdOf K (a_Service_init K)) P_Service_init 2 [] (gp3 [0, 1, 3] [.non, .int 1]) := kbx_dfl (fd_Service_init c) 2 [] [0, 1, 3] (by simp) fun _ _ _ _ _ _ _ us its ws h1 h2 h3 => match us, h1, its, h2, ws, h3 with | [_, _], _, [_, _], _, [], _ => ⟨_, rfl, rfl⟩
theorem kb_Service_init_1_least_up (c : Hd fa fn ex xs K mg) : KBx K (fdOf K (a_Service_init K)) P_Service_init 1 ["least_up"] (gp3 [0, 2, 1] [.non, .int 1]) := kbx_dfl (fd_Service_init c) 1 ["least_up"] [0, 2, 1] (by simp) fun _ _ _ _ _ _ _ us its ws h1 h2 h3 => match us, h1, its, h2, ws, h3 with | [_], _, [_, _], _, [_], _ => ⟨_, rfl, rfl⟩
end
def sp_law (K : PySem.W.Frag) : Sp := fun vs H Q _ => ∃ (a : Addr) (ns : List Int), vs = [.ref a] ∧ SqL K H a (ns.map V.int) ∧ ns.length ≤ 63 ∧ ∀ H', Q (.bl true) H'
/-- a thing of the menu: a plain value, or the list at l -/
def Odd (l : Addr) (v : V) (d : PyData) (T : String) : Prop := Okd 1000 1 d ∧ ∀ K H, H l = some (.lst [.int 1]) → Dq K H v d ∧ Kd H v T
theorem odd_int {l : Addr} {i : Int} (h : i.natAbs < 10 ^ 40) : ∃ d T, Odd l (.int i) d T := ⟨.int i, "int", okI1 h, fun _ _ _ => ⟨.int i, .int i⟩⟩
theorem odd_bl {l : Addr} {b : Bool} : ∃ d T, Odd l (.bl b) d T := ⟨.bool b, "bool", okB1 b, fun _ _ _ => ⟨.bl b, .bl b⟩⟩
theorem odd_non {l : Addr} : ∃ d T, Odd l .non d T := ⟨.none, "NoneType", okN1, fun _ _ _ => ⟨.non, .non⟩⟩
theorem odd_one {l : Addr} : ∃ d T, Odd l (.str "1") d T := ⟨.str "1", "str", okS (n := 1) (by unfold Signs; decide +kernel) (by decide +kernel) (by decide), fun _ _ _ => ⟨.str _, .str _⟩⟩
theorem odd_lst {l : Addr} : ∃ d T, Odd l (.ref l) d T := ⟨.list [.int 1], "list", ((Okd.list (n := 41) (k := 0) (ds := [.int 1]) fun d hd => by rw [List.mem_singleton.mp hd]; exact Okd.int (by decide)).mono (by decide) (by decide)), fun _ _ h => ⟨.lstH h (.cons (.int 1) .nil), .lst h⟩⟩
def dueD (d u : V) (dd du : PyData) : List PyData := if okd d = true then (if isI u 1 8 = true then [.str "made", dd, du] else [.str "refused", du]) else [.str "refused", dd]
theorem due_ths {K : PySem.W.Frag} {H : Hp} {d u : V} {dd du : PyData} (h1 : Dq K H d dd) (o1 : Okd 1000 1 dd) (h2 : Dq K H u du) (o2 : Okd 1000 1 du) : Ths K H (dueL d u) (dueD d u dd du) := by
  have s1 : Okd 1000 1 (.str "made") := okS (n := 4) (by unfold Signs; decide +kernel) (by decide +kernel) (by decide)
  have s2 : Okd 1000 1 (.str "refused") := okS (n := 7) (by unfold Signs; decide +kernel) (by decide +kernel) (by decide)
  unfold dueL dueD
  split
  · split
    · exact .cons (.str _) s1 (.cons h1 o1 (.cons h2 o2 .nil))
    · exact .cons (.str _) s2 (.cons h2 o2 .nil)
  · exact .cons (.str _) s2 (.cons h1 o1 .nil)
theorem due_len (d u : V) : (dueL d u).length ≤ 1000 := by
  unfold dueL
  split
  · split <;> exact Nat.le_of_ble_eq_true rfl
  · exact Nat.le_of_ble_eq_true rfl
section
variable {H0 H H' : Hp} {M : List Addr} {B : Option (Addr × Nat)} {R : List (Addr × HO)} {Q : VK} {K : PySem.W.Frag} {mg : Str → Option Value} {E : XK} {d u d' u' y : V} {T : String} {a b dx dx' : Addr}
theorem i_eqSS (c : Hd fa fn ex xs K mg) (led : Led H0 M H B R) (ha : (a, svO K dx d u) ∈ R) (hb : (b, svO K dx' d' u') ∈ R) (s1 : scal d d' = true) (s2 : scal u u' = true) (q : Q (.bl (decide (d = d') && decide (u = u'))) H) : rEqO K (cS K) (fun vs H Q E => sp_eq K (vs ++ []) H Q E) E (.ref a) (.ref b) H Q :=
  ⟨a, dx, _, _, rfl, led.get ha, (cf_Service c).ty (cl_Service c) (led.get hb), (cf_Service c).nf, a, dx, d, u, _, rfl, led.get ha, .inl ⟨b, dx', d', u', rfl, led.get hb, s1, s2, q⟩⟩
theorem i_eqSN (c : Hd fa fn ex xs K mg) (led : Led H0 M H B R) (ha : (a, svO K dx d u) ∈ R) (k : Kd H y T) (q : Q (.bl false) H) : rEqO K (cS K) (fun vs H Q E => sp_eq K (vs ++ []) H Q E) E (.ref a) y H Q :=
  ⟨a, dx, _, _, rfl, led.get ha, k.ty, (cf_Service c).nk k.mem, a, dx, d, u, _, rfl, led.get ha, .inr ⟨T, k, q⟩⟩
theorem i_neSS (c : Hd fa fn ex xs K mg) (led : Led H0 M H B R) (ha : (a, svO K dx d u) ∈ R) (hb : (b, svO K dx' d' u') ∈ R) (s1 : scal d d' = true) (s2 : scal u u' = true) (q : Q (.bl (!(decide (d = d') && decide (u = u')))) H) : rNeO K (cS K) (fun vs H Q E => sp_eq K (vs ++ []) H Q E) E (.ref a) (.ref b) H Q :=
  ⟨a, dx, _, _, rfl, led.get ha, (cf_Service c).ty (cl_Service c) (led.get hb), (cf_Service c).nf, a, dx, d, u, _, rfl, led.get ha, .inl ⟨b, dx', d', u', rfl, led.get hb, s1, s2, _, rfl, q⟩⟩
theorem i_reprS (led : Led H0 M H B R) (ha : (a, svO K dx d u) ∈ R) (o1 : okd d = true) (o2 : isI u 1 8 = true) (q : Q (.str (reprS d u)) H) : rReprO (cS K) (fun vs H Q E => sp_repr K (vs ++ []) H Q E) E [.ref a] H Q :=
  ⟨a, dx, _, rfl, led.get ha, a, dx, d, u, rfl, led.get ha, o1, o2, _, rfl, q⟩
theorem i_strS (led : Led H0 M H B R) (ha : (a, svO K dx d u) ∈ R) (o1 : okd d = true) (o2 : isI u 1 8 = true) (q : ∀ z, Q (.str z) H) : rStrO (cS K) (fun vs H Q E => sp_str K (vs ++ []) H Q E) E [.ref a] H Q :=
  ⟨a, dx, _, rfl, led.get ha, a, dx, d, u, rfl, led.get ha, o1, o2, fun z => ⟨z, rfl, q z⟩⟩
theorem i_very (led : Led H0 M H B R) (q : ∀ H', Led H0 M H' B R → Q (.bl true) H') : sp_l_very [] H Q E := ⟨rfl, fun H' k => q H' (led.comp0 k)⟩
theorem i_no {dy : PyData} (led : Led H0 M H B R) (ha : (a, svO K dx d u) ∈ R) (kd : Kd H y T) (dq : Dq K H y dy) (ok : Okd 1000 1 dy) (so : PyData.strOk dy.shown = true) (q : ∀ H', Led H0 M H' B R → Q (.bl true) H') : sp_l_no K [.ref a, y] H Q E :=
  ⟨a, dx, d, u, y, T, dy, rfl, led.get ha, kd, dq, ok, so, fun H' k => q H' (led.comp0 k)⟩
end
theorem scal_d {d d' : V} (h : okd d = true) (h' : okd d' = true) : scal d d' = true := by
  rcases okd_cases h with rfl | ⟨i, rfl, _⟩ <;> rcases okd_cases h' with rfl | ⟨j, rfl, _⟩ <;> rfl
def bD : V → PyData
  | .int i => .int i
  | _ => .none
def pairD (d u : V) : PyData := .tuple [bD d, bD u]
theorem dq_b {K : PySem.W.Frag} {H : Hp} {d : V} (h : okd d = true) : Dq K H d (bD d) := by
  rcases okd_cases h with rfl | ⟨i, rfl, _⟩
  · exact .non
  · exact .int i
theorem pair_sh {d u : V} (h : okd d = true) (h2 : isI u 1 8 = true) : SeqAt.shaped (pairD d u) = true := by
  obtain ⟨j, rfl, _⟩ := isI_int h2
  rcases okd_cases h with rfl | ⟨i, rfl, _⟩
  · simp [pairD, bD, SeqAt.shaped, PyData.canLay0, PyData.canLayAll0, PyData.depth, PyData.depthAll]
  · simp [pairD, bD, SeqAt.shaped, PyData.canLay0, PyData.canLayAll0, PyData.depth, PyData.depthAll]
theorem pair_eq {d u d' u' : V} (h : okd d = true) (h2 : isI u 1 8 = true) (h3 : okd d' = true) (h4 : isI u' 1 8 = true) : PyData.eqv (pairD d u) (pairD d' u') = (decide (d = d') && decide (u = u')) := by
  obtain ⟨j, rfl, _⟩ := isI_int h2
  obtain ⟨j', rfl, _⟩ := isI_int h4
  rcases okd_cases h with rfl | ⟨i, rfl, _⟩ <;> rcases okd_cases h3 with rfl | ⟨i', rfl, _⟩ <;> simp [pairD, bD, PyData.eqv, PyData.eqvAll] <;> rfl
set_option hygiene false
local macro_rules | `(tactic| walk_at "kd") => `(tactic| first | with_reducible exact .int _ | with_reducible exact .non | with_reducible exact .bl _ | with_reducible exact .str _ | with_reducible assumption | with_reducible exact led.kd0 (by assumption) | exact .lst (led.get (by walk_at "in")) | exact .tup (led.get (by walk_at "in")) | exact .dct (led.get (by walk_at "in")))
local macro_rules | `(tactic| walk_at "fn") => `(tactic| first
  | ((with_reducible show G.sp_l_cell _ _ _ _ _); refine G.i_cellN (led.sq hS List.not_mem_nil) (by omega) ?_; intro ic)
  | ((with_reducible show G.sp_l_box _ _ _ _); refine G.i_boxN led ?_; clear led; intro bx Hc led)
  | ((with_reducible show sp_l_very _ _ _ _); refine i_very led ?_; clear led; intro Hc led))
set_option hygiene true
section
variable {w : World} {K : PySem.W.Frag} {mg : Str → Option Value} {base : Heap}
theorem ok_law (c : Hd fa fn ex xs K mg) : FnG P w K mg base CX0 9 (a_law K) (fdOf K (a_law K)) P_law (sp_law K) := by
  refine fnG (fd_law c) sc_law (fun vs H Q E h => ?_) (fun cdv A outer s H vs Q E cl hr h => ?_)
  · obtain ⟨a, ns, rfl, _⟩ := h
    rfl
  · obtain ⟨a, ns, rfl, hS, hlen, k⟩ := h
    refine ⟨_, PSs.nox (pss_cons (ps_for PassesOwn.never rfl (pi_range1 rfl (fr_range c) (pa_cons (pe_callB (call_max2 rfl) rfl (fr_max c) (by decide +kernel) (pa_cons pe_int (pa_cons (pe_callB (call_min2 rfl) rfl (fr_min c) (by decide +kernel) (pa_cons (pe_callB call_len rfl (fr_len c) (by decide +kernel) (pa_cons (pv 0) pa_nil)) (pa_cons pe_int pa_nil))) pa_nil))) pa_nil)) (pg_name (i := 1) sc_law.nd rfl (Or.inl rfl)) (pss_cons (ps_set (i := 2) sc_law.nd rfl (Or.inl rfl) (pe_call (ok_l_box c) (hr.mono (by decide)) rfl (mg_l_box c) (fd_l_box c).kp (bd_l_box c) .nil pass0 (pa_cons (pe_call (ok_l_cell c) (hr.mono (by decide)) rfl (mg_l_cell c) (fd_l_cell c).kp (bd_l_cell c) .nil pass0 (pa_cons (pv 0) (pa_cons (pv 1) pa_nil))) pa_nil)))
      (pss_cons (ps_set (i := 3) sc_law.nd rfl (Or.inl rfl) (pe_lst (pa_cons pe_int (pa_cons pe_int (pa_cons (pe_un un_neg pe_int) (pa_cons pe_bl (pa_cons pe_bl (pa_cons pe_str (pa_cons (pe_lst (pa_cons pe_int pa_nil)) (pa_cons (pe_op op_pow pe_int pe_int) (pa_cons pe_non (pa_cons pe_int (pa_cons pe_int pa_nil)))))))))))))
      (pss_cons (ps_for PassesOwn.never rfl (pi_range1 rfl (fr_range c) (pa_cons pe_int pa_nil)) (pg_name (i := 4) sc_law.nd rfl (Or.inl rfl)) (pss_cons (ps_set (i := 5) sc_law.nd rfl (Or.inl rfl) (pe_ix ix_list (pe_lst (pa_cons (pe_ix ix_list (pv 3) (pe_call (ok_l_take c) (hr.mono (by decide)) rfl (mg_l_take c) (fd_l_take c).kp (bd_l_take c) .nil pass0 (pa_cons (pv 2) (pa_cons pe_int pa_nil))) (fun _ _ => rfl)) (pa_cons (pe_op op_add pe_int (pe_call (ok_l_take c) (hr.mono (by decide)) rfl (mg_l_take c) (fd_l_take c).kp (bd_l_take c) .nil pass0 (pa_cons (pv 2) (pa_cons pe_int pa_nil)))) (pa_cons pe_non pa_nil)))) (pe_call (ok_l_take c) (hr.mono (by decide)) rfl (mg_l_take c) (fd_l_take c).kp (bd_l_take c) .nil pass0 (pa_cons (pv 2) (pa_cons pe_int pa_nil))) (fun _ _ => rfl)))
      (pss_cons (ps_set (i := 6) sc_law.nd rfl (Or.inl rfl) (pe_ix ix_list (pe_lst (pa_cons (pe_ix ix_list (pv 3) (pe_call (ok_l_take c) (hr.mono (by decide)) rfl (mg_l_take c) (fd_l_take c).kp (bd_l_take c) .nil pass0 (pa_cons (pv 2) (pa_cons pe_int pa_nil))) (fun _ _ => rfl)) (pa_cons (pe_op op_add pe_int (pe_call (ok_l_take c) (hr.mono (by decide)) rfl (mg_l_take c) (fd_l_take c).kp (bd_l_take c) .nil pass0 (pa_cons (pv 2) (pa_cons pe_int pa_nil)))) pa_nil))) (pe_call (ok_l_take c) (hr.mono (by decide)) rfl (mg_l_take c) (fd_l_take c).kp (bd_l_take c) .nil pass0 (pa_cons (pv 2) (pa_cons pe_int pa_nil))) (fun _ _ => rfl)))
      (pss_one (ps_if (pt_cmpR op_ne (pe_callB (call_reprD cl hr c.sys) rfl (fr_repr c) (by decide +kernel) (pa_cons (pe_call (ok_l_made c) (hr.mono (by decide)) rfl (mg_l_made c) (fd_l_made c).kp (bd_l_made c) .nil pass0 (pa_cons (pv 5) (pa_cons (pv 6) pa_nil))) pa_nil)) (pe_callB (call_reprD cl hr c.sys) rfl (fr_repr c) (by decide +kernel) (pa_cons (pe_call (ok_l_due c) (hr.mono (by decide)) rfl (mg_l_due c) (fd_l_due c).kp (bd_l_due c) .nil pass0 (pa_cons (pv 5) (pa_cons (pv 6) pa_nil))) pa_nil)) (nomark _)) (pss_one (ps_ret pe_bl)) pss_nil)))))
      (pss_cons (ps_set (i := 7) sc_law.nd rfl (Or.inl rfl) (pe_lst (pa_cons (pe_call (ok_l_bounds c) (hr.mono (by decide)) rfl (mg_l_bounds c) (fd_l_bounds c).kp (bd_l_bounds c) .nil pass0 (pa_cons (pv 2) pa_nil)) (pa_cons (pe_call (ok_l_bounds c) (hr.mono (by decide)) rfl (mg_l_bounds c) (fd_l_bounds c).kp (bd_l_bounds c) .nil pass0 (pa_cons (pv 2) pa_nil)) pa_nil))))
      (pss_cons (ps_asg (pe_lc (own := [("_law_pair", 11)]) rfl sc_law.nd (pi_list (pv 7)) (blkOk_by (own := [("_law_pair", 11)]) (N := N_law) (sc := defScope s_law) (by decide +kernel)) (fun _ _ _ _ _ => (pg_name (i := 11) sc_law.nd rfl (Or.inl rfl))) (fun _ _ _ _ _ => pts_nil) (fun _ _ _ _ _ => (pe_makeU (mk_Service c) (ok_Service_init c) (hr.mono (by decide)) rfl (mg_Service c) (kb_Service_init_3_ c) (fun σ => passAt takesN σ) (pa_cons (pe_ix (ixK (K := K) (r := rIxT) rfl ix_tup) (pv 11) pe_int (fun _ _ => rfl)) (pa_cons (pe_ix (ixK (K := K) (r := rIxT) rfl ix_tup) (pv 11) pe_int (fun _ _ => rfl)) pa_nil)) pk_nil))) (pg_lst rfl (pgs_cons (pg_name (i := 8) sc_law.nd rfl (Or.inl rfl)) (pgs_cons (pg_name (i := 9) sc_law.nd rfl (Or.inl rfl)) pgs_nil))))
      (pss_cons (ps_if (PW.pt (pw_or (pt_cmpR op_ne (pe_cmpR (op_eqO (me_Service_eq c).at_ (me_Service_eq c).fn ((ok_Service_eq c).raw (bd_Service_eq c) .nil) (hr.mono (by decide)) pass0) (pv 8) (pv 9) (nomark _)) (pe_cmpR (op_eqQ c.sys hr.units) (pe_ix ix_list (pv 7) pe_int (fun _ _ => rfl)) (pe_ix ix_list (pv 7) pe_int (fun _ _ => rfl)) (nomark _)) (nomark _)) (pw_or1 (pt_cmpR op_eq (pe_cmpR (op_neO (cf_Service c).ne (cf_Service c).ob (me_Service_eq c).at_ (me_Service_eq c).fn ((ok_Service_eq c).raw (bd_Service_eq c) .nil) (hr.mono (by decide)) pass0) (pv 8) (pv 9) (nomark _)) (pe_cmpR (op_eqO (me_Service_eq c).at_ (me_Service_eq c).fn ((ok_Service_eq c).raw (bd_Service_eq c) .nil) (hr.mono (by decide)) pass0) (pv 8) (pv 9) (nomark _)) (nomark _))))) (pss_one (ps_ret pe_bl)) pss_nil)
      (pss_cons (ps_if (pt_cmpR (op_neO (cf_Service c).ne (cf_Service c).ob (me_Service_eq c).at_ (me_Service_eq c).fn ((ok_Service_eq c).raw (bd_Service_eq c) .nil) (hr.mono (by decide)) pass0) (pv 8) (pe_makeU (mk_Service c) (ok_Service_init c) (hr.mono (by decide)) rfl (mg_Service c) (kb_Service_init_3_ c) (fun σ => passAt takesN σ) (pa_cons (pe_ix ix_tup (pe_ix ix_list (pv 7) pe_int (fun _ _ => rfl)) pe_int (fun _ _ => rfl)) (pa_cons (pe_ix ix_tup (pe_ix ix_list (pv 7) pe_int (fun _ _ => rfl)) pe_int (fun _ _ => rfl)) pa_nil)) pk_nil) (nomark _)) (pss_one (ps_ret pe_bl)) pss_nil)
      (pss_cons (ps_set (i := 10) sc_law.nd rfl (Or.inl rfl) (pe_ix ix_list (pe_lst (pa_cons pe_non (pa_cons pe_int (pa_cons pe_str (pa_cons (pe_tup (pa_cons pe_int (pa_cons pe_int pa_nil))) (pa_cons pe_bl pa_nil)))))) (pe_call (ok_l_take c) (hr.mono (by decide)) rfl (mg_l_take c) (fd_l_take c).kp (bd_l_take c) .nil pass0 (pa_cons (pv 2) (pa_cons pe_int pa_nil))) (fun _ _ => rfl)))
      (pss_cons (ps_if (PW.pt (pw_or (pt_cmpR (op_eqO (me_Service_eq c).at_ (me_Service_eq c).fn ((ok_Service_eq c).raw (bd_Service_eq c) .nil) (hr.mono (by decide)) pass0) (pv 8) (pe_ix ix_list (pv 7) pe_int (fun _ _ => rfl)) (nomark _)) (pw_or (pt_cmpR (op_eqO (me_Service_eq c).at_ (me_Service_eq c).fn ((ok_Service_eq c).raw (bd_Service_eq c) .nil) (hr.mono (by decide)) pass0) (pv 8) (pe_callTy (call_strO (me_Service_str c).at_ (me_Service_str c).fn ((ok_Service_str c).raw (bd_Service_str c) .nil) (hr.mono (by decide)) pass0) rfl (fr_str c) (by decide +kernel) (pa_cons (pv 8) pa_nil)) (nomark _)) (pw_or1 (pt_not (pt_val (pe_callG (ok_l_no_other c) cl (hr.mono (by decide)) rfl (mg_l_no_other c) (fd_l_no_other c).kp (bd_l_no_other c) .nil pass0 (pa_cons (pv 8) (pa_cons (pv 10) pa_nil))))))))) (pss_one (ps_ret pe_bl)) pss_nil)
      (pss_cons (ps_if (pt_cmpR (op_neO (cf_Service c).ne (cf_Service c).ob (me_Service_eq c).at_ (me_Service_eq c).fn ((ok_Service_eq c).raw (bd_Service_eq c) .nil) (hr.mono (by decide)) pass0) (pv 8) (pe_makeU0 (mk_Service c) (ok_Service_init c) (hr.mono (by decide)) rfl (mg_Service c) (kb_Service_init_1_least_up_most_down c) (fun σ => passAt takesN σ) (pk_cons (pe_ix ix_tup (pe_ix ix_list (pv 7) pe_int (fun _ _ => rfl)) pe_int (fun _ _ => rfl)) (pk_cons (pe_ix ix_tup (pe_ix ix_list (pv 7) pe_int (fun _ _ => rfl)) pe_int (fun _ _ => rfl)) pk_nil))) (nomark _)) (pss_one (ps_ret pe_bl)) pss_nil)
      (pss_cons (ps_if (PW.pt (pw_or (pt_not (pt_val (pe_call0 (ok_l_very_object c) (hr.mono (by decide)) rfl (mg_l_very_object c) (fd_l_very_object c).kp (bd_l_very_object c) .nil pass0))) (pw_or (pt_not (pt_val (pe_callB call_isi rfl (fr_isinstance c) (by decide +kernel) (pa_cons (pe_callB (call_reprO (me_Service_repr c).at_ (me_Service_repr c).fn ((ok_Service_repr c).raw (bd_Service_repr c) .nil) (hr.mono (by decide)) pass0) rfl (fr_repr c) (by decide +kernel) (pa_cons (pv 8) pa_nil)) (pa_cons (pe_ty (T := "str") (fr_str c) (by decide +kernel)) pa_nil))))) (pw_or1 (pt_cmpR op_ne (pe_callB (call_reprO (me_Service_repr c).at_ (me_Service_repr c).fn ((ok_Service_repr c).raw (bd_Service_repr c) .nil) (hr.mono (by decide)) pass0) rfl (fr_repr c) (by decide +kernel) (pa_cons (pv 8) pa_nil)) (pe_callB (call_reprO (me_Service_repr c).at_ (me_Service_repr c).fn ((ok_Service_repr c).raw (bd_Service_repr c) .nil) (hr.mono (by decide)) pass0) rfl (fr_repr c) (by decide +kernel) (pa_cons (pv 8) pa_nil)) (nomark _)))))) (pss_one (ps_ret pe_bl)) pss_nil)
      (pss_one (ps_if (PW.pt (pw_or (pt_cmpR (op_neO (cf_Service c).ne (cf_Service c).ob (me_Service_eq c).at_ (me_Service_eq c).fn ((ok_Service_eq c).raw (bd_Service_eq c) .nil) (hr.mono (by decide)) pass0) (pe_makeU0 (mk_Service c) (ok_Service_init c) (hr.mono (by decide)) rfl (mg_Service c) (kb_Service_init_1_ c) (fun σ => passAt takesN σ) pk_nil) (pe_makeU (mk_Service c) (ok_Service_init c) (hr.mono (by decide)) rfl (mg_Service c) (kb_Service_init_3_ c) (fun σ => passAt takesN σ) (pa_cons pe_non (pa_cons pe_int pa_nil)) pk_nil) (nomark _)) (pw_or (pt_cmpR (op_neO (cf_Service c).ne (cf_Service c).ob (me_Service_eq c).at_ (me_Service_eq c).fn ((ok_Service_eq c).raw (bd_Service_eq c) .nil) (hr.mono (by decide)) pass0) (pe_makeU (mk_Service c) (ok_Service_init c) (hr.mono (by decide)) rfl (mg_Service c) (kb_Service_init_2_ c) (fun σ => passAt takesN σ) (pa_cons pe_int pa_nil) pk_nil) (pe_makeU (mk_Service c) (ok_Service_init c) (hr.mono (by decide)) rfl (mg_Service c) (kb_Service_init_3_ c) (fun σ => passAt takesN σ) (pa_cons pe_int (pa_cons pe_int pa_nil)) pk_nil) (nomark _)) (pw_or1 (pt_cmpR (op_neO (cf_Service c).ne (cf_Service c).ob (me_Service_eq c).at_ (me_Service_eq c).fn ((ok_Service_eq c).raw (bd_Service_eq c) .nil) (hr.mono (by decide)) pass0) (pe_makeU0 (mk_Service c) (ok_Service_init c) (hr.mono (by decide)) rfl (mg_Service c) (kb_Service_init_1_least_up c) (fun σ => passAt takesN σ) (pk_cons pe_int pk_nil)) (pe_makeU (mk_Service c) (ok_Service_init c) (hr.mono (by decide)) rfl (mg_Service c) (kb_Service_init_3_ c) (fun σ => passAt takesN σ) (pa_cons pe_non (pa_cons pe_int pa_nil)) pk_nil) (nomark _)))))) (pss_one (ps_ret pe_bl)) pss_nil))))))))))))))
      (pss_one (ps_ret pe_bl))), ?_⟩
    have led : Led H [] H none [] := .start
    walk_at "L"
    refine ⟨_, _, rfl, .inl ⟨_, hS, rfl⟩, ?_⟩
    rw [List.length_map]
    walk_at "L"
    refine i_forR (fun i σ H1 => ∃ r : List (Option V), σ = some (.ref a) :: r ∧ r.length = 11 ∧ Led H [] H1 none []) ?_ ?_ ?_
    · exact ⟨_, rfl, rfl, led⟩
    · rintro i σ H1 hi ⟨r, rfl, hr11, led⟩
      obtain ⟨v1, v2, v3, v4, v5, v6, v7, v8, v9, v10, v11, rfl⟩ : ∃ v1 v2 v3 v4 v5 v6 v7 v8 v9 v10 v11 : Option V, r = [v1, v2, v3, v4, v5, v6, v7, v8, v9, v10, v11] := by
        match r, hr11 with
        | [v1, v2, v3, v4, v5, v6, v7, v8, v9, v10, v11], _ => exact ⟨_, _, _, _, _, _, _, _, _, _, _, rfl⟩
      walk_at "L"
      rename Addr => l1
      refine i_I ⟨by decide, by decide, by decide⟩ ?_
      walk_at "L"
      rename Addr => od
      refine i_forR (fun i2 σ H2 => ∃ w4 w5 w6 : Option V, σ = [some (.ref a), some (.int (0 + i)), some (.ref bx), some (.ref od), w4, w5, w6, v7, v8, v9, v10, v11] ∧
        Led H [] H2 (some (bx, 6 * i2)) [(od, .lst [.int 0, .int 9, .int (-1), .bl true, .bl false, .str "1", .ref l1, .int (10 ^ 20), .non, .int 8, .int 1]), (l1, .lst [.int 1])]) ?_ ?_ ?_
      · exact ⟨_, _, _, rfl, led⟩
      · rintro i2 σ H2 hi2 ⟨w4, w5, w6, rfl, led⟩
        have hi6 : i2 < 6 := hi2
        have menu : ∀ {v : V}, v ∈ [V.int 0, .int 9, .int (-1), .bl true, .bl false, .str "1", .ref l1, .int (10 ^ 20), .non, .int 8, .int 1] → ∃ d T, Odd l1 v d T := fun hv => by
          simp only [List.mem_cons, List.not_mem_nil, or_false] at hv
          rcases hv with rfl | rfl | rfl | rfl | rfl | rfl | rfl | rfl | rfl | rfl | rfl
          · exact odd_int (by decide)
          · exact odd_int (by decide)
          · exact odd_int (by decide)
          · exact odd_bl
          · exact odd_bl
          · exact odd_one
          · exact odd_lst
          · exact odd_int (by decide)
          · exact odd_non
          · exact odd_int (by decide)
          · exact odd_int (by decide)
        walk_at "L"
        refine i_menuL (SqL.of (led.get (by walk_at "in"))) hr0 (by exact hr1) fun x1 hx1 => ?_
        walk_at "L"
        refine i_menuL (SqL.of (led.get (by walk_at "in"))) hr0 (by exact hr1) fun d hd => ?_
        obtain ⟨dd, T1, od1⟩ : ∃ dd T, Odd l1 d dd T := by
          simp only [List.mem_cons, List.not_mem_nil, or_false] at hd
          rcases hd with rfl | rfl | rfl
          · exact menu hx1
          · exact odd_int (by omega)
          · exact odd_non
        walk_at "L"
        refine i_menuL (SqL.of (led.get (by walk_at "in"))) hr0 (by exact hr1) fun x2 hx2 => ?_
        walk_at "L"
        refine i_menuL (SqL.of (led.get (by walk_at "in"))) hr0 (by exact hr1) fun u hu => ?_
        obtain ⟨du, T2, od2⟩ : ∃ du T, Odd l1 u du T := by
          simp only [List.mem_cons, List.not_mem_nil, or_false] at hu
          rcases hu with rfl | rfl
          · exact menu hx2
          · exact odd_int (by omega)
        walk_at "L"
        have at1 : ∀ {H3 : Hp}, H3 l1 = some (.lst [.int 1]) → Kd H3 d T1 ∧ Kd H3 u T2 ∧ Ths K H3 (dueL d u) (dueD d u dd du) := fun h => ⟨(od1.2 K _ h).2, (od2.2 K _ h).2, due_ths (od1.2 K _ h).1 od1.1 (od2.2 K _ h).1 od2.1⟩
        have z := at1 (led.get (by walk_at "in"))
        refine i_due led z.1 z.2.1 ?_
        clear led z
        intro p1 Hc led
        walk_at "L"
        refine i_reprL (led.get (by walk_at "in")) (at1 (led.get (by walk_at "in"))).2.2 (due_len d u) ?_
        walk_at "L"
        have z := at1 (led.get (by walk_at "in"))
        refine i_due led z.1 z.2.1 ?_
        clear led z
        intro p2 Hc led
        walk_at "L"
        refine i_reprL (led.get (by walk_at "in")) (at1 (led.get (by walk_at "in"))).2.2 (due_len d u) ?_
        walk_at "L"
        exact ⟨_, _, _, rfl, (led.mono (show _ ≤ 6 * (i2 + 1) by omega)).sub (by walk_at "sub")⟩
      · rintro σ H2 ⟨w4, w5, w6, rfl, led⟩
        have led := led.nil
        walk_at "L"
        refine i_bounds led (by decide) ?_
        clear led
        intro p1 d1 u1 Hc o1 o2 led
        walk_at "L"
        refine i_bounds led (by decide) ?_
        clear led
        intro p2 d2 u2 Hc o3 o4 led
        walk_at "L"
        rename Addr => pl
        have led := led.mono (m := 44) (by decide)
        refine i_atLc (walk_listI (xs := [V.ref p1, V.ref p2])) led (fun D i H' => (i = 0 ∧ Led H [] H' (some (bx, 44)) [(D, .lst []), (pl, .lst [.ref p1, .ref p2]), (p2, .tup [d2, u2]), (p1, .tup [d1, u1])]) ∨
          (i = 1 ∧ ∃ x dx, Led H [] H' (some (bx, 44)) [(x, svO K dx d1 u1), (D, .lst [.ref x]), (pl, .lst [.ref p1, .ref p2]), (p2, .tup [d2, u2]), (p1, .tup [d1, u1])]) ∨
          (i = 2 ∧ ∃ x dx y dy, Led H [] H' (some (bx, 44)) [(y, svO K dy d2 u2), (x, svO K dx d1 u1), (D, .lst [.ref x, .ref y]), (pl, .lst [.ref p1, .ref p2]), (p2, .tup [d2, u2]), (p1, .tup [d1, u1])])) (fun D H' l => .inl ⟨rfl, l⟩) (fun D i H' h => ?_) ?_ ?_
        · rcases h with ⟨_, l⟩ | ⟨_, _, _, l⟩ | ⟨_, _, _, _, _, l⟩
          · exact SqL.of (l.get (by walk_at "in"))
          · exact SqL.of (l.get (by walk_at "in"))
          · exact SqL.of (l.get (by walk_at "in"))
        · clear led
          rintro D i3 x H3 _ hi3 (⟨rfl, led⟩ | ⟨rfl, x0, dx0, led⟩ | ⟨rfl, _⟩) ⟨rfl, y, hy, rfl⟩
          · cases hy
            walk_at "L"
            refine i_serviceG (K := K) led o1 o2 rfl rfl (fun _ => rfl) ?_
            clear led
            intro x0 dx0 Hc led
            walk_at "L"
            exact .inr (.inl ⟨rfl, _, _, led⟩)
          · cases hy
            walk_at "L"
            refine i_serviceG (K := K) led o3 o4 rfl rfl (fun _ => rfl) ?_
            clear led
            intro x1 dx1 Hc led
            walk_at "L"
            exact .inr (.inr ⟨rfl, _, _, _, _, led⟩)
          · exact absurd hi3 (Nat.lt_irrefl 2)
        · clear led
          rintro D H3 (⟨h, _⟩ | ⟨h, _⟩ | ⟨_, s1, dx1, s2, dx2, led⟩)
          · cases h
          · cases h
          walk_at "L"
          refine i_glst (led.get (by walk_at "in")) rfl ?_
          walk_at "L"
          have sd1 := scal_d o1 o1
          have su1 := scal_d (okd_u o2) (okd_u o2)
          have tq : ∀ {H4 : Hp} {x : Addr} {d u : V}, okd d = true → isI u 1 8 = true → H4 x = some (.tup [d, u]) → Dq K H4 (.ref x) (pairD d u) := fun h1 h2 h => .tupH h (.cons (dq_b h1) (.cons (dq_b (okd_u h2)) .nil))
          refine i_eqSS (K := K) c led (by walk_at "in") (by walk_at "in") (scal_d o1 o3) (scal_d (okd_u o2) (okd_u o4)) ?_
          walk_at "L"
          refine i_eqQ (tq o1 o2 (led.get (by walk_at "in"))) (tq o3 o4 (led.get (by walk_at "in"))) (pair_sh o1 o2) (pair_sh o3 o4) (pair_eq o1 o2 o3 o4) ?_
          walk_at "L"
          refine i_neSS (K := K) c led (by walk_at "in") (by walk_at "in") (scal_d o1 o3) (scal_d (okd_u o2) (okd_u o4)) ?_
          walk_at "L"
          refine i_eqSS (K := K) c led (by walk_at "in") (by walk_at "in") (scal_d o1 o3) (scal_d (okd_u o2) (okd_u o4)) ?_
          walk_at "L"
          refine i_isF ?_ ?_
          · generalize (decide (d1 = d2) && decide (u1 = u2)) = b
            cases b <;> decide
          walk_at "L"
          refine i_serviceG (K := K) led o1 o2 rfl rfl (fun _ => rfl) ?_
          clear led
          intro s3 dx3 Hc led
          walk_at "L"
          refine i_neSS (K := K) c led (by walk_at "in") (by walk_at "in") sd1 su1 ?_
          walk_at "L"
          refine i_isF (by rw [decide_eq_true rfl, decide_eq_true rfl]; rfl) ?_
          walk_at "L"
          refine i_menuL (SqL.of (led.get (by walk_at "in"))) hr0 (by exact hr1) fun st hst => ?_
          walk_at "L"
          refine i_eqSN (K := K) c led (by walk_at "in") (.tup (led.get (by walk_at "in"))) ?_
          walk_at "L"
          refine i_strS (K := K) led (by walk_at "in") o1 o2 fun zs => ?_
          walk_at "L"
          refine i_eqSN (K := K) c led (by walk_at "in") (.str _) ?_
          walk_at "L"
          obtain ⟨dy, T, kd, dq, ok, so⟩ : ∃ dy T, Kd Hc st T ∧ Dq K Hc st dy ∧ Okd 1000 1 dy ∧ PyData.strOk dy.shown = true := by
            simp only [List.mem_cons, List.not_mem_nil, or_false] at hst
            rcases hst with rfl | rfl | rfl | rfl | rfl
            · exact ⟨_, _, .non, .non, okN1, by decide +kernel⟩
            · exact ⟨_, _, .int 5, .int 5, okI1 (by decide), by decide +kernel⟩
            · exact ⟨_, _, .str _, .str _, okS (n := 3) (by unfold Signs; decide +kernel) (by decide +kernel) (by decide), by decide +kernel⟩
            · exact ⟨.tuple [.int 2, .int 2], _, .tup (led.get (by walk_at "in")), .tupH (led.get (by walk_at "in")) (.cons (.int 2) (.cons (.int 2) .nil)), (Okd.tuple (n := 41) (k := 0) (ds := [.int 2, .int 2]) fun d hd => by
                simp only [List.mem_cons, List.not_mem_nil, or_false, or_self] at hd
                rw [hd]
                exact Okd.int (by decide)).mono (by decide) (by decide), by decide +kernel⟩
            · exact ⟨_, _, .bl true, .bl true, okB1 true, by decide +kernel⟩
          refine i_no (K := K) led (by walk_at "in") kd dq ok so ?_
          clear led kd dq
          intro Hc led
          walk_at "L"
          refine i_serviceG (K := K) led o1 o2 rfl rfl (fun _ => rfl) ?_
          clear led
          intro s4 dxs4 Hc led
          walk_at "L"
          refine i_neSS (K := K) c led (by walk_at "in") (by walk_at "in") sd1 su1 ?_
          walk_at "L"
          refine i_isF (by rw [decide_eq_true rfl, decide_eq_true rfl]; rfl) ?_
          walk_at "L"
          refine i_reprS (K := K) led (by walk_at "in") o1 o2 ?_
          walk_at "L"
          refine isi_strT ?_
          walk_at "L"
          refine i_reprS (K := K) led (by walk_at "in") o1 o2 ?_
          walk_at "L"
          refine i_reprS (K := K) led (by walk_at "in") o1 o2 ?_
          walk_at "L"
          refine i_serviceG (K := K) led (d := .non) (u := .int 1) rfl rfl rfl rfl (fun _ => rfl) ?_
          clear led
          intro s5 dxs5 Hc led
          walk_at "L"
          refine i_serviceG (K := K) led (d := .non) (u := .int 1) rfl rfl rfl rfl (fun _ => rfl) ?_
          clear led
          intro s6 dxs6 Hc led
          walk_at "L"
          refine i_neSS (K := K) c led (by walk_at "in") (by walk_at "in") rfl rfl ?_
          walk_at "L"
          refine i_isF (by rw [decide_eq_true rfl, decide_eq_true rfl]; rfl) ?_
          walk_at "L"
          refine i_serviceG (K := K) led (d := .int 2) (u := .int 1) rfl rfl rfl rfl (fun _ => rfl) ?_
          clear led
          intro s7 dxs7 Hc led
          walk_at "L"
          refine i_serviceG (K := K) led (d := .int 2) (u := .int 1) rfl rfl rfl rfl (fun _ => rfl) ?_
          clear led
          intro s8 dxs8 Hc led
          walk_at "L"
          refine i_neSS (K := K) c led (by walk_at "in") (by walk_at "in") rfl rfl ?_
          walk_at "L"
          refine i_isF (by rw [decide_eq_true rfl, decide_eq_true rfl]; rfl) ?_
          walk_at "L"
          refine i_serviceG (K := K) led (d := .non) (u := .int 3) rfl rfl rfl rfl (fun _ => rfl) ?_
          clear led
          intro s9 dxs9 Hc led
          walk_at "L"
          refine i_serviceG (K := K) led (d := .non) (u := .int 3) rfl rfl rfl rfl (fun _ => rfl) ?_
          clear led
          intro s10 dxs10 Hc led
          walk_at "L"
          refine i_neSS (K := K) c led (by walk_at "in") (by walk_at "in") rfl rfl ?_
          walk_at "L"
          refine i_isF (by rw [decide_eq_true rfl, decide_eq_true rfl]; rfl) ?_
          walk_at "L"
          exact ⟨_, rfl, rfl, led.noBox.nil⟩
    · rintro σ H1 ⟨r, rfl, _, _⟩
      walk_at "L"
      exact k H1
end

end K22
namespace K22
open PySem PySem.Spec PyProof.Rows L2 G

/-! the run of the top -/
abbrev R : PySem.W.OpenRow := PySem.W.OpenLaw.row PySem.Challenge.rw_eventdeliveries_k22_services_made
abbrev hk : PySem.W.Hook := hookG 6 fa fn ex xs
def ob (s : PySem.W.SharedT) : AlG := obsG 6 fa fn ex xs (HandSHeadRun.getT s)
theorem ob_eq (s : PySem.W.SharedT) : ob s = hk.obs s.abs := obsG_eq (HandSHeadRun.getT_eq s)
def loose : List PySem.Str := (["_wall", "DeliveryError", "MissingError", "StateError", "InvalidInteger", "InvalidList", "InvalidPattern", "InvalidRun", "InvalidService", "InvalidText", "InvalidTruth", "NoTurn", "MOST_DIGITS", "MOST_values", "is_integer", "parse_integer", "is_list", "need_integer", "MOST_TIMES", "MOST_RUN"] : List PySem.Str) ++ (["NO_TURNS", "Pattern", "need_pattern", "need_times", "MOST_services", "MOST_TURNS", "Service", "_law_cell", "_law_box", "_law_take", "_law_bounds", "_law_made", "_law_is_bound", "_law_due", "_law_no_other", "_law_very_object"] : List PySem.Str)
theorem run (w : World) : HandSHeadRun.RunEq R (PySem.W.view R.prog [41]) hk ob 30000 loose w := by
  intro os
  kernel_rfl
end K22
open PySem PySem.W PySem.Calls PyProof.Rows
set_option maxRecDepth 100000 in
set_option maxHeartbeats 0 in
theorem PySem.Challenge.cw_eventdeliveries_k22_services_made_holds : PySem.Challenge.rw_eventdeliveries_k22_services_made.Holds := by
  w_on; o_law
  refine HandSHeadRun.head_any (r := OpenLaw.row PySem.Challenge.rw_eventdeliveries_k22_services_made) (q := view (OpenLaw.row PySem.Challenge.rw_eventdeliveries_k22_services_made).prog [41]) (H := K22.hk) (ob := K22.ob) (M := 30000) (loose := K22.loose) (d := HandSHeadRun.topDef (OpenLaw.row PySem.Challenge.rw_eventdeliveries_k22_services_made).prog 41) (kwd := []) K22.ob_eq
    (by kernel_rfl) (fun s => by kernel_rfl) K22.run (by kernel_rfl) (by kernel_rfl) (by kernel_rfl) (by rfl) (by first | assumption | decide +kernel) (by decide +kernel) ⟨rfl, rfl, rfl, rfl, rfl, by decide +kernel⟩ ?hw ?hc
  case hw => w_witness2
  case hc =>
    refine G.walkG (l := PySem.Challenge.rw_eventdeliveries_k22_services_made) (n := 63) (k := 9) (x := "_law_script") (cx := L2.CX0) rfl (by decide) (by kernel_rfl) ⟨rfl, by decide, by decide⟩ ?F (fun _ _ _ _ z => z)
    intro w mg fa h Y N hmg0
    obtain ⟨K, KX, c⟩ := Y
    have hmg : mg ("law" : PySem.Str) = some (.ref fa) := by
      have e : (HandSHeadRun.topDef (OpenLaw.row PySem.Challenge.rw_eventdeliveries_k22_services_made).prog 41).name = ("law" : PySem.Str) := by kernel_rfl
      rw [← e]
      exact hmg0
    have hd : G.Hd K22.fa K22.fn K22.ex K22.xs K mg := ⟨c, h, KX, N⟩
    have e := hmg.symm.trans (K22.mg_law hd)
    cases e
    exact ⟨K, _, K22.sp_law K, KX, fun s v => L2.FunD.bindsA (ps := ["_law_script"]) (K22.fd_law hd) (fun _ _ _ _ _ _ us hl => match us, hl with | [_], _ => rfl) s [v] rfl, fun H a ns hl hb hO hS => ⟨a, ns, rfl, hS, hl, fun _ => rfl⟩, fun base _ _ => K22.ok_law hd⟩
#print axioms PySem.Challenge.cw_eventdeliveries_k22_services_made_holds
