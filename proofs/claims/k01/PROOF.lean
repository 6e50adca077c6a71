import PyProof.Rows.All
import Wide.All
import OpenK.AllK
import Wide.FinOn
import KE.KStateDown
import HandS.ForMost
import HandS.ForExc
import HandS.IsInst
import HandS.Defaults
import HandS.HeadEnd
import HandS.EndBits
import PyProof.ReprRoads
import PyProof.ReprLen
import HandS.Flow
import HandS.Style
import HandS.Walk
import HandS.Head0
import HandS.Head1
import HandS.Head2
import HandS.HeadHook1
import HandS.HeadHook2
import PySem.Challenge.RW_eventdeliveries_k01_integers_names_paylo
set_option Elab.async false
set_option linter.all false
set_option maxRecDepth 100000
set_option maxHeartbeats 4000000
/-! # LA: defs that are called where no repr is under way (G), their calls, the law's end -/
namespace G
open PySem PySem.Spec PyProof.Rows L2
/-- no repr (or another guarded call) runs around -/
abbrev Clear (A : Around) : Prop := A.guards = some []
/-- as L2.FnOk, at clear surroundings alone -/
structure FnG (P : Program) (w : World) (K : PySem.W.Frag) (mg : Str → Option Value) (base : Heap) (cx : CXT) (k : Nat) (f : Addr) (fd : FuncData) (ps : List Str) (sp : Sp) : Prop where
  len : ∀ vs H Q E, sp vs H Q E → vs.length = ps.length
  run : ∀ (A : Around) (outer : List Env) (s : Shared) (H : Hp) (args : Args) (us : List Value) (vs : List V) (Q : VK) (E : XK), Clear A → Room k A → Env0 P w K mg base A outer s H → BindsTo s fd args (ps.zip us) → Vals vs us → sp vs H Q E →
    codeAny (model P w) A (.call (.ref f) args) (CR cx outer P w H s Q E) s
theorem FnG.of {P : Program} {w : World} {K : PySem.W.Frag} {mg : Str → Option Value} {base : Heap} {cx : CXT} {k : Nat} {f : Addr} {fd : FuncData} {ps : List Str} {sp : Sp} (F : FnOk P w K mg base cx k f fd ps sp) : FnG P w K mg base cx k f fd ps sp :=
  ⟨F.len, fun A outer s H args us vs Q E _ => F.run A outer s H args us vs Q E⟩
theorem FnG.mono {P : Program} {w : World} {K : PySem.W.Frag} {mg : Str → Option Value} {base : Heap} {cx : CXT} {j k : Nat} {f : Addr} {fd : FuncData} {ps : List Str} {sp : Sp} (F : FnG P w K mg base cx j f fd ps sp) (h : j ≤ k) : FnG P w K mg base cx k f fd ps sp :=
  ⟨F.len, fun A outer s H args us vs Q E c r => F.run A outer s H args us vs Q E c (r.mono h)⟩
section
variable {X : Cx} {cx : CXT} {k : Nat} {f : Addr} {fd : FuncData} {ps : List Str} {sp : Sp} {dvs : List V} {ds : List Value} {E : XK} {x : Str} {p pos : Pos} {e : Expr} {es : List Expr} {t : TA}
theorem run_fnG {pins : List (Addr × Obj)} {σ : L2.St} {H : Hp} {s : Shared} {Q : VK} {us : List Value} {vs : List V} (F : FnG X.prog X.w X.K X.mg X.base cx k f fd ps sp) (cl : Clear X.A) (hr : Room k X.A) (hb : Binds X.K fd ps ds) (hd : Vals dvs ds) (hx : Passes cx X E)
    (I : Inv X pins σ H s) (r : Vals vs us) (h : sp (vs ++ dvs) H Q E) : wpAny (model X.prog X.w) X.A (call (.ref f) us) (EP X pins σ Q) X.xe s := by
  have rr : Vals (vs ++ dvs) (us ++ ds) := r.append hd
  have ll : (us ++ ds).length = ps.length := rr.length ▸ F.len _ _ _ _ h
  refine wpAny_call (codeAny_mono (F.run X.A X.stack s H ⟨us, []⟩ (us ++ ds) (vs ++ dvs) Q E cl hr I.env0 (hb s us I.kIn ll) rr h) fun res s' z => ?_)
  rcases res with e | fl
  · exact hx pins σ H s e s' I z
  · cases fl <;> first | exact I.after z | exact False.elim z
theorem pe_callG (F : FnG X.prog X.w X.K X.mg X.base cx k f fd ps sp) (cl : Clear X.A) (hr : Room k X.A) (hg : Gl X x) (hm : X.mg x = some (.ref f)) (hk : PySem.W.keepIn X.K (.ref f) = true) (hb : Binds X.K fd ps ds) (hd : Vals dvs ds) (hx : Passes cx X E) (ha : PA X (e :: es) t)
    (q1 : (x == ("__debug__" : Str)) = false := by decide) (q2 : starEach (e :: es) X.env = (false, eval e X.env) :: starEach es X.env := by rfl) (q3 : (backTo pos (starEach es X.env)).any (·.1) = false := by rfl) : PE X (.Call (.Name x p) (e :: es) [] pos) (tCall sp dvs E t) :=
  ⟨fun pins s σ H Q I h => wpAny_Call_Name_kw (ld_glob I hg hm (PySem.W.callWith_K (h₀ := X.base) I.ok.mod.kin hk (thn (ha.run pos pins s σ H _ I h) fun us s1 ⟨vs, H1, I1, r, q⟩ => ⟨I1.kIn, run_fnG F cl hr hb hd hx I1 r q⟩) q2 q3) q1)⟩
end
/-- the rule for a def, at clear surroundings -/
theorem fnG {cx : CXT} {P : Program} {w : World} {K : PySem.W.Frag} {mg : Str → Option Value} {base : Heap} {k : Nat} {f : Addr} {fd : FuncData} {name qual : Str} {params : Arguments} {body : List Stmt} {scope : Scope} {dvs : List V} {kws : List (Str × V)} {N ps : List Str} {sp : Sp}
    (F : FunD K name qual params body scope dvs kws f fd) (S : FnScope N ps scope) (len : ∀ vs H Q E, sp vs H Q E → vs.length = ps.length)
    (hbody : ∀ (cdv : Value) (A : Around) (outer : List Env) (s : Shared) (H : Hp) (vs : List V) (Q : VK) (E : XK), Clear (A.deeper (envOfC qual scope s.heap.objs.size f cdv)) → Room k (A.deeper (envOfC qual scope s.heap.objs.size f cdv)) → sp vs H Q E →
      ∃ t, PSs (cxOf cx P w K mg base N qual scope f cdv A outer s H E) body t ∧ t { nx := fun _ H' => Q .non H', rt := Q } (start N vs) H) : FnG P w K mg base cx (k + 1) f fd ps sp := by
  obtain ⟨oc, od, dV, kV, doc, pm, an, cdv, ct, osl, rfl, lk, hcd, _, _⟩ := F.ex
  refine ⟨len, fun A outer s H args us vs Q E cl hr e0 hb r hsp => ?_⟩
  have KX : K.In s.heap := PySem.W.Frag.In.keeps e0.mod.kin fun b o q => And.left (e0.bs b o q)
  have lim : s.heap.NoLimit := Heap.NoLimit.keeps e0.mod.nolimit fun b o q => And.left (e0.bs b o q)
  refine codeAny_call_function hr.depth (KX _ _ lk) rfl S.co S.gen rfl (PySem.W.codeRec_of KX hcd) (hb _ _ _ _ (wpAny_newFunctionEnv_cells S.kind (fun y hy => ?_) fun env he s1 x => ?_))
  · exact (S.par y.1 (List.of_mem_zip hy).1).imp id fun q => ⟨q, PySem.W.cellsFrom_some _ _ _ (.inl q)⟩
  · subst he
    obtain ⟨t, ht, hq⟩ := hbody cdv A outer s H vs Q E cl (hr.deeper _) hsp
    refine ⟨lim.keeps x.toInCall.keep, codeAny_func (wpAny_mono (ht.run [] s1 (start N vs) H _ (inv_start S hr.hd e0 (len _ _ _ _ hsp) r x) hq) (fun fl s' hs => ?_) fun e s' hs => hs)⟩
    cases fl with
    | ret u => exact let ⟨v, _, H', J, rv, q⟩ := hs; ⟨v, H', J.os, J.bare, J.base, J.hok, rv, q⟩
    | next => exact let ⟨_, H', J, q⟩ := hs; ⟨V.non, H', J.os, J.bare, J.base, J.hok, rfl, q⟩
    | brk => exact let ⟨_, _, _, q⟩ := hs; False.elim q
    | cont => exact let ⟨_, _, _, q⟩ := hs; False.elim q
/-- the law's call -/
theorem lawG {P : Program} {w : World} {K : PySem.W.Frag} {mg mb : Str → Option Value} {cx : CXT} {k : Nat} {fa a : Addr} {fd : FuncData} {x : Str} {sp : Sp} {s₁ : Shared} {vs : List Value} {ns : List Int}
    (KX : K.In s₁.heap) (hns : s₁.heap.Ns mainGlobals mg) (hb : s₁.heap.Ns builtinsNs mb) (hbb : ∀ x : Str, x ≠ "__name__" → mb x = bootBuiltins x) (hlim : s₁.heap.NoLimit) (hg : s₁.gens = #[])
    (ha : s₁.heap.get? a = some { cls := .type "list", data := .seq vs.toArray }) (hi : IntsAre vs ns) (hl : ns.length ≤ sizeLine) (hr : Room k callerA)
    (F : ∀ base : Heap, K.In base → base.Ns mainGlobals mg → FnG P w K mg base cx k fa fd [x] sp) (hbind : ∀ (s : Shared) (u : Value), BindsTo s fd ⟨[u], []⟩ [(x, u)])
    (hsp : ∀ H : Hp, Only H → SqL K H a (ns.map V.int) → sp [.ref a] H (fun v _ => v = .bl true) fun _ _ _ => False) (hcx : ∀ H e s', cx [] H s₁ (fun _ _ _ => False) e s' → False) :
    codeAny (model P w) callerA (.call (.ref fa) ⟨[.ref a], []⟩) (fun r s' => r = .ok (.ret (.bool true)) ∧ OldK s₁.heap s'.heap ∧ s'.os = s₁.os ∧ AllBare s'.gens) s₁ := by
  have core : ∀ H : Hp, Only H → SqL K H a (ns.map V.int) → HOk P w H s₁.heap → (∀ b u, H b = some u → b = a) → (∀ u, H a = some u → K.lookup a = none) →
      codeAny (model P w) callerA (.call (.ref fa) ⟨[.ref a], []⟩) (fun r s' => r = .ok (.ret (.bool true)) ∧ OldK s₁.heap s'.heap ∧ s'.os = s₁.os ∧ AllBare s'.gens) s₁ := by
    intro H hO hS hok hA hK
    have nodict : ∀ {b : Addr} {o : Obj} {es : Array DictEntry} {n : Nat}, s₁.heap.get? b = some o → o.data = .dict es n → H b = none := by
      intro b o es n q d
      rcases Option.eq_none_or_eq_some (H b) with z | ⟨u, z⟩
      · exact z
      · have eb := hA b u z
        rw [eb, ha] at q
        cases q
        exact nomatch d
    have nsK : ∀ {b : Addr} {m : Str → Option Value}, s₁.heap.Ns b m → (hidT s₁.heap H).Ns b m := fun ⟨o, es, n, q, d, r⟩ => ⟨o, es, n, hidT_get q (nodict q d), d, r⟩
    have hKb : K.In (hidT s₁.heap H) := by
      intro b o q
      refine hidT_get (KX b o q) ?_
      rcases Option.eq_none_or_eq_some (H b) with z | ⟨u, z⟩
      · exact z
      · have eb := hA b u z
        subst eb
        rw [hK u z] at q
        cases q
    have hM : Mod K mg (hidT s₁.heap H) := ⟨hKb, nsK hns, ⟨mb, nsK hb, hbb⟩, hlim.elim fun mc z => ⟨mc, nsK z.1, z.2⟩⟩
    have e0 : Env0 P w K mg (hidT s₁.heap H) callerA [] s₁ H := ⟨rfl, hM, fun b o q => of_hidT q, Nat.le_of_eq (hidT_size _ _), trivial, fun b z => absurd (show b ∈ ([] : List Addr) from z) (by simp), hok, .of_eq hg⟩
    refine codeAny_mono ((F _ hKb (nsK hns)).run callerA [] s₁ H ⟨[.ref a], []⟩ [.ref a] [.ref a] _ _ rfl hr e0 (hbind s₁ (.ref a)) (.cons rfl .nil) (hsp H hO hS)) fun r s' h => ?_
    rcases r with e | fl
    · exact False.elim (hcx H e s' h)
    · cases fl with
      | ret u =>
        obtain ⟨v, H', os, bare, un, hok', rv, qv⟩ := h
        have ev : v = .bl true := qv
        rw [ev] at rv
        have eu : u = Value.bool true := rv
        rw [eu]
        refine ⟨rfl, OldK.of_keep fun b o q => ?_, os, bare⟩
        rcases hO b with z | ⟨ob, xs, z⟩
        · exact un.keep b o q z (fun y => absurd (show b ∈ ([] : List Addr) from y) (by simp)) (by simp)
        · obtain ⟨e1, _⟩ := hok b _ z
          obtain ⟨e2, _⟩ := hok' b _ (un.frzs b ob _ z)
          exact (q.symm.trans e1) ▸ e2
      | _ => exact False.elim h
  cases hk : K.lookup a with
  | some o =>
    have q := KX a o hk
    rw [ha] at q
    cases q
    exact core (fun _ => none) (fun _ => .inl rfl) (.inr ⟨_, vs.toArray, _, hk, rfl, rfl, rfl, by rw [List.size_toArray, hi.length]; exact hl, by simpa using vals_ints hi⟩) (fun b u z => nomatch (show (none : Option HO) = some u from z)) (fun b u z => nomatch (show (none : Option HO) = some u from z)) fun u z => nomatch (show (none : Option HO) = some u from z)
  | none =>
    refine core (upd (fun _ => none) a (.frz { cls := .type "list", data := .seq vs.toArray } (.lst (ns.map V.int)))) (fun b => ?_) (.inl (.inr ⟨_, upd_same⟩)) (fun b u z => ?_) (fun b u z => ?_) fun _ _ => hk
    · by_cases hb : b = a
      · exact .inr ⟨_, _, by rw [hb]; exact upd_same⟩
      · exact .inl (upd_ne hb)
    · by_cases hb : b = a
      · rw [hb, upd_same] at z
        cases z
        rw [hb]
        exact ⟨ha, by rw [List.length_map]; exact hl, vs, _, vals_ints hi, ha⟩
      · rw [upd_ne hb] at z
        cases z
    · by_cases hb : b = a
      · exact hb
      · rw [upd_ne hb] at z
        cases z
/-- the law's end: over a head by facts, the script's bits told -/
theorem walkG {l : PySem.W.OpenLaw} {n k : Nat} {q : Program} {loose : List Str} {XP : (Str → Option Value) → Heap → Prop} {YP : World → Heap → Prop} {d : DefRec} {cx : CXT} {x : Str}
    (hn : l.most = some n) (hn2 : n ≤ sizeLine) (hdf : d.params.defaults = []) (hr : Room k callerA)
    (F : ∀ (w : World) (mg : Str → Option Value) (fa : Addr) (h : Heap), YP w h → h.Ns mainGlobals mg → mg d.name = some (.ref fa) → ∃ (K : PySem.W.Frag) (fd : FuncData) (sp : Sp), K.In h ∧ (∀ (s : Shared) (u : Value), BindsTo s fd ⟨[u], []⟩ [(x, u)]) ∧
        (∀ (H : Hp) (a : Addr) (ns : List Int), ns.length ≤ n → (∀ z ∈ ns, Builtin.Int.intBits z ≤ 1048576) → Only H → SqL K H a (ns.map V.int) → sp [.ref a] H (fun v _ => v = .bl true) fun _ _ _ => False) ∧
        ∀ base : Heap, K.In base → base.Ns mainGlobals mg → FnG l.prog w K mg base cx k fa fd [x] sp)
    (hcx : ∀ (H : Hp) (s : Shared) (e : Value) (s' : Shared), cx [] H s (fun _ _ _ => False) e s' → False) : PySem.W.WalkO q loose XP YP l.row.toRowW d [] (fun f vs => PySem.call f vs) := by
  refine Att.attach_callB hn hdf fun w s₀ s₁ mg mb fa o pm cd doc a vs ns G Y ho hd hcd hmg hobj hints hlen hbits hg => ?_
  obtain ⟨K, fd, sp, KX, hb, hsp, hF⟩ := F w mg fa _ Y G.T.g hmg
  exact lawG KX G.T.g G.T.b G.T.builtins G.T.nolimit hg hobj hints (Nat.le_trans hlen hn2) hr hF hb (fun H hO hS => hsp H a ns hlen hbits hO hS) fun H e s' => hcx H s₁ e s'
end G
/-! # LB: data of any depth that stand in the heap (lists, tuples, dicts with int and text keys), repr of them -/
namespace G
open PySem PySem.Spec PyProof.Rows L2
def kD : Key → PyData
  | .inl i => .int i
  | .inr x => .str x
/-- v is the datum d -/
inductive Dq (K : PySem.W.Frag) (H : Hp) : V → PyData → Prop
  | non : Dq K H .non .none
  | bl (b : Bool) : Dq K H (.bl b) (.bool b)
  | int (i : Int) : Dq K H (.int i) (.int i)
  | str (x : Str) : Dq K H (.str x) (.str x)
  | lst {a : Addr} {xs : List V} {ds : List PyData} : SqL K H a xs → xs.length = ds.length → (∀ (i : Nat) (x : V) (d : PyData), xs[i]? = some x → ds[i]? = some d → Dq K H x d) → Dq K H (.ref a) (.list ds)
  | tup {a : Addr} {xs : List V} {ds : List PyData} : SqT K H a xs → xs.length = ds.length → (∀ (i : Nat) (x : V) (d : PyData), xs[i]? = some x → ds[i]? = some d → Dq K H x d) → Dq K H (.ref a) (.tuple ds)
  | dct {a : Addr} {kvs : List (Key × V)} {ds : List PyData} : Rd H a (.dK kvs) → kvs.length = ds.length → (∀ (i : Nat) (q : Key × V) (d : PyData), kvs[i]? = some q → ds[i]? = some d → Dq K H q.2 d) →
      Dq K H (.ref a) (.dict ((kvs.map fun q => kD q.1).zip ds))
abbrev DqAll (K : PySem.W.Frag) (H : Hp) : List V → List PyData → Prop := Paired (Dq K H)
theorem paired_at {α β : Type} {F : α → β → Prop} : ∀ {l₁ : List α} {l₂ : List β}, Paired F l₁ l₂ → ∀ (i : Nat) (x : α) (y : β), l₁[i]? = some x → l₂[i]? = some y → F x y
  | _, _, .nil, i, x, y, h, _ => by simp at h
  | _, _, .cons r t, 0, x, y, h, h' => by
    simp at h h'
    subst h h'
    exact r
  | _, _, .cons r t, i + 1, x, y, h, h' => paired_at t i x y (by simpa using h) (by simpa using h')
theorem Dq.lstA {K : PySem.W.Frag} {H : Hp} {a : Addr} {xs : List V} {ds : List PyData} (h : SqL K H a xs) (p : DqAll K H xs ds) : Dq K H (.ref a) (.list ds) := .lst h (Paired.length p) (paired_at p)
theorem Dq.tupA {K : PySem.W.Frag} {H : Hp} {a : Addr} {xs : List V} {ds : List PyData} (h : SqT K H a xs) (p : DqAll K H xs ds) : Dq K H (.ref a) (.tuple ds) := .tup h (Paired.length p) (paired_at p)
theorem Dq.lstH {K : PySem.W.Frag} {H : Hp} {a : Addr} {xs : List V} {ds : List PyData} (h : H a = some (.lst xs)) (p : DqAll K H xs ds) : Dq K H (.ref a) (.list ds) := .lstA (SqL.of h) p
theorem Dq.tupH {K : PySem.W.Frag} {H : Hp} {a : Addr} {xs : List V} {ds : List PyData} (h : H a = some (.tup xs)) (p : DqAll K H xs ds) : Dq K H (.ref a) (.tuple ds) := .tupA (SqT.of h) p
/-- the script's module dict stands in the written part (no list, no dict of the law is it) -/
def SysIn (K : PySem.W.Frag) : Prop := ∃ o es n, K.lookup sysModules = some o ∧ o.data = .dict es n
theorem readsAll_of {h : Heap} : ∀ {us : List Value} {ds : List PyData}, us.length = ds.length → (∀ (i : Nat) (u : Value) (d : PyData), us[i]? = some u → ds[i]? = some d → ∃ as, Reads h u d as ∧ sysModules ∉ as) → ∃ as, ReadsAll h us ds as ∧ sysModules ∉ as
  | [], [], _, _ => ⟨[], .nil, by simp⟩
  | [], _ :: _, hl, _ => by simp at hl
  | _ :: _, [], hl, _ => by simp at hl
  | u :: us, d :: ds, hl, f => by
    obtain ⟨as, r1, n1⟩ := f 0 u d rfl rfl
    obtain ⟨bs, r2, n2⟩ := readsAll_of (us := us) (ds := ds) (by simpa using hl) fun i x y e1 e2 => f (i + 1) x y (by simpa using e1) (by simpa using e2)
    refine ⟨as ++ bs, .cons r1 r2, fun z => ?_⟩
    rcases List.mem_append.mp z with z | z
    · exact n1 z
    · exact n2 z
theorem pairs_keys {P : Program} {w : World} : ∀ {es : List DictEntry} {vs : List (Key × Value)}, Pairs (mixKind P w) es vs → es.length = vs.length ∧ (∀ (i : Nat) (e : DictEntry) (q : Key × Value), es[i]? = some e → vs[i]? = some q → keyIs q.1 e.key = true ∧ e.val = q.2)
  | _, _, .nil => ⟨rfl, fun i e q h => by simp at h⟩
  | _, _, .cons a b t => by
    obtain ⟨h1, h2⟩ := pairs_keys t
    refine ⟨by simp [h1], fun i e q he hq => ?_⟩
    cases i with
    | zero =>
      simp at he hq
      subst he hq
      exact ⟨a, b⟩
    | succ i => exact h2 i e q (by simpa using he) (by simpa using hq)
theorem zip_fst {α β : Type} : ∀ {l₁ : List α} {l₂ : List β}, l₁.length = l₂.length → (l₁.zip l₂).map (·.1) = l₁
  | [], [], _ => rfl
  | [], _ :: _, h => by simp at h
  | _ :: _, [], h => by simp at h
  | a :: l₁, b :: l₂, h => by
    show a :: (l₁.zip l₂).map (·.1) = a :: l₁
    rw [zip_fst (by simpa using h)]
theorem zip_snd {α β : Type} : ∀ {l₁ : List α} {l₂ : List β}, l₁.length = l₂.length → (l₁.zip l₂).map (·.2) = l₂
  | [], [], _ => rfl
  | [], _ :: _, h => by simp at h
  | _ :: _, [], h => by simp at h
  | a :: l₁, b :: l₂, h => by
    show b :: (l₁.zip l₂).map (·.2) = b :: l₂
    rw [zip_snd (by simpa using h)]
section
variable {X : Cx} {pins : List (Addr × Obj)} {σ : L2.St} {H : Hp} {s : Shared}
theorem tracked_ne (I : Inv X pins σ H s) (S : SysIn X.K) {a : Addr} {o : HO} (h : H a = some o) : a ≠ sysModules := by
  obtain ⟨ob, es, n, hk, _⟩ := S
  have z := (I.bs _ _ (I.ok.mod.kin _ _ hk)).2
  exact ne_of_none h z
theorem rd_ne (I : Inv X pins σ H s) (S : SysIn X.K) {a : Addr} {o : HO} (h : Rd H a o) : a ≠ sysModules := by
  rcases h with h | ⟨_, h⟩
  · exact tracked_ne I S h
  · exact tracked_ne I S h
theorem kv_at : ∀ {kvs : List (Key × V)} {vs : List (Key × Value)}, KV kvs vs → kvs.length = vs.length ∧ ∀ (i : Nat) (q : Key × Value), vs[i]? = some q → ∃ p, kvs[i]? = some p ∧ p.1 = q.1 ∧ RelV p.2 q.2
  | _, _, .nil => ⟨rfl, fun i q h => by simp at h⟩
  | _, _, .cons r t => by
    obtain ⟨h1, h2⟩ := kv_at t
    refine ⟨by simp [h1], fun i q hq => ?_⟩
    cases i with
    | zero =>
      simp at hq
      subst hq
      exact ⟨_, rfl, r⟩
    | succ i => exact h2 i q (by simpa using hq)
theorem Dq.reads (I : Inv X pins σ H s) (S : SysIn X.K) {v : V} {d : PyData} (h : Dq X.K H v d) : ∀ u, RelV v u → ∃ as, Reads s.heap u d as ∧ sysModules ∉ as := by
  induction h with
  | non => exact fun u r => ⟨[], (show u = Value.none from r) ▸ Reads.none, by simp⟩
  | bl b => exact fun u r => ⟨[], (show u = Value.bool b from r) ▸ Reads.bool b, by simp⟩
  | int i =>
    intro u r
    obtain ⟨t, rfl⟩ := r
    exact ⟨[], Reads.int i t, by simp⟩
  | str x =>
    intro u r
    obtain ⟨t, rfl⟩ := r
    exact ⟨[], Reads.str x t, by simp⟩
  | @lst a xs ds hs hl _ ih =>
    intro u r
    cases (show u = Value.ref a from r)
    obtain ⟨its, rv, ⟨o, n, ho, hc, _, hd⟩, _⟩ := I.list hs
    have el := rv.length
    obtain ⟨as, hr, hn⟩ := readsAll_of (h := s.heap) (us := its) (ds := ds) (by omega) fun i u d hu hd => by
      have hi : i < xs.length := by
        have := (List.getElem?_eq_some_iff.mp hu).1
        omega
      obtain ⟨u', hu', ru⟩ := rv.get (List.getElem?_eq_getElem hi)
      rw [hu] at hu'
      cases hu'
      exact ih i _ d (List.getElem?_eq_getElem hi) hd _ ru
    refine ⟨a :: as, Reads.list ho hc hd hr, fun z => ?_⟩
    rcases List.mem_cons.mp z with z | z
    · rcases hs with q | ⟨o', its', n', hk, _, _, hd', _⟩
      · exact rd_ne I S q z.symm
      · obtain ⟨ob, es, m, hk2, hd2⟩ := S
        rw [← z, hk2] at hk
        cases hk
        rw [hd2] at hd'
        cases hd'
    · exact hn z
  | @tup a xs ds hs hl _ ih =>
    intro u r
    cases (show u = Value.ref a from r)
    obtain ⟨its, rv, ⟨o, ho, hc, n, hd⟩, _⟩ := I.tuple hs
    have el := rv.length
    obtain ⟨as, hr, hn⟩ := readsAll_of (h := s.heap) (us := its) (ds := ds) (by omega) fun i u d hu hd => by
      have hi : i < xs.length := by
        have := (List.getElem?_eq_some_iff.mp hu).1
        omega
      obtain ⟨u', hu', ru⟩ := rv.get (List.getElem?_eq_getElem hi)
      rw [hu] at hu'
      cases hu'
      exact ih i _ d (List.getElem?_eq_getElem hi) hd _ ru
    exact ⟨as, Reads.tuple ho hc hd hr, hn⟩
  | @dct a kvs ds hs hl _ ih =>
    intro u r
    cases (show u = Value.ref a from r)
    obtain ⟨z, hsys, vs, rel, o, es, ep, ho, ex, hd, _, prs, _⟩ := dk_rd I.hok hs
    obtain ⟨l1, k1⟩ := pairs_keys prs
    obtain ⟨l2, k2⟩ := kv_at rel
    have lk : (kvs.map fun q => kD q.1).length = ds.length := by rw [List.length_map]; exact hl
    obtain ⟨as, r1, n1⟩ := readsAll_of (h := s.heap) (us := es.toList.map (·.key)) (ds := kvs.map fun q => kD q.1) (by rw [List.length_map, List.length_map]; omega) fun i u d hu hd => by
      rw [List.getElem?_map] at hu hd
      obtain ⟨e, he, rfl⟩ := Option.map_eq_some_iff.mp hu
      obtain ⟨q, hq, rfl⟩ := Option.map_eq_some_iff.mp hd
      have hi : i < vs.length := by
        have := (List.getElem?_eq_some_iff.mp hq).1
        omega
      obtain ⟨p, hp, e1, _⟩ := k2 i _ (List.getElem?_eq_getElem hi)
      rw [hq] at hp
      cases hp
      have kk := (k1 i e _ he (List.getElem?_eq_getElem hi)).1
      rw [← e1] at kk
      rcases keyIs_shape kk with ⟨j, t, e2, e3⟩ | ⟨y, t, e2, e3⟩
      · rw [e2, e3]
        exact ⟨[], Reads.int j t, by simp⟩
      · rw [e2, e3]
        exact ⟨[], Reads.str y t, by simp⟩
    obtain ⟨bs, r2, n2⟩ := readsAll_of (h := s.heap) (us := es.toList.map (·.val)) (ds := ds) (by rw [List.length_map]; omega) fun i u d hu hd => by
      rw [List.getElem?_map] at hu
      obtain ⟨e, he, rfl⟩ := Option.map_eq_some_iff.mp hu
      have hi : i < vs.length := by
        have := (List.getElem?_eq_some_iff.mp he).1
        omega
      obtain ⟨p, hp, e1, rp⟩ := k2 i _ (List.getElem?_eq_getElem hi)
      have vv := (k1 i e _ he (List.getElem?_eq_getElem hi)).2
      rw [vv]
      exact ih i p d hp hd _ rp
    refine ⟨a :: as ++ bs, Reads.dict ho ex.1 hd (by rw [zip_fst lk]; exact r1) (by rw [zip_snd lk]; exact r2), fun z => ?_⟩
    rcases List.mem_append.mp z with z | z
    · rcases List.mem_cons.mp z with z | z
      · exact rd_ne I S hs z.symm
      · exact n1 z
    · exact n2 z
end
/-- what may be shown: at most n signs, at most k levels -/
structure Okd (n k : Nat) (d : PyData) : Prop where
  sh : d.showable = true
  dp : d.depth ≤ k
  ln : d.shown.length ≤ n
theorem Okd.mono {n k n' k' : Nat} {d : PyData} (h : Okd n k d) (hn : n ≤ n') (hk : k ≤ k') : Okd n' k' d := ⟨h.sh, Nat.le_trans h.dp hk, Nat.le_trans h.ln hn⟩
theorem Okd.none : Okd 5 0 .none := ⟨rfl, Nat.le_refl _, by decide⟩
theorem Okd.bool (b : Bool) : Okd 5 0 (.bool b) := by cases b <;> exact ⟨rfl, Nat.le_refl _, by decide⟩
theorem Okd.int {i : Int} (h : i.natAbs < 10 ^ 40) : Okd 41 0 (.int i) := by
  refine ⟨?_, Nat.le_refl _, ?_⟩
  · show decide (i.natAbs.log2 < 1920) = true
    have h2 : i.natAbs < 2 ^ 200 := Nat.lt_of_lt_of_le h (by decide)
    by_cases z : i.natAbs = 0
    · rw [z]; decide
    · have := (Nat.log2_lt z).mpr h2
      exact decide_eq_true (by omega)
  · have e := int_text_length_le10 (k := 40) (by decide) h
    show (Str.ofString (toString i)).length ≤ 41
    rw [PySem.ofString_length]
    exact e
/-- a text of signs that are Unicode's -/
def Signs (x : Str) : Prop := ∀ c ∈ x.cps.toList, c < 1114112
theorem Okd.str {n : Nat} {x : Str} (h : Signs x) (hl : x.length ≤ n) : Okd (10 * n + 2) 0 (.str x) := by
  refine ⟨rfl, Nat.le_refl _, ?_⟩
  have e := StrLaws.reprText_len x fun c hc => Nat.lt_trans (h c hc) (by decide)
  show (reprText x).length ≤ _
  omega
theorem sum_le {n : Nat} : ∀ {l : List Nat}, (∀ x ∈ l, x ≤ n) → l.sum ≤ l.length * n
  | [], _ => by simp
  | a :: l, h => by
    have h1 := h a List.mem_cons_self
    have h2 := sum_le (l := l) fun x hx => h x (List.mem_cons_of_mem _ hx)
    simp only [List.sum_cons, List.length_cons, Nat.add_mul, Nat.one_mul]
    omega
theorem shownAll_map : ∀ ds : List PyData, PyData.shownAll ds = ds.map PyData.shown
  | [] => rfl
  | d :: ds => by simp only [PyData.shownAll, List.map_cons, shownAll_map ds]
theorem showableAll_of : ∀ {ds : List PyData}, (∀ d ∈ ds, d.showable = true) → PyData.showableAll ds = true
  | [], _ => rfl
  | d :: ds, h => by simp only [PyData.showableAll, h d List.mem_cons_self, showableAll_of (ds := ds) fun x hx => h x (List.mem_cons_of_mem _ hx), Bool.and_self]
theorem depthAll_of {k : Nat} : ∀ {ds : List PyData}, (∀ d ∈ ds, d.depth ≤ k) → PyData.depthAll ds ≤ k
  | [], _ => Nat.zero_le _
  | d :: ds, h => by
    have h1 := h d List.mem_cons_self
    have h2 := depthAll_of (k := k) (ds := ds) fun x hx => h x (List.mem_cons_of_mem _ hx)
    simp only [PyData.depthAll]
    omega
theorem shownAll_sum {n : Nat} {ds : List PyData} (h : ∀ d ∈ ds, d.shown.length ≤ n) : ((PyData.shownAll ds).map (·.length)).sum ≤ ds.length * n := by
  have e := sum_le (n := n) (l := (PyData.shownAll ds).map (·.length)) fun x hx => by
    rw [shownAll_map, List.map_map] at hx
    obtain ⟨d, hd, rfl⟩ := List.mem_map.mp hx
    exact h d hd
  rw [List.length_map, PyData.shownAll_length] at e
  exact e
theorem Okd.list {n k : Nat} {ds : List PyData} (h : ∀ d ∈ ds, Okd n k d) : Okd (ds.length * (n + 2) + 3) (k + 1) (.list ds) := by
  refine ⟨by simp only [PyData.showable]; exact showableAll_of fun d hd => (h d hd).sh, by simp only [PyData.depth]; exact Nat.succ_le_succ (depthAll_of fun d hd => (h d hd).dp), ?_⟩
  have e := listText_len_le (PyData.shownAll ds)
  have e2 := shownAll_sum (n := n) fun d hd => (h d hd).ln
  have e3 := PyData.shownAll_length ds
  simp only [PyData.shown]
  rw [Nat.mul_add]
  omega
theorem Okd.tuple {n k : Nat} {ds : List PyData} (h : ∀ d ∈ ds, Okd n k d) : Okd (ds.length * (n + 2) + 3) (k + 1) (.tuple ds) := by
  refine ⟨by simp only [PyData.showable]; exact showableAll_of fun d hd => (h d hd).sh, by simp only [PyData.depth]; exact Nat.succ_le_succ (depthAll_of fun d hd => (h d hd).dp), ?_⟩
  have e := tupleText_len_le (PyData.shownAll ds)
  have e2 := shownAll_sum (n := n) fun d hd => (h d hd).ln
  have e3 := PyData.shownAll_length ds
  simp only [PyData.shown]
  rw [Nat.mul_add]
  omega
theorem showableKv_of : ∀ {kvs : List (PyData × PyData)}, (∀ q ∈ kvs, q.1.showable = true ∧ q.2.showable = true) → PyData.showableKv kvs = true
  | [], _ => rfl
  | (a, b) :: r, h => by
    obtain ⟨h1, h2⟩ := h (a, b) List.mem_cons_self
    simp only [PyData.showableKv, h1, h2, showableKv_of (kvs := r) fun x hx => h x (List.mem_cons_of_mem _ hx), Bool.and_self]
theorem depthKv_of {k : Nat} : ∀ {kvs : List (PyData × PyData)}, (∀ q ∈ kvs, q.1.depth ≤ k ∧ q.2.depth ≤ k) → PyData.depthKv kvs ≤ k
  | [], _ => Nat.zero_le _
  | (a, b) :: r, h => by
    obtain ⟨h1, h2⟩ := h (a, b) List.mem_cons_self
    have h3 := depthKv_of (k := k) (kvs := r) fun x hx => h x (List.mem_cons_of_mem _ hx)
    simp only [PyData.depthKv]
    simp only at h1 h2
    omega
theorem shownKv_sum {n : Nat} : ∀ {kvs : List (PyData × PyData)}, (∀ q ∈ kvs, q.1.shown.length ≤ n ∧ q.2.shown.length ≤ n) → ((PyData.shownKv kvs).map (·.length)).sum ≤ kvs.length * (2 * n + 2)
  | [], _ => by simp [PyData.shownKv]
  | (a, b) :: r, h => by
    obtain ⟨h1, h2⟩ := h (a, b) List.mem_cons_self
    have h3 := shownKv_sum (n := n) (kvs := r) fun x hx => h x (List.mem_cons_of_mem _ hx)
    have e2 : (a.shown ++ ": " ++ b.shown).length = a.shown.length + 2 + b.shown.length := by
      rw [strLen_append, strLen_append]; rfl
    simp only [PyData.shownKv, List.map_cons, List.sum_cons, List.length_cons, e2, Nat.add_mul, Nat.one_mul]
    simp only at h1 h2
    omega
theorem Okd.dict {n k : Nat} {kvs : List (PyData × PyData)} (h : ∀ q ∈ kvs, Okd n k q.1 ∧ Okd n k q.2) : Okd (kvs.length * (2 * n + 4) + 3) (k + 1) (.dict kvs) := by
  refine ⟨by simp only [PyData.showable]; exact showableKv_of fun d hd => ⟨(h d hd).1.sh, (h d hd).2.sh⟩, by simp only [PyData.depth]; exact Nat.succ_le_succ (depthKv_of fun d hd => ⟨(h d hd).1.dp, (h d hd).2.dp⟩), ?_⟩
  have e := dictText_len_le (PyData.shownKv kvs)
  have e2 := shownKv_sum (n := n) fun d hd => ⟨(h d hd).1.ln, (h d hd).2.ln⟩
  have e3 := PyData.shownKv_length kvs
  simp only [PyData.shown]
  rw [show 2 * n + 4 = (2 * n + 2) + 2 from by omega, Nat.mul_add]
  omega
/-- repr(v) -/
def rRepr (K : PySem.W.Frag) : List V → Hp → VK → Prop := fun xs H Q => ∃ v d, xs = [v] ∧ Dq K H v d ∧ Okd 16000000 60 d ∧ Q (.str d.shown) H
theorem call_reprD {X : Cx} {k : Nat} (cl : Clear X.A) (hr : Room k X.A) (S : SysIn X.K) : CallR X (.builtin "repr") (rRepr X.K) := by
  intro pins s σ H xs us Q I r h
  obtain ⟨v, d, rfl, hd, ok, q⟩ := h
  obtain ⟨u, us', ru, rn, rfl⟩ : ∃ u us', RelV v u ∧ Vals [] us' ∧ us = u :: us' := by
    cases r with
    | cons a b => exact ⟨_, _, a, b, rfl⟩
  cases rn
  have sz : d.shown.length ≤ sizeLine := Nat.le_trans ok.ln (by rw [sizeLine_eq]; decide)
  have un := hr.un
  obtain ⟨as, rd, ns⟩ := hd.reads I S u ru
  cases rd with
  | none => exact PySem.P.repr_of_none ⟨.str _, H, I.tok _, ⟨_, rfl⟩, q⟩
  | bool b => exact PySem.P.repr_of_bool ⟨.str _, H, I.tok _, ⟨_, rfl⟩, q⟩
  | int i t => exact PySem.P.repr_of_int (by have z := ok.sh; simpa [PyData.showable] using z) ⟨.str _, H, I.tok _, ⟨_, rfl⟩, q⟩
  | str x t => exact PySem.P.repr_of_str ⟨.str _, H, I.tok _, ⟨_, rfl⟩, q⟩ sz
  | list h1 h2 h3 h4 => exact repr_of_reads' (.list h1 h2 h3 h4) ok.sh (fun _ => ns) cl (by have := ok.dp; omega) (fun _ _ z => z) (fun h' u tk kp => ⟨.str _, H, I.kept kp, ⟨_, rfl⟩, q⟩) sz
  | tuple h1 h2 h3 h4 => exact repr_of_reads' (.tuple h1 h2 h3 h4) ok.sh (fun _ => ns) cl (by have := ok.dp; omega) (fun _ _ z => z) (fun h' u tk kp => ⟨.str _, H, I.kept kp, ⟨_, rfl⟩, q⟩) sz
  | dict h1 h2 h3 h4 h5 => exact repr_of_reads' (.dict h1 h2 h3 h4 h5) ok.sh (fun _ => ns) cl (by have := ok.dp; omega) (fun _ _ z => z) (fun h' u tk kp => ⟨.str _, H, I.kept kp, ⟨_, rfl⟩, q⟩) sz
end G
/-! # LC: the head's facts -/
namespace G
open PySem PySem.Spec PyProof.Rows L2
def sysB (K : PySem.W.Frag) : Bool := match K.lookup sysModules with
  | some ⟨_, _, .dict _ _, _⟩ => true
  | _ => false
theorem sysB_ok {K : PySem.W.Frag} (h : sysB K = true) : SysIn K := by
  unfold sysB at h
  split at h
  · exact ⟨_, _, _, by assumption, rfl⟩
  · cases h
abbrev AlG : Type := He.AlD × Bool
def frK (n : Nat) (g : Addr → Option Obj) : PySem.W.Frag := He.frG g (sysModules :: He.asD g n)
def obsG (n : Nat) (fa : List He.Fa) (fn : List He.DefD) (ex : PySem.W.Frag → Bool) (g : Addr → Option Obj) : AlG := (He.obsD fa fn (frK n g), ex (frK n g) && sysB (frK n g))
structure SaysG (fa : List He.Fa) (fn : List He.DefD) (ex : PySem.W.Frag → Bool) (K : PySem.W.Frag) : Prop where
  d : He.SaysD fa fn K
  more : ex K = true
  sys : SysIn K
theorem saysG_of {n : Nat} {fa : List He.Fa} {fn : List He.DefD} {ex : PySem.W.Frag → Bool} {g : Addr → Option Obj} (e : obsG n fa fn ex g = (He.valD fn, true)) : SaysG fa fn ex (frK n g) := by
  have e1 : He.obsD fa fn (frK n g) = He.valD fn := congrArg (fun z : AlG => z.1) e
  have e2 : (ex (frK n g) && sysB (frK n g)) = true := congrArg (fun z : AlG => z.2) e
  obtain ⟨h1, h2⟩ := He.ba e2
  exact ⟨e1, h1, sysB_ok h2⟩
def hookG (n : Nat) (fa : List He.Fa) (fn : List He.DefD) (ex : PySem.W.Frag → Bool) : PySem.W.Hook where
  α := AlG
  obs := fun s => obsG n fa fn ex s.heap.get?
  val := fun _ => (He.valD fn, true)
  says := fun _ h => ∃ K : PySem.W.Frag, K.In h ∧ SaysG fa fn ex K
  of := fun _ _ e => ⟨_, He.frG_in, saysG_of e⟩
  keeps := fun _ _ _ ⟨K, hK, c⟩ k => ⟨K, PySem.W.Frag.In.keeps hK k, c⟩
theorem obsG_eq {n : Nat} {fa : List He.Fa} {fn : List He.DefD} {ex : PySem.W.Frag → Bool} {g : Addr → Option Obj} {s : Shared} (h : ∀ a, g a = s.heap.get? a) : obsG n fa fn ex g = (hookG n fa fn ex).obs s := by
  rw [show g = s.heap.get? from funext h] <;> rfl
/-- the function object at f -/
def fdOf (K : PySem.W.Frag) (f : Addr) : FuncData := match K.lookup f with
  | some ⟨_, _, .func fd, _⟩ => fd
  | _ => PySem.W.fnOf Str.empty Str.empty { posonlyargs := [], args := [], vararg := none, kwonlyargs := [], kw_defaults := [], kwarg := none, defaults := [] } [] { kind := .function, names := [], isGenerator := false, isCoroutine := false } .none .none .none .none none .none .none
theorem fdOf_eq {K : PySem.W.Frag} {x qual : Str} {params : Arguments} {body : List Stmt} {scope : Scope} {dvs : List V} {kws : List (Str × V)} {f : Addr} {fd : FuncData} (F : FunD K x qual params body scope dvs kws f fd) : fdOf K f = fd := by
  obtain ⟨oc, od, dV, kV, doc, pm, an, cdv, ct, osl, rfl, lk, _⟩ := F.ex
  unfold fdOf
  rw [lk]
/-- what the head has said of the written part, and that the module's names are read off it -/
structure Hd (fa : List He.Fa) (fn : List He.DefD) (ex : PySem.W.Frag → Bool) (K : PySem.W.Frag) (mg : Str → Option Value) : Prop where
  s : SaysG fa fn ex K
  at_ : ∃ h : Heap, K.In h ∧ h.Ns mainGlobals mg
section
variable {fa : List He.Fa} {fn : List He.DefD} {ex : PySem.W.Frag → Bool} {K : PySem.W.Frag} {mg : Str → Option Value}
theorem Hd.sys (c : Hd fa fn ex K mg) : SysIn K := c.s.sys
theorem Hd.fun_ (c : Hd fa fn ex K mg) (i : Nat) {d : He.DefD} (h : fn[i]? = some d := by rfl) : FunD K d.name d.qual d.params d.body d.scope (d.dvs K) (d.kws K) (He.fAd K d.at_) (fdOf K (He.fAd K d.at_)) := by
  obtain ⟨fd, F⟩ := c.s.d.def_ i h
  rw [fdOf_eq F]
  exact F
theorem Hd.free (c : Hd fa fn ex K mg) (i : Nat) {x : Str} (h : fa[i]? = some (.free x) := by rfl) : mg x = none := let ⟨_, X, N⟩ := c.at_; He.free_ok X N (c.s.d.fact i h)
theorem Hd.glo (c : Hd fa fn ex K mg) (i : Nat) {x : Str} (h : fa[i]? = some (.glo x) := by rfl) : mg x = some (.ref (He.ga K x)) := let ⟨_, X, N⟩ := c.at_; He.glo_ok X N (c.s.d.fact i h)
theorem Hd.int (c : Hd fa fn ex K mg) (i : Nat) {x : Str} {z : Int} (h : fa[i]? = some (.int x z) := by rfl) : ∃ t, mg x = some (.int z t) := let ⟨_, X, N⟩ := c.at_; He.int_ok X N (c.s.d.fact i h)
theorem Hd.str (c : Hd fa fn ex K mg) (i : Nat) {x z : Str} (h : fa[i]? = some (.str x z) := by rfl) : ∃ t, mg x = some (.str z t) := let ⟨_, X, N⟩ := c.at_; He.str_ok X N (c.s.d.fact i h)
end
section
variable {X : Cx} {x : Str} {pos : Pos}
theorem pe_gint {i : Int} (h : ∃ t, X.mg x = some (.int i t)) (hg : Gl X x := by rfl) (hd : (x == ("__debug__" : Str)) = false := by decide) (hn : x ≠ "__name__" := by decide) : PE X (.Name x pos) (tC (.int i)) := h.elim fun t e => pe_glob (v := .int i) hg e ⟨t, rfl⟩ hd
theorem pe_gstr {z : Str} (h : ∃ t, X.mg x = some (.str z t)) (hg : Gl X x := by rfl) (hd : (x == ("__debug__" : Str)) = false := by decide) (hn : x ≠ "__name__" := by decide) : PE X (.Name x pos) (tC (.str z)) := h.elim fun t e => pe_glob (v := .str z) hg e ⟨t, rfl⟩ hd
theorem pe_ty {T : String} (hm : X.mg x = none) (hv : bootBuiltins x = some (.type T)) (hg : Gl X x := by rfl) (hd : (x == ("__debug__" : Str)) = false := by decide) (hn : x ≠ "__name__" := by decide) : PE X (.Name x pos) (tC (.ty T)) := pe_bltn (v := .ty T) hg hm hv rfl hn hd
end
end G
/-! # LD: readings, step by step; heaps; the drawing box -/
namespace G
open PySem PySem.Spec PyProof.Rows L2
section
variable {σ : L2.St} {H : Hp} {Q : VK} {K : PySem.W.Frag}
theorem i_var {i : Nat} {v : V} (h : σ[i]? = some (some v)) (q : Q v H) : tVar i σ H Q := ⟨v, h, q⟩
theorem i_c {v : V} (q : Q v H) : tC v σ H Q := q
theorem i_op {r : R2} {ta tb : TE} (q : ta σ H fun x H1 => tb σ H1 fun y H2 => r x y H2 Q) : tOp r ta tb σ H Q := q
theorem i_un {r : V → Hp → VK → Prop} {ta : TE} (q : ta σ H fun x H1 => r x H1 Q) : tUn r ta σ H Q := q
theorem i_I0 {g : Int → Int → V} {i j : Int} (q : Q (g i j) H) : rI0 g (.int i) (.int j) H Q := ⟨i, j, rfl, rfl, q⟩
theorem i_I {C : Int → Int → Prop} {g : Int → Int → V} {i j : Int} (c : C i j) (q : Q (g i j) H) : rI C g (.int i) (.int j) H Q := ⟨i, j, rfl, rfl, c, q⟩
theorem i_U {g : Int → V} {i : Int} (q : Q (g i) H) : rU g (.int i) H Q := ⟨i, rfl, q⟩
theorem i_eq {x y : V} (s : scal x y = true) (q : Q (.bl (decide (x = y))) H) : rEq x y H Q := ⟨s, q⟩
theorem i_ne {x y : V} (s : scal x y = true) (q : Q (.bl (!decide (x = y))) H) : rNe x y H Q := ⟨s, q⟩
theorem i_test {t : TE} {R : Bool → Hp → Prop} (q : t σ H fun x H' => ∃ k, x = .bl k ∧ R k H') : tTest t σ H R := q
theorem i_B {t : TE} {R : Bool → Hp → Prop} (q : t σ H fun x H' => ∃ k, x = .bl k ∧ R k H') : tB t σ H R := q
theorem i_bl {b : Bool} {R : Bool → Prop} (q : R b) : ∃ k, V.bl b = V.bl k ∧ R k := ⟨b, rfl, q⟩
theorem i_not {t : TT} {R : Bool → Hp → Prop} (q : t σ H fun c H1 => R (!c) H1) : tNot t σ H R := q
theorem i_notV {t : TE} (q : t σ H fun x H1 => ∃ c, x = .bl c ∧ Q (.bl (!c)) H1) : tNotV t σ H Q := q
theorem i_andV {ta tb : TE} (q : ta σ H fun x H1 => ∃ c, x = .bl c ∧ if c = true then tb σ H1 Q else Q (.bl false) H1) : tAndV ta tb σ H Q := q
theorem i_orV {ta tb : TE} (q : ta σ H fun x H1 => ∃ c, x = .bl c ∧ if c = true then Q (.bl true) H1 else tb σ H1 Q) : tOrV ta tb σ H Q := q
theorem i_and {t u : TT} {R : Bool → Hp → Prop} (q : t σ H fun c H1 => if c = true then u σ H1 R else R false H1) : tAnd t u σ H R := q
theorem i_or {t u : TT} {R : Bool → Hp → Prop} (q : t σ H fun c H1 => if c = true then R true H1 else u σ H1 R) : tOr t u σ H R := q
theorem i_if {t : TT} {ta tb : TE} (q : t σ H fun c H1 => if c = true then ta σ H1 Q else tb σ H1 Q) : tIf t ta tb σ H Q := q
theorem i_chain {r r' : R2} {ta tb tc : TE} (q : ta σ H fun x H1 => tb σ H1 fun y H2 => r x y H2 fun z H3 => ∃ k, z = .bl k ∧ (if k = true then tc σ H3 fun w' H4 => r' y w' H4 Q else Q (.bl false) H3)) : tChain r r' ta tb tc σ H Q := q
theorem i_cons {ta : TE} {tr : TA} {R : List V → Hp → Prop} (q : ta σ H fun x H1 => tr σ H1 fun xs H2 => R (x :: xs) H2) : tCons ta tr σ H R := q
theorem i_nil {R : List V → Hp → Prop} (q : R [] H) : tNil σ H R := q
theorem i_lst {t : TA} (q : t σ H fun xs H1 => xs.length ≤ sizeLine ∧ ∀ p, H1 p = none → Q (.ref p) (upd H1 p (.lst xs))) : tLst t σ H Q := q
theorem i_tup {t : TA} (q : t σ H fun xs H1 => xs.length ≤ sizeLine ∧ ∀ p, H1 p = none → Q (.ref p) (upd H1 p (.tup xs))) : tTup t σ H Q := q
theorem i_cb {r : List V → Hp → VK → Prop} {t : TA} (q : t σ H fun vs H1 => r vs H1 Q) : tCB r t σ H Q := q
theorem i_call {sp : Sp} {E : XK} {t : TA} (q : t σ H fun vs H1 => sp (vs ++ []) H1 Q E) : tCall sp [] E t σ H Q := q
theorem i_ii {i j : Int} {R : Int → Int → Prop} (q : R i j) : ∃ i' j', [V.int i, V.int j] = [V.int i', V.int j'] ∧ R i' j' := ⟨i, j, rfl, q⟩
theorem i_ss {i j : Str} {R : Str → Str → Prop} (q : R i j) : ∃ i' j', V.str i = V.str i' ∧ V.str j = V.str j' ∧ R i' j' := ⟨i, j, rfl, rfl, q⟩
theorem i_ixL {p : Addr} {xs : List V} {i : Int} {v : V} (h : SqL K H p xs) (e : atI xs i = some v) (q : Q v H) : rIxL K (.ref p) (.int i) H Q := ⟨p, xs, i, v, rfl, rfl, h, e, q⟩
theorem i_ixT {p : Addr} {xs : List V} {i : Int} {v : V} (h : SqT K H p xs) (e : atI xs i = some v) (q : Q v H) : rIxT K (.ref p) (.int i) H Q := ⟨p, xs, i, v, rfl, rfl, h, e, q⟩
theorem i_ixS {z : Str} {i : Int} {c : Nat} (l : z.length ≤ sizeLine) (e : atI z.cps.toList i = some c) (q : Q (.str ⟨#[c]⟩) H) : rIxS (.str z) (.int i) H Q := ⟨z, i, c, rfl, rfl, l, e, q⟩
theorem i_sl {r : V → Option Int → Option Int → Hp → VK → Prop} {te : TE} {tl th : TO} (q : te σ H fun x H1 => tl σ H1 fun l H2 => th σ H2 fun u H3 => r x l u H3 Q) : tSl r te tl th σ H Q := q
theorem i_noPart {R : Option Int → Hp → Prop} (q : R none H) : tNoPart σ H R := q
theorem i_part {t : TE} {R : Option Int → Hp → Prop} (q : t σ H fun x H1 => ∃ i, x = .int i ∧ R (some i) H1) : tPart t σ H R := q
theorem i_int {i : Int} {R : Int → Prop} (q : R i) : ∃ j, V.int i = V.int j ∧ R j := ⟨i, rfl, q⟩
end
section
variable {σ : L2.St} {H : Hp} {D : Ends} {K : PySem.W.Frag}
theorem i_seq {t u : TS} (q : t { D with nx := u D } σ H) : tSeq t u D σ H := q
theorem i_asg {te : TE} {g : TG} (q : te σ H fun x H1 => g x σ H1 D.nx) : tAsg te g D σ H := q
theorem i_name {i : Nat} {v : V} {R : L2.St → Hp → Prop} (q : R (σ.set i (some v)) H) : gName i v σ H R := q
theorem i_ret {te : TE} (q : te σ H D.rt) : tRet te D σ H := q
theorem i_retN (q : D.rt .non H) : tRetN D σ H := q
theorem i_next (q : D.nx σ H) : tNext D σ H := q
theorem i_ifs {c : TT} {t u : TS} (q : c σ H fun b H1 => if b = true then t D σ H1 else u D σ H1) : tIfS c t u D σ H := q
theorem i_drop {te : TE} (q : te σ H fun _ H1 => D.nx σ H1) : tDrop te D σ H := q
theorem i_par {i j : Nat} {ta : TA} (q : ta σ H fun vs H1 => ∃ v w, vs = [v, w] ∧ D.nx ((σ.set i (some v)).set j (some w)) H1) : tPar i j ta D σ H := q
theorem i_two {v w : V} {R : V → V → Prop} (q : R v w) : ∃ v' w', [v, w] = [v', w'] ∧ R v' w' := ⟨v, w, rfl, q⟩
theorem i_gsub {to ti : TE} {t : TSet} {v : V} {R : L2.St → Hp → Prop} (q : to σ H fun o H1 => ti σ H1 fun i H2 => t o i v H2 fun H3 => R σ H3) : gSub to ti t v σ H R := q
theorem i_setL {p : Addr} {xs : List V} {k : Int} {j : Nat} {v : V} {R : Hp → Prop} (h : H p = some (.lst xs)) (e : ixN xs.length k = some j) (q : R (upd H p (.lst (xs.set j v)))) : rSetL (.ref p) (.int k) v H R := ⟨p, xs, k, j, rfl, rfl, h, e, q⟩
theorem i_for {wi : TI} {g : TG} {tb : TS} (q : wi σ H fun J H1 => ∃ W : Nat → Nat → L2.St → Hp → Prop, (∃ m, W 0 m σ H1) ∧ ∀ i m σ H, W i m σ H →
    (J.stop i H ∧ D.nx σ H) ∨ (J.go i H ∧ ∃ N : L2.St → Hp → Prop, (∀ σ' H', N σ' H' → ∃ m', m' < m ∧ W (i + 1) m' σ' H') ∧ ∀ x H', J.yld i H x H' → g x σ H' fun σ2 H2 => tb { D with nx := N, ct := N, bk := D.nx } σ2 H2)) : tFor wi g tb D σ H := q
theorem i_rng1 {ta : TA} {R : It → Hp → Prop} (q : ta σ H fun vs H1 => ∃ j : Int, vs = [.int j] ∧ -(2 ^ 62) ≤ j ∧ j < 2 ^ 62 ∧ R (Itr 0 j.toNat) H1) : iRng1 ta σ H R := q
end
theorem i_ite {b : Bool} {A B : Prop} (h1 : b = true → A) (h2 : b = false → B) : if b = true then A else B := by
  cases b with
  | true => rw [if_pos rfl]; exact h1 rfl
  | false => rw [if_neg Bool.false_ne_true]; exact h2 rfl
theorem i_dec {p : Prop} [Decidable p] {A B : Prop} (h1 : p → A) (h2 : ¬ p → B) : if decide p = true then A else B := i_ite (fun h => h1 (of_decide_eq_true h)) fun h => h2 (of_decide_eq_false h)
theorem i_isT {b : Bool} {A B : Prop} (hb : b = true) (h : A) : if b = true then A else B := by rw [if_pos hb]; exact h
theorem i_isF {b : Bool} {A B : Prop} (hb : b = false) (h : B) : if b = true then A else B := by rw [if_neg (by rw [hb]; exact Bool.false_ne_true)]; exact h
/-! ### heaps -/
theorem old {H : Hp} {a p : Addr} {o u : HO} (h : H a = some o) (hp : H p = none) : upd H p u a = some o := by rw [upd_ne (ne_of_none h hp)]; exact h
theorem oldw {H : Hp} {a p : Addr} {o u : HO} (n : a ≠ p) (h : H a = some o) : upd H p u a = some o := by rw [upd_ne n]; exact h
theorem none_of {H : Hp} {p q : Addr} {o : HO} (h : upd H p o q = none) : H q = none := by
  by_cases e : q = p
  · rw [e, upd_same] at h; cases h
  · rw [upd_ne e] at h; exact h
theorem ne_new {H : Hp} {p q : Addr} {o : HO} (h : upd H p o q = none) : q ≠ p := by
  intro e
  rw [e, upd_same] at h
  cases h
/-- all that is tracked but a stays as it is -/
def Kp (a : Addr) (H H' : Hp) : Prop := ∀ b o, b ≠ a → H b = some o → H' b = some o
theorem Kp.refl {a : Addr} {H : Hp} : Kp a H H := fun _ _ _ h => h
theorem Kp.trans {a : Addr} {H H1 H2 : Hp} (k : Kp a H H1) (l : Kp a H1 H2) : Kp a H H2 := fun b o n h => l b o n (k b o n h)
theorem Kp.at {a b : Addr} {H H' : Hp} {o : HO} (k : Kp a H H') (n : b ≠ a) (h : H b = some o) : H' b = some o := k b o n h
theorem Kp.box {a : Addr} {H : Hp} {o : HO} : Kp a H (upd H a o) := fun b u n h => by rw [upd_ne n]; exact h
theorem Kp.new {a p : Addr} {H H' : Hp} {o : HO} (k : Kp a H H') (hp : H' p = none) : Kp a H (upd H' p o) := fun b u n h => old (k b u n h) hp
theorem Kp.wr {a p : Addr} {H H' : Hp} {o u : HO} (k : Kp a H H') (hp : H p = none) (hn : H' p = some u) : Kp a H (upd H' p o) := fun b v n h => oldw (ne_of_none h hp) (k b v n h)
theorem Kp.bx {a : Addr} {H H' : Hp} {o : HO} (k : Kp a H H') : Kp a H (upd H' a o) := fun b u n h => oldw n (k b u n h)
theorem Kp.sq {K : PySem.W.Frag} {a b : Addr} {H H' : Hp} {xs : List V} (k : Kp a H H') (n : b ≠ a) (h : SqL K H b xs) : SqL K H' b xs := by
  rcases h with (h | ⟨o, h⟩) | h
  · exact .inl (.inl (k _ _ n h))
  · exact .inl (.inr ⟨o, k _ _ n h⟩)
  · exact .inr h
/-! ### the drawing box -/
def BoxO (n : Nat) (o : HO) : Prop := ∃ (x y c : Int), o = .lst [.int x, .int y, .int c] ∧ 0 ≤ y ∧ y < 2147483629 ∧ 0 ≤ c ∧ c ≤ n
theorem BoxO.mono {n m : Nat} {o : HO} (h : BoxO n o) (l : n ≤ m) : BoxO m o := let ⟨x, y, c, e, h1, h2, h3, h4⟩ := h; ⟨x, y, c, e, h1, h2, h3, by omega⟩
/-- a box stands at a, at most n draws were made -/
def BoxAt (n : Nat) (H : Hp) (a : Addr) : Prop := ∃ o, H a = some o ∧ BoxO n o
theorem BoxAt.mono {n m : Nat} {H : Hp} {a : Addr} (h : BoxAt n H a) (l : n ≤ m) : BoxAt m H a := let ⟨o, h1, h2⟩ := h; ⟨o, h1, h2.mono l⟩
theorem BoxAt.of {n : Nat} {H : Hp} {a : Addr} {o : HO} (h : BoxO n o) : BoxAt n (upd H a o) a := ⟨o, upd_same, h⟩
theorem BoxAt.new {n : Nat} {H : Hp} {a p : Addr} {o : HO} (h : BoxAt n H a) (hp : H p = none) : BoxAt n (upd H p o) a := let ⟨u, h1, h2⟩ := h; ⟨u, old h1 hp, h2⟩
theorem BoxAt.wr {n : Nat} {H : Hp} {a p : Addr} {o : HO} (h : BoxAt n H a) (hp : a ≠ p) : BoxAt n (upd H p o) a := let ⟨u, h1, h2⟩ := h; ⟨u, oldw hp h1, h2⟩
theorem BoxAt.ne {n : Nat} {H : Hp} {a p : Addr} (h : BoxAt n H a) (hp : H p = none) : p ≠ a := let ⟨_, h1, _⟩ := h; (ne_of_none h1 hp).symm
theorem BoxAt.not {n : Nat} {H : Hp} {a p : Addr} {o : HO} (h : BoxAt n H a) (hp : H p = some o) (d : ∀ x y c : Int, o ≠ .lst [.int x, .int y, .int c]) : p ≠ a := by
  obtain ⟨u, h1, x, y, c, e, _⟩ := h
  intro z
  rw [z, h1, e] at hp
  exact d x y c (Option.some.inj hp).symm
/-- _law_take(box, m) -/
def sp_l_take : Sp := fun vs H Q _ => ∃ (a : Addr) (m : Int) (n : Nat), vs = [.ref a, .int m] ∧ BoxAt n H a ∧ n ≤ 1000000 ∧ 0 < m ∧ m < 1073741824 ∧ ∀ (r : Int) (o : HO), 0 ≤ r → r < m → BoxO (n + 1) o → Q (.int r) (upd H a o)
/-- _law_box(cell) -/
def sp_l_box : Sp := fun vs H Q _ => ∃ i : Int, vs = [.int i] ∧ ∀ (p : Addr) (o : HO), H p = none → BoxO 0 o → Q (.ref p) (upd H p o)
/-- _law_cell(script, k) -/
def sp_l_cell (K : PySem.W.Frag) : Sp := fun vs H Q _ => ∃ (a : Addr) (ns : List Int) (k : Int), vs = [.ref a, .int k] ∧ SqL K H a (ns.map V.int) ∧ 0 ≤ k ∧ ∀ i : Int, Q (.int i) H
theorem few {α : Type} {xs : List α} (h : Nat.ble xs.length 1000 = true := by rfl) : xs.length ≤ sizeLine := Nat.le_trans (Nat.le_of_ble_eq_true h) (by decide)
/-! ### kinds of values -/
inductive Kd (H : Hp) : V → String → Prop
  | non : Kd H .non "NoneType"
  | bl (b : Bool) : Kd H (.bl b) "bool"
  | int (i : Int) : Kd H (.int i) "int"
  | str (x : Str) : Kd H (.str x) "str"
  | lst {a : Addr} {xs : List V} (e : H a = some (.lst xs)) : Kd H (.ref a) "list"
  | tup {a : Addr} {xs : List V} (e : H a = some (.tup xs)) : Kd H (.ref a) "tuple"
  | dct {a : Addr} {kvs : List (Key × V)} (e : H a = some (.dK kvs)) : Kd H (.ref a) "dict"
theorem Kd.ty {K : PySem.W.Frag} {H : Hp} {v : V} {T : String} (k : Kd H v T) : TyX K H v (.type T) := by
  cases k with
  | non => exact .base .non
  | bl b => exact .base (.bl b)
  | int i => exact .base (.int i)
  | str x => exact .base (.str x)
  | lst e => exact .base (.lst e)
  | tup e => exact .base (.tup e)
  | dct e => exact .base (.dK e)
theorem Kd.same {H H' : Hp} {v : V} {T : String} (k : Kd H v T) (s : Same H H') : Kd H' v T := by
  cases k with
  | non => exact .non
  | bl b => exact .bl b
  | int i => exact .int i
  | str x => exact .str x
  | lst e => exact .lst (s _ _ e)
  | tup e => exact .tup (s _ _ e)
  | dct e => exact .dct (s _ _ e)
theorem Kd.kp {a : Addr} {H H' : Hp} {v : V} {T : String} (k : Kd H v T) (n : v ≠ .ref a) (s : Kp a H H') : Kd H' v T := by
  cases k with
  | non => exact .non
  | bl b => exact .bl b
  | int i => exact .int i
  | str x => exact .str x
  | lst e => exact .lst (s _ _ (fun z => n (by rw [z])) e)
  | tup e => exact .tup (s _ _ (fun z => n (by rw [z])) e)
  | dct e => exact .dct (s _ _ (fun z => n (by rw [z])) e)
theorem i_isi {K : PySem.W.Frag} {H : Hp} {Q : VK} {v : V} {T C : String} {b : Bool} (k : Kd H v T) (e : kitB T C = some b) (q : Q (.bl b) H) : rIsi K [v, .ty C] H Q := ⟨v, .ty C, .type T, .type C, b, rfl, .ty C, k.ty, kit_ty e, q⟩
theorem same_new {H : Hp} {p : Addr} {o : HO} (hp : H p = none) : Same H (upd H p o) := fun _ _ h => old h hp
theorem Same.new {H H' : Hp} {p : Addr} {o : HO} (s : Same H H') (hp : H' p = none) : Same H (upd H' p o) := fun b u h => old (s b u h) hp
theorem Same.wr {H H' : Hp} {p : Addr} {o : HO} (s : Same H H') (hp : H p = none) : Same H (upd H' p o) := fun b u h => oldw (ne_of_none h hp) (s b u h)
theorem Same.kp {a : Addr} {H H' : Hp} (s : Same H H') : Kp a H H' := fun b o _ h => s b o h
/-- is_integer(v, lo, hi) -/
def isI : V → Int → Int → Bool
  | .int i, lo, hi => decide (lo ≤ i) && decide (i ≤ hi)
  | _, _, _ => false
def sp_is_integer : Sp := fun vs H Q _ => ∃ (v : V) (lo hi : Int) (T : String), vs = [v, .int lo, .int hi] ∧ Kd H v T ∧ Q (.bl (isI v lo hi)) H
end G
/-! # LE: comprehensions over plain items -/
namespace G
open PySem PySem.Spec PyProof.Rows L2
/-- the i-th of the items, as a value, the heap as it was -/
def YI {α : Type} (items : List α) (val : α → V) : Nat → Hp → V → Hp → Prop := fun i H x H' => H' = H ∧ ∃ c, items[i]? = some c ∧ x = val c
theorem walk_strI {z : Str} : Walk (Its z) z.cps.toList.length (fun _ => True) (YI z.cps.toList fun c => .str ⟨#[c]⟩) := by
  rw [show z.cps.toList.length = z.cps.size from rfl]
  exact walk_str.mono (fun _ h => h) fun i H x H' _ _ ⟨h1, c, h2, h3⟩ => ⟨h1, c, by rw [Array.getElem?_toList]; exact h2, h3⟩
theorem walk_listI {K : PySem.W.Frag} {a : Addr} {xs : List V} : Walk (Itl K a) xs.length (fun H => SqL K H a xs) (YI xs id) :=
  walk_list.mono (fun _ h => h) fun i H x H' _ _ ⟨h1, h2⟩ => ⟨h1, x, h2, rfl⟩
theorem walk_tupI {K : PySem.W.Frag} {a : Addr} {xs : List V} : Walk (Itt K a) xs.length (fun H => SqT K H a xs) (YI xs id) :=
  walk_tup.mono (fun _ h => h) fun i H x H' _ _ ⟨h1, h2⟩ => ⟨h1, x, h2, rfl⟩
theorem take_get {α : Type} {l : List α} {i : Nat} {x : α} (h : l[i]? = some x) : l.take (i + 1) = l.take i ++ [x] := by
  rw [List.take_add_one, h]
  rfl
section
variable {α : Type} {J : It} {items : List α} {val : α → V} {Gd : Hp → Prop} {g : TG} {tt : TT} {te : TE} {vs : List Nat} {σ : L2.St} {H1 : Hp} {D : Addr} {Qd : Hp → Prop}
/-- [e for x in items if t], e and t leave the heap as it is -/
theorem lc_flt (w : Walk J items.length Gd (YI items val)) (f : α → Option V) (hG : ∀ F, Gd (upd H1 D (.lst F))) (hlen : items.length ≤ sizeLine)
    (hs : ∀ (c : α) (F : List V) (Ny : VK) (Nn : Hp → Prop), c ∈ items → (∀ y, f c = some y → Ny y (upd H1 D (.lst F))) → (f c = none → Nn (upd H1 D (.lst F))) →
      g (val c) (wipe σ vs) (upd H1 D (.lst F)) fun σ2 H2 => wipe σ2 vs = wipe σ vs ∧ tt σ2 H2 fun b H3 => if b = true then te σ2 H3 Ny else Nn H3)
    (hd : Qd (upd H1 D (.lst (items.filterMap f)))) : ∃ W : Nat → Nat → Hp → Prop, (∃ m, W 0 m (upd H1 D (.lst []))) ∧ ∀ i m H, W i m H →
      (J.stop i H ∧ Qd H) ∨ (J.go i H ∧ ∃ Nx : Hp → Prop, (∀ H', Nx H' → ∃ m', m' < m ∧ W (i + 1) m' H') ∧ ∀ x H', J.yld i H x H' → g x (wipe σ vs) H' fun σ2 H2 => wipe σ2 vs = wipe σ vs ∧ tt σ2 H2 fun b H3 =>
        if b = true then te σ2 H3 fun y H4 => ∃ acc, H4 D = some (.lst acc) ∧ acc.length < sizeLine ∧ Nx (upd H4 D (.lst (acc ++ [y]))) else Nx H3) := by
  refine lc_it w (fun i H => H = upd H1 D (.lst ((items.take i).filterMap f))) rfl (fun i H _ e => e ▸ hG _) (fun i x H H' hi e y => ?_) fun H e => ?_
  · subst e
    obtain ⟨rfl, c, hc, rfl⟩ := y
    have hm : c ∈ items := List.mem_of_getElem? hc
    refine hs c _ _ _ hm (fun y ef => ?_) fun ef => ?_
    · refine ⟨_, upd_same, ?_, ?_⟩
      · have h5 := List.length_filterMap_le f (items.take i)
        rw [List.length_take] at h5
        omega
      · rw [upd_upd, take_get hc, List.filterMap_append]
        simp [ef]
    · show _ = _
      rw [take_get hc, List.filterMap_append]
      simp [ef]
  · rw [e, List.take_length]
    exact hd
end
section
variable {σ : L2.St} {H : Hp} {Q : VK} {K : PySem.W.Frag}
theorem i_lc {wi : TI} {g : TG} {tt : TT} {te : TE} {vs : List Nat} (q : wi σ H fun J H1 => ∀ D, H1 D = none → ∃ W : Nat → Nat → Hp → Prop, (∃ m, W 0 m (upd H1 D (.lst []))) ∧ ∀ i m H, W i m H →
  (J.stop i H ∧ Q (.ref D) H) ∨ (J.go i H ∧ ∃ Nx : Hp → Prop, (∀ H', Nx H' → ∃ m', m' < m ∧ W (i + 1) m' H') ∧ ∀ x H', J.yld i H x H' → g x (wipe σ vs) H' fun σ2 H2 => wipe σ2 vs = wipe σ vs ∧ tt σ2 H2 fun b H3 =>
    if b = true then te σ2 H3 fun y H4 => ∃ acc, H4 D = some (.lst acc) ∧ acc.length < sizeLine ∧ Nx (upd H4 D (.lst (acc ++ [y]))) else Nx H3)) : tLc wi g tt te vs σ H Q := q
theorem i_iStr {te : TE} {R : It → Hp → Prop} (q : te σ H fun v H1 => ∃ x, v = .str x ∧ R (Its x) H1) : iStr te σ H R := q
theorem i_str {x : Str} {R : Str → Prop} (q : R x) : ∃ y, V.str x = V.str y ∧ R y := ⟨x, rfl, q⟩
theorem i_iList {tl : TE} {R : It → Hp → Prop} (q : tl σ H fun x H1 => ∃ a, x = .ref a ∧ (∃ xs, SqL K H1 a xs) ∧ R (Itl K a) H1) : iList K tl σ H R := q
theorem i_iTup {tl : TE} {R : It → Hp → Prop} (q : tl σ H fun x H1 => ∃ a, x = .ref a ∧ (∃ xs, SqT K H1 a xs) ∧ R (Itt K a) H1) : iTup K tl σ H R := q
theorem i_yes {R : Bool → Hp → Prop} (q : R true H) : tYes σ H R := q
theorem i_M1 {r : V → List V → Hp → VK → Prop} {to te : TE} (q : to σ H fun x H1 => (∃ a, x = .str a) ∧ te σ H1 fun y H2 => r x [y] H2 Q) : tM1 r to te σ H Q := q
theorem i_all {p : Addr} {bs : List Bool} (h : SqL K H p (bs.map V.bl)) (q : Q (.bl (bs.all id)) H) : rAll K [.ref p] H Q := ⟨p, bs, rfl, h, q⟩
theorem i_slS {z : Str} {lo hi : Option Int} (h : z.length ≤ sizeLine) (q : Q (.str (cutS z lo hi)) H) : rSlS (.str z) lo hi H Q := ⟨z, rfl, h, q⟩
theorem i_isB {a b : Bool} (q : Q (.bl (decide (a = b))) H) : rIsB (.bl a) (.bl b) H Q := ⟨a, b, rfl, rfl, q⟩
theorem i_callK {sp : Sp} {gV : List V → List V → List V} {E : XK} {t tk : TA} (q : t σ H fun vs H1 => tk σ H1 fun zs H2 => sp (gV vs zs) H2 Q E) : tCallK sp gV E t tk σ H Q := q
end
/-! ### one sign compared with another -/
theorem sing_lt (a b : Nat) : decide (([a] : List Nat) < [b]) = decide (a < b) := by
  by_cases h : a < b
  · rw [decide_eq_true h]
    exact decide_eq_true (List.cons_lt_cons_iff.mpr (.inl h))
  · rw [decide_eq_false h]
    refine decide_eq_false fun q => ?_
    rcases List.cons_lt_cons_iff.mp q with q | ⟨_, q⟩
    · exact h q
    · exact absurd q (List.not_lt_nil _)
/-! ### a list compared with an empty one: no item is looked at -/
def rEqNil (K : PySem.W.Frag) (neg : Bool) : R2 := fun x y H Q => ∃ p q xs, x = .ref p ∧ y = .ref q ∧ SqL K H p xs ∧ SqL K H q [] ∧ Q (.bl (if neg then !xs.isEmpty else xs.isEmpty)) H
theorem nil_lists {X : Cx} {pins : List (Addr × Obj)} {σ : L2.St} {H : Hp} {s : Shared} {p q : Addr} {xs : List V} (I : Inv X pins σ H s) (hp : SqL X.K H p xs) (hq : SqL X.K H q []) :
    ∃ its : List Value, its.length = xs.length ∧ s.heap.IsList p its.toArray ∧ s.heap.IsList q #[] := by
  obtain ⟨its, rv, ⟨o, n, h1, h2, _, h3⟩, _⟩ := I.list hp
  obtain ⟨its2, rv2, ⟨o2, n2, g1, g2, _, g3⟩, _⟩ := I.list hq
  have e : its2 = [] := List.eq_nil_of_length_eq_zero rv2.length.symm
  subst e
  exact ⟨its, rv.length.symm, ⟨o, h1, h2, n, h3⟩, ⟨o2, g1, g2, n2, g3⟩⟩
section
variable {X : Cx}
theorem op_eqNil (hu : X.A.units + 64 < cLine) : OpR X (compareOp .Eq) (rEqNil X.K false) := by
  intro pins s σ H x y v u Q I rx ry h
  obtain ⟨p, q, xs, rfl, rfl, hp, hq, k⟩ := h
  cases (show v = Value.ref p from rx)
  cases (show u = Value.ref q from ry)
  obtain ⟨its, hl, h1, h2⟩ := nil_lists I hp hq
  cases xs with
  | nil =>
    have e : its = [] := List.eq_nil_of_length_eq_zero hl
    subst e
    exact SeqAt.RcAt.lists (e := fun _ => true) h1 h2 rfl (by omega) (fun j j1 _ => absurd j1 (by simp)) _ _ _ _ ⟨.bl true, H, I, rfl, k⟩
  | cons a r => exact SeqAt.RcAt.lists_lengths h1 h2 (by simp [hl]) (by omega) _ _ _ _ ⟨.bl false, H, I, rfl, k⟩
theorem op_neNil (hu : X.A.units + 64 < cLine) : OpR X (compareOp .NotEq) (rEqNil X.K true) := by
  intro pins s σ H x y v u Q I rx ry h
  obtain ⟨p, q, xs, rfl, rfl, hp, hq, k⟩ := h
  cases (show v = Value.ref p from rx)
  cases (show u = Value.ref q from ry)
  obtain ⟨its, hl, h1, h2⟩ := nil_lists I hp hq
  cases xs with
  | nil =>
    have e : its = [] := List.eq_nil_of_length_eq_zero hl
    subst e
    exact SeqAt.RcNeAt.lists (e := fun _ => true) h1 h2 rfl (by omega) (fun j j1 _ => absurd j1 (by simp)) _ _ _ _ ⟨.bl false, H, I, rfl, k⟩
  | cons a r => exact SeqAt.RcNeAt.lists_lengths h1 h2 (by simp [hl]) (by omega) _ _ _ _ ⟨.bl true, H, I, rfl, k⟩
end
theorem i_eqNil {K : PySem.W.Frag} {neg : Bool} {H : Hp} {Q : VK} {p q : Addr} {xs : List V} (hp : SqL K H p xs) (hq : SqL K H q []) (k : Q (.bl (if neg then !xs.isEmpty else xs.isEmpty)) H) : rEqNil K neg (.ref p) (.ref q) H Q := ⟨p, q, xs, rfl, rfl, hp, hq, k⟩
/-! ### names and payloads -/
def plainC (c : Nat) : Bool := decide (32 ≤ c) && decide (c ≤ 126) && !decide (c = 37)
theorem plainC_t {c : Nat} (h1 : (32 : Int) ≤ (c : Int)) (h2 : (c : Int) ≤ 126) : plainC c = !decide (V.int (c : Int) = V.int 37) := by
  have a1 : 32 ≤ c := by omega
  have a2 : c ≤ 126 := by omega
  unfold plainC
  rw [decide_eq_true a1, decide_eq_true a2, Bool.true_and, Bool.true_and]
  by_cases h : c = 37
  · rw [decide_eq_true h, decide_eq_true (show V.int (c : Int) = V.int 37 by rw [h]; rfl)]
  · rw [decide_eq_false h, decide_eq_false (show ¬ V.int (c : Int) = V.int 37 from fun z => h (by injection z with z; omega))]
theorem plainC_f {c : Nat} (h : ¬ (32 : Int) ≤ (c : Int) ∨ ¬ (c : Int) ≤ 126) : plainC c = false := by
  unfold plainC
  rcases h with h | h
  · rw [decide_eq_false (show ¬ 32 ≤ c by omega)]; rfl
  · rw [decide_eq_false (show ¬ c ≤ 126 by omega), Bool.and_false]; rfl
def plainS (z : Str) : Bool := z.cps.toList.all plainC
def nameC (c : Nat) : Bool := decide (97 ≤ c) && decide (c ≤ 122)
theorem nameC_t {c : Nat} (h : (!decide (([c] : List Nat) < [97])) = true) : nameC c = !decide (([122] : List Nat) < [c]) := by
  rw [sing_lt] at h ⊢
  have h1 : ¬ c < 97 := by simpa using h
  unfold nameC
  rw [decide_eq_true (by omega), Bool.true_and]
  by_cases q : c ≤ 122
  · rw [decide_eq_true q, decide_eq_false (by omega)]; rfl
  · rw [decide_eq_false q, decide_eq_true (by omega)]; rfl
theorem nameC_f {c : Nat} (h : (!decide (([c] : List Nat) < [97])) = false) : nameC c = false := by
  rw [sing_lt] at h
  have h1 : c < 97 := by simpa using h
  unfold nameC
  rw [decide_eq_false (by omega), Bool.false_and]
def nameS (z : Str) : Bool := decide (0 < z.length) && decide (z.length ≤ 6) && z.cps.toList.all nameC
theorem nameS_len {z : Str} (h : ¬ (0 < z.length ∧ z.length ≤ 6)) : nameS z = false := by
  unfold nameS
  by_cases q : 0 < z.length
  · rw [decide_eq_false (show ¬ z.length ≤ 6 from fun r => h ⟨q, r⟩), Bool.and_false, Bool.false_and]
  · rw [decide_eq_false q, Bool.false_and, Bool.false_and]
def sp_is_plain : Sp := fun vs H Q _ => ∃ z : Str, vs = [.str z] ∧ z.length ≤ sizeLine ∧ ∀ H', Same H H' → Q (.bl (plainS z)) H'
def isName : V → Bool
  | .str z => nameS z
  | _ => false
def isPay : V → Bool
  | .str z => decide (z.length ≤ 32) && plainS z
  | _ => false
/-- a text within the line -/
def fitV : V → Prop
  | .str z => z.length ≤ sizeLine
  | _ => True
def sp_is_name : Sp := fun vs H Q _ => ∃ (v : V) (T : String), vs = [v] ∧ Kd H v T ∧ fitV v ∧ ∀ H', Same H H' → Q (.bl (isName v)) H'
def sp_is_payload : Sp := fun vs H Q _ => ∃ (v : V) (T : String), vs = [v] ∧ Kd H v T ∧ fitV v ∧ ∀ H', Same H H' → Q (.bl (isPay v)) H'
/-! ### an item of a list at a drawn place; joined texts -/
theorem menu {α : Type} {xs : List α} {r : Int} (h0 : 0 ≤ r) (h1 : r < (xs.length : Nat)) : ∃ v, v ∈ xs ∧ atI xs r = some v := by
  have hl : r.toNat < xs.length := by omega
  refine ⟨xs[r.toNat], List.getElem_mem hl, ?_⟩
  simp [atI, ixN, h0, h1, hl]
theorem joinL_nil : ∀ l : List (List Nat), TL.joinL [] l = l.flatten
  | [] => rfl
  | [p] => by simp [TL.joinL]
  | p :: q :: r => by
    show p ++ ([] ++ TL.joinL [] (q :: r)) = _
    rw [joinL_nil (q :: r)]
    rfl
theorem join_tl (ys : List Str) : (Txt.join Str.empty ys).cps.toList = (ys.map fun y => y.cps.toList).flatten := by
  rw [TL.join_eq]
  have e := TL.tl_join Str.empty ys
  rw [show TL.tl Str.empty = [] from rfl, joinL_nil] at e
  exact e
theorem str_len (z : Str) : z.length = z.cps.toList.length := rfl
theorem app_tl (x y : Str) : (x ++ y).cps.toList = x.cps.toList ++ y.cps.toList := TL.tl_append x y
theorem flat_len {l : List (List Nat)} {m : Nat} (h : ∀ p ∈ l, p.length = m) : l.flatten.length = l.length * m := by
  induction l with
  | nil => simp
  | cons a r ih =>
    rw [List.flatten_cons, List.length_append, h a List.mem_cons_self, ih fun p hp => h p (List.mem_cons_of_mem _ hp), List.length_cons, Nat.add_mul, Nat.one_mul, Nat.add_comm]
theorem cut_mem {z : Str} {lo hi : Option Int} {c : Nat} (h : c ∈ (cutS z lo hi).cps.toList) : c ∈ z.cps.toList := by
  unfold cutS at h
  simp only [List.toList_toArray] at h
  exact List.mem_of_mem_drop (List.mem_of_mem_take h)
theorem cut_len (z : Str) (lo hi : Option Int) : (cutS z lo hi).length ≤ z.length := by
  rw [str_len, str_len]
  unfold cutS
  simp only [List.toList_toArray, List.length_take, List.length_drop]
  omega
theorem i_dnew {σ : L2.St} {H : Hp} {Q : VK} (q : ∀ p, H p = none → Q (.ref p) (upd H p (.dK []))) : tDNewK σ H Q := q
theorem i_disp1 {σ : L2.St} {H : Hp} {Q : VK} {k : Key} {x y : V} (e : x = kV k) (q : ∀ p, H p = none → Q (.ref p) (upd H p (.dK [(k, y)]))) : tDisp [(tC x, tC y)] σ H Q := fun p hp => by
  subst e
  refine ⟨upd_same, [(k, y)], rfl, Nat.le_of_ble_eq_true rfl, ?_⟩
  rw [upd_upd]
  exact q p hp
theorem i_menuL {K : PySem.W.Frag} {H : Hp} {Q : VK} {p : Addr} {xs : List V} {r : Int} (h : SqL K H p xs) (h0 : 0 ≤ r) (h1 : r < (xs.length : Nat)) (q : ∀ v, v ∈ xs → Q v H) : rIxL K (.ref p) (.int r) H Q := let ⟨_, hv, e⟩ := menu h0 h1; i_ixL h e (q _ hv)
theorem i_menuS {H : Hp} {Q : VK} {z : Str} {r : Int} (l : z.length ≤ sizeLine) (h0 : 0 ≤ r) (h1 : r < (z.length : Nat)) (q : ∀ c, c ∈ z.cps.toList → Q (.str ⟨#[c]⟩) H) : rIxS (.str z) (.int r) H Q := let ⟨_, hv, e⟩ := menu (xs := z.cps.toList) h0 h1; i_ixS l e (q _ hv)
end G
/-! # LF: calls with keywords alone -/
namespace G
open PySem PySem.Spec PyProof.Rows L2
/-- the values in the parameters' order: places in (positional ++ keywords) -/
def gp (perm : List Nat) {α : Type} (us ws : List α) : List α := perm.filterMap fun i => (us ++ ws)[i]?
theorem gp_rel {perm : List Nat} : ∀ {vs : List V} {us : List Value} {zs : List V} {ws : List Value}, Vals vs us → Vals zs ws → Vals (gp perm vs zs) (gp perm us ws) := by
  intro vs us zs ws r q
  have rq := r.append q
  unfold gp
  induction perm with
  | nil => exact .nil
  | cons i p ih =>
    cases e : (vs ++ zs)[i]? with
    | none =>
      rw [List.filterMap_cons_none e, List.filterMap_cons_none (Vals.none_of rq e)]
      exact ih
    | some x =>
      obtain ⟨u, hu, ru⟩ := rq.get e
      rw [List.filterMap_cons_some e, List.filterMap_cons_some hu]
      exact .cons ru ih
theorem kbn_of {K : PySem.W.Frag} {x qual : Str} {params : Arguments} {body : List Stmt} {scope : Scope} {kws : List (Str × V)} {f : Addr} {fd : FuncData} {ps : List Str} (F : FunD K x qual params body scope [] kws f fd) (n : Nat) (ks : List Str) (perm : List Nat)
    (h : ∀ (kV doc pm : Value) (an : Option Addr) (cdv ct : Value) (us ws : List Value), us.length = n → ws.length = ks.length → bindArgs (PySem.W.fnOf x qual params body scope .none kV doc pm an cdv ct) ⟨us, ks.zip ws⟩ = pure (ps.zip (gp perm us ws))) : KBn K fd ps n ks (gp perm) (gp perm) := by
  obtain ⟨oc, od, dV, kV, doc, pm, an, cdv, ct, osl, rfl, lk, hcd, hD, hK⟩ := F.ex
  rcases hD with ⟨_, rfl⟩ | ⟨e, _⟩
  · exact ⟨fun s us ws _ h1 h2 => .of_eq (h kV doc pm an cdv ct us ws h1 h2), gp_rel⟩
  · exact absurd rfl e
def tCallN0 (m : Nat) (sp : Sp) (gV : List V → List V → List V) (E : XK) (tk : TA) : TE := fun σ H Q => tk σ H fun zs H2 => zs.length = m ∧ sp (gV [] zs) H2 Q E
section
variable {X : Cx} {cx : CXT} {k : Nat} {f : Addr} {fd : FuncData} {ps ks : List Str} {sp : Sp} {E : XK} {x : Str} {p pos : Pos} {kws : List Keyword} {tk : TA} {g : List Value → List Value → List Value} {gV : List V → List V → List V}
theorem pe_callN0 (F : FnOk X.prog X.w X.K X.mg X.base cx k f fd ps sp) (hr : Room k X.A) (hg : Gl X x) (hm : X.mg x = some (.ref f)) (hk : PySem.W.keepIn X.K (.ref f) = true) (hb : KBn X.K fd ps 0 ks g gV) (hx : Passes cx X E) (hkw : PK X kws tk)
    (q1 : (backToKw pos (keywordEach kws X.env)).all (·.1.isSome) = true := by rfl) (q2 : (backToKw pos (keywordEach kws X.env)).filterMap (·.1) = ks := by rfl) (q3 : (x == ("__debug__" : Str)) = false := by decide)
    (q4 : ((backTo pos (starEach [] X.env)).any (·.1) || (backToKw pos (keywordEach kws X.env)).any (·.1.isNone)) = false := by rfl) : PE X (.Call (.Name x p) [] kws pos) (tCallN0 ks.length sp gV E tk) := by
  refine ⟨fun pins s σ H Q I h => wpAny_Call_Name_kw (ld_glob I hg hm (PySem.W.callWith_KW0 (h₀ := X.base) I.ok.mod.kin hk q1 (thn (hkw.run pos pins s σ H _ I h) fun ws s2 ⟨zs, H2, I2, rz, l2, hs⟩ => ⟨I2.kIn, ?_⟩) q4) q3)⟩
  have lw : ws.length = ks.length := rz.length ▸ l2
  rw [q2]
  refine wpAny_call (codeAny_mono (F.run X.A X.stack s2 H2 ⟨[], ks.zip ws⟩ (g [] ws) (gV [] zs) Q E hr I2.env0 (hb.to s2 [] ws I2.kIn rfl lw) (hb.rel .nil rz) hs) fun res s' z => ?_)
  rcases res with e | fl
  · exact hx pins σ H2 s2 e s' I2 z
  · cases fl <;> first | exact I2.after z | exact False.elim z
end
theorem i_callN0 {σ : L2.St} {H : Hp} {Q : VK} {m : Nat} {sp : Sp} {gV : List V → List V → List V} {E : XK} {tk : TA} (q : tk σ H fun zs H2 => zs.length = m ∧ sp (gV [] zs) H2 Q E) : tCallN0 m sp gV E tk σ H Q := q
theorem i_notB {H : Hp} {Q : VK} {a b : Bool} (q : Q (.bl (!decide (a = b))) H) : rNotB (.bl a) (.bl b) H Q := ⟨a, b, rfl, rfl, q⟩
theorem i_repr {K : PySem.W.Frag} {H : Hp} {Q : VK} {v : V} {d : PyData} (h : Dq K H v d) (ok : Okd 16000000 60 d) (q : Q (.str d.shown) H) : rRepr K [v] H Q := ⟨v, d, rfl, h, ok, q⟩
theorem same_kp {p : Addr} {H X Y : Hp} (s : Same H X) (hp : H p = none) (k : Kp p X Y) : Same H Y := fun b o h => k b o (ne_of_none h hp) (s b o h)
theorem BoxAt.same {n : Nat} {H H' : Hp} {a : Addr} (b : BoxAt n H a) (s : Same H H') : BoxAt n H' a := let ⟨o, h1, h2⟩ := b; ⟨o, s _ _ h1, h2⟩
theorem Okd.sm {n k : Nat} {d : PyData} (h : Okd n k d) (hn : Nat.ble n 16000000 = true := by rfl) (hk : Nat.ble k 60 = true := by rfl) : Okd 16000000 60 d := h.mono (Nat.le_of_ble_eq_true hn) (Nat.le_of_ble_eq_true hk)
theorem same_kp' {p : Addr} {H X Y : Hp} (k : Kp p X Y) (hp : H p = none) (s : Same H X) : Same H Y := same_kp s hp k
theorem same_tr {H X Y : Hp} (t : Same X Y) (s : Same H X) : Same H Y := s.trans t
theorem kd_kp {a : Addr} {H H' : Hp} {v : V} {T : String} (s : Kp a H H') (n : v ≠ .ref a) (k : Kd H v T) : Kd H' v T := k.kp n s
theorem kd_same {H H' : Hp} {v : V} {T : String} (s : Same H H') (k : Kd H v T) : Kd H' v T := k.same s
theorem kd_new {H : Hp} {p : Addr} {o : HO} {v : V} {T : String} (hp : H p = none) (k : Kd H v T) : Kd (upd H p o) v T := k.same (same_new hp)
theorem take_ {H : Hp} {Q : VK} {E : XK} {a : Addr} {m : Int} {n : Nat} (bx : BoxAt n H a) (hn : n ≤ 1000000) (h1 : 0 < m) (h2 : m < 1073741824) (q : ∀ (r : Int) (H' : Hp), 0 ≤ r → r < m → BoxAt (n + 1) H' a → Kp a H H' → Q (.int r) H') : sp_l_take [.ref a, .int m] H Q E :=
  ⟨a, m, n, rfl, bx, hn, h1, h2, fun r _ h0 h1 ho => q r _ h0 h1 (.of ho) .box⟩
theorem box_same {n : Nat} {H H' : Hp} {a : Addr} (s : Same H H') (b : BoxAt n H a) : BoxAt n H' a := b.same s
theorem kp_tr {a : Addr} {H H1 H2 : Hp} (l : Kp a H1 H2) (k : Kp a H H1) : Kp a H H2 := k.trans l
theorem kp_same {a : Addr} {H H1 H2 : Hp} (l : Same H1 H2) (k : Kp a H H1) : Kp a H H2 := fun b o n h => l b o (k b o n h)
theorem old' {H : Hp} {a p : Addr} {o u : HO} (hp : H p = none) (h : H a = some o) : upd H p u a = some o := old h hp
theorem box_new {n : Nat} {H : Hp} {a p : Addr} {o : HO} (hp : H p = none) (h : BoxAt n H a) : BoxAt n (upd H p o) a := h.new hp
theorem box_wr {n : Nat} {H : Hp} {a p : Addr} {o : HO} (hp : a ≠ p) (h : BoxAt n H a) : BoxAt n (upd H p o) a := h.wr hp
theorem kp_new {a p : Addr} {H H' : Hp} {o : HO} (hp : H' p = none) (k : Kp a H H') : Kp a H (upd H' p o) := k.new hp
theorem same_nw {H H' : Hp} {p : Addr} {o : HO} (hp : H' p = none) (s : Same H H') : Same H (upd H' p o) := G.Same.new s hp
end G
namespace K01
open PySem PySem.Spec PyProof.Rows L2 G
def top (i : Nat) : Stmt := PySem.Challenge.pw_eventdeliveries_k01_integers_names_paylo.main.body.getD i (.Pass ⟨0, 0, 0, 0⟩)
abbrev s_is_integer : Stmt := top 6
abbrev N_is_integer : List Str := ["value", "low", "high"]
abbrev P_is_integer : List Str := ["value", "low", "high"]
theorem sc_is_integer : FnScope N_is_integer P_is_integer (defScope s_is_integer) := ⟨rfl, rfl, rfl, by decide +kernel, rfl, by decide +kernel, by decide +kernel⟩
abbrev s_is_name : Stmt := top 7
abbrev N_is_name : List Str := ["value", "sign"]
abbrev P_is_name : List Str := ["value"]
theorem sc_is_name : FnScope N_is_name P_is_name (defScope s_is_name) := ⟨rfl, rfl, rfl, by decide +kernel, rfl, by decide +kernel, by decide +kernel⟩
abbrev s_is_payload : Stmt := top 8
abbrev N_is_payload : List Str := ["value"]
abbrev P_is_payload : List Str := ["value"]
theorem sc_is_payload : FnScope N_is_payload P_is_payload (defScope s_is_payload) := ⟨rfl, rfl, rfl, by decide +kernel, rfl, by decide +kernel, by decide +kernel⟩
abbrev s_is_plain : Stmt := top 9
abbrev N_is_plain : List Str := ["text", "sign"]
abbrev P_is_plain : List Str := ["text"]
theorem sc_is_plain : FnScope N_is_plain P_is_plain (defScope s_is_plain) := ⟨rfl, rfl, rfl, by decide +kernel, rfl, by decide +kernel, by decide +kernel⟩
abbrev s_l_cell : Stmt := top 11
abbrev N_l_cell : List Str := ["_law_script", "_law_k"]
abbrev P_l_cell : List Str := ["_law_script", "_law_k"]
theorem sc_l_cell : FnScope N_l_cell P_l_cell (defScope s_l_cell) := ⟨rfl, rfl, rfl, by decide +kernel, rfl, by decide +kernel, by decide +kernel⟩
abbrev s_l_box : Stmt := top 12
abbrev N_l_box : List Str := ["_law_cell_here"]
abbrev P_l_box : List Str := ["_law_cell_here"]
theorem sc_l_box : FnScope N_l_box P_l_box (defScope s_l_box) := ⟨rfl, rfl, rfl, by decide +kernel, rfl, by decide +kernel, by decide +kernel⟩
abbrev s_l_take : Stmt := top 13
abbrev N_l_take : List Str := ["_law_box_here", "_law_most", "_law_digit", "_law_one", "_law_two"]
abbrev P_l_take : List Str := ["_law_box_here", "_law_most"]
theorem sc_l_take : FnScope N_l_take P_l_take (defScope s_l_take) := ⟨rfl, rfl, rfl, by decide +kernel, rfl, by decide +kernel, by decide +kernel⟩
abbrev s_l_odd : Stmt := top 14
abbrev N_l_odd : List Str := ["_law_box_here", "_law_some"]
abbrev P_l_odd : List Str := ["_law_box_here"]
theorem sc_l_odd : FnScope N_l_odd P_l_odd (defScope s_l_odd) := ⟨rfl, rfl, rfl, by decide +kernel, rfl, by decide +kernel, by decide +kernel⟩
abbrev s_l_text : Stmt := top 15
abbrev N_l_text : List Str := ["_law_box_here", "_law_signs", "_law_letters", "_law_size", "_law_found", "_law_at", "_law_place"]
abbrev P_l_text : List Str := ["_law_box_here"]
theorem sc_l_text : FnScope N_l_text P_l_text (defScope s_l_text) := ⟨rfl, rfl, rfl, by decide +kernel, rfl, by decide +kernel, by decide +kernel⟩
abbrev s_l_whole : Stmt := top 16
abbrev N_l_whole : List Str := ["_law_thing"]
abbrev P_l_whole : List Str := ["_law_thing"]
theorem sc_l_whole : FnScope N_l_whole P_l_whole (defScope s_l_whole) := ⟨rfl, rfl, rfl, by decide +kernel, rfl, by decide +kernel, by decide +kernel⟩
abbrev s_l_is_name : Stmt := top 17
abbrev N_l_is_name : List Str := ["_law_thing", "_law_sign"]
abbrev P_l_is_name : List Str := ["_law_thing"]
theorem sc_l_is_name : FnScope N_l_is_name P_l_is_name (defScope s_l_is_name) := ⟨rfl, rfl, rfl, by decide +kernel, rfl, by decide +kernel, by decide +kernel⟩
abbrev s_l_is_payload : Stmt := top 18
abbrev N_l_is_payload : List Str := ["_law_thing", "_law_sign"]
abbrev P_l_is_payload : List Str := ["_law_thing"]
theorem sc_l_is_payload : FnScope N_l_is_payload P_l_is_payload (defScope s_l_is_payload) := ⟨rfl, rfl, rfl, by decide +kernel, rfl, by decide +kernel, by decide +kernel⟩
abbrev s_l_right : Stmt := top 19
abbrev N_l_right : List Str := ["_law_thing", "_law_found"]
abbrev P_l_right : List Str := ["_law_thing"]
theorem sc_l_right : FnScope N_l_right P_l_right (defScope s_l_right) := ⟨rfl, rfl, rfl, by decide +kernel, rfl, by decide +kernel, by decide +kernel⟩
abbrev s_law : Stmt := top 20
abbrev N_law : List Str := ["_law_script", "_law_k", "_law_box_here", "_law_turn", "_law_odd_here", "_law_text_here", "_law_least", "_law_great", "_law_number"]
abbrev P_law : List Str := ["_law_script"]
theorem sc_law : FnScope N_law P_law (defScope s_law) := ⟨rfl, rfl, rfl, by decide +kernel, rfl, by decide +kernel, by decide +kernel⟩
/-! what the head tells -/
def d_is_integer : He.DefD := ⟨("is_integer", none), "is_integer", "is_integer", defArgs s_is_integer, defBody s_is_integer, defScope s_is_integer, [], []⟩
def d_is_name : He.DefD := ⟨("is_name", none), "is_name", "is_name", defArgs s_is_name, defBody s_is_name, defScope s_is_name, [], []⟩
def d_is_payload : He.DefD := ⟨("is_payload", none), "is_payload", "is_payload", defArgs s_is_payload, defBody s_is_payload, defScope s_is_payload, [], []⟩
def d_is_plain : He.DefD := ⟨("is_plain", none), "is_plain", "is_plain", defArgs s_is_plain, defBody s_is_plain, defScope s_is_plain, [], []⟩
def d_l_cell : He.DefD := ⟨("_law_cell", none), "_law_cell", "_law_cell", defArgs s_l_cell, defBody s_l_cell, defScope s_l_cell, [], []⟩
def d_l_box : He.DefD := ⟨("_law_box", none), "_law_box", "_law_box", defArgs s_l_box, defBody s_l_box, defScope s_l_box, [], []⟩
def d_l_take : He.DefD := ⟨("_law_take", none), "_law_take", "_law_take", defArgs s_l_take, defBody s_l_take, defScope s_l_take, [], []⟩
def d_l_odd : He.DefD := ⟨("_law_odd", none), "_law_odd", "_law_odd", defArgs s_l_odd, defBody s_l_odd, defScope s_l_odd, [], []⟩
def d_l_text : He.DefD := ⟨("_law_text", none), "_law_text", "_law_text", defArgs s_l_text, defBody s_l_text, defScope s_l_text, [], []⟩
def d_l_whole : He.DefD := ⟨("_law_whole", none), "_law_whole", "_law_whole", defArgs s_l_whole, defBody s_l_whole, defScope s_l_whole, [], []⟩
def d_l_is_name : He.DefD := ⟨("_law_is_name", none), "_law_is_name", "_law_is_name", defArgs s_l_is_name, defBody s_l_is_name, defScope s_l_is_name, [], []⟩
def d_l_is_payload : He.DefD := ⟨("_law_is_payload", none), "_law_is_payload", "_law_is_payload", defArgs s_l_is_payload, defBody s_l_is_payload, defScope s_l_is_payload, [], []⟩
def d_l_right : He.DefD := ⟨("_law_right", none), "_law_right", "_law_right", defArgs s_l_right, defBody s_l_right, defScope s_l_right, [], []⟩
def d_law : He.DefD := ⟨("law", none), "law", "law", defArgs s_law, defBody s_law, defScope s_law, [], []⟩
def fn : List He.DefD := [d_is_integer, d_is_name, d_is_payload, d_is_plain, d_l_cell, d_l_box, d_l_take, d_l_odd, d_l_text, d_l_whole, d_l_is_name, d_l_is_payload, d_l_right, d_law]
def fa : List He.Fa := [.glo "is_integer", .glo "is_name", .glo "is_payload", .glo "is_plain", .glo "_law_cell", .glo "_law_box", .glo "_law_take", .glo "_law_odd", .glo "_law_text", .glo "_law_whole", .glo "_law_is_name", .glo "_law_is_payload", .glo "_law_right", .glo "law", .free "len", .free "isinstance", .free "int", .free "bool", .free "str", .free "all", .free "ord", .free "max", .free "min", .free "range", .free "repr", .int "MOST_LETTERS" 6, .int "MOST_SIGNS" 32, .int "FIRST_SIGN" 32, .int "PERCENT" 37, .int "LAST_SIGN" 126]
def ex : PySem.W.Frag → Bool := fun _ => true
section
variable {K : PySem.W.Frag} {mg : Str → Option Value}
theorem mg_is_integer (c : Hd fa fn ex K mg) : mg "is_integer" = some (.ref (He.ga K "is_integer")) := c.glo 0
theorem mg_is_name (c : Hd fa fn ex K mg) : mg "is_name" = some (.ref (He.ga K "is_name")) := c.glo 1
theorem mg_is_payload (c : Hd fa fn ex K mg) : mg "is_payload" = some (.ref (He.ga K "is_payload")) := c.glo 2
theorem mg_is_plain (c : Hd fa fn ex K mg) : mg "is_plain" = some (.ref (He.ga K "is_plain")) := c.glo 3
theorem mg_l_cell (c : Hd fa fn ex K mg) : mg "_law_cell" = some (.ref (He.ga K "_law_cell")) := c.glo 4
theorem mg_l_box (c : Hd fa fn ex K mg) : mg "_law_box" = some (.ref (He.ga K "_law_box")) := c.glo 5
theorem mg_l_take (c : Hd fa fn ex K mg) : mg "_law_take" = some (.ref (He.ga K "_law_take")) := c.glo 6
theorem mg_l_odd (c : Hd fa fn ex K mg) : mg "_law_odd" = some (.ref (He.ga K "_law_odd")) := c.glo 7
theorem mg_l_text (c : Hd fa fn ex K mg) : mg "_law_text" = some (.ref (He.ga K "_law_text")) := c.glo 8
theorem mg_l_whole (c : Hd fa fn ex K mg) : mg "_law_whole" = some (.ref (He.ga K "_law_whole")) := c.glo 9
theorem mg_l_is_name (c : Hd fa fn ex K mg) : mg "_law_is_name" = some (.ref (He.ga K "_law_is_name")) := c.glo 10
theorem mg_l_is_payload (c : Hd fa fn ex K mg) : mg "_law_is_payload" = some (.ref (He.ga K "_law_is_payload")) := c.glo 11
theorem mg_l_right (c : Hd fa fn ex K mg) : mg "_law_right" = some (.ref (He.ga K "_law_right")) := c.glo 12
theorem mg_law (c : Hd fa fn ex K mg) : mg "law" = some (.ref (He.ga K "law")) := c.glo 13
theorem fr_len (c : Hd fa fn ex K mg) : mg "len" = none := c.free 14
theorem fr_isinstance (c : Hd fa fn ex K mg) : mg "isinstance" = none := c.free 15
theorem fr_int (c : Hd fa fn ex K mg) : mg "int" = none := c.free 16
theorem fr_bool (c : Hd fa fn ex K mg) : mg "bool" = none := c.free 17
theorem fr_str (c : Hd fa fn ex K mg) : mg "str" = none := c.free 18
theorem fr_all (c : Hd fa fn ex K mg) : mg "all" = none := c.free 19
theorem fr_ord (c : Hd fa fn ex K mg) : mg "ord" = none := c.free 20
theorem fr_max (c : Hd fa fn ex K mg) : mg "max" = none := c.free 21
theorem fr_min (c : Hd fa fn ex K mg) : mg "min" = none := c.free 22
theorem fr_range (c : Hd fa fn ex K mg) : mg "range" = none := c.free 23
theorem fr_repr (c : Hd fa fn ex K mg) : mg "repr" = none := c.free 24
theorem c_MOST_LETTERS (c : Hd fa fn ex K mg) : ∃ t, mg "MOST_LETTERS" = some (.int 6 t) := c.int 25
theorem c_MOST_SIGNS (c : Hd fa fn ex K mg) : ∃ t, mg "MOST_SIGNS" = some (.int 32 t) := c.int 26
theorem c_FIRST_SIGN (c : Hd fa fn ex K mg) : ∃ t, mg "FIRST_SIGN" = some (.int 32 t) := c.int 27
theorem c_PERCENT (c : Hd fa fn ex K mg) : ∃ t, mg "PERCENT" = some (.int 37 t) := c.int 28
theorem c_LAST_SIGN (c : Hd fa fn ex K mg) : ∃ t, mg "LAST_SIGN" = some (.int 126 t) := c.int 29
abbrev a_is_integer (K : PySem.W.Frag) : Addr := He.ga K "is_integer"
theorem fd_is_integer (c : Hd fa fn ex K mg) : FunD K "is_integer" "is_integer" (defArgs s_is_integer) (defBody s_is_integer) (defScope s_is_integer) ([] : List V) ([] : List (Str × V)) (a_is_integer K) (fdOf K (a_is_integer K)) := c.fun_ 0
theorem bd_is_integer (c : Hd fa fn ex K mg) : Binds K (fdOf K (a_is_integer K)) P_is_integer [] := (fd_is_integer c).bindsN fun _ _ _ _ _ _ us hl => match us, hl with | [_, _, _], _ => rfl
abbrev a_is_name (K : PySem.W.Frag) : Addr := He.ga K "is_name"
theorem fd_is_name (c : Hd fa fn ex K mg) : FunD K "is_name" "is_name" (defArgs s_is_name) (defBody s_is_name) (defScope s_is_name) ([] : List V) ([] : List (Str × V)) (a_is_name K) (fdOf K (a_is_name K)) := c.fun_ 1
theorem bd_is_name (c : Hd fa fn ex K mg) : Binds K (fdOf K (a_is_name K)) P_is_name [] := (fd_is_name c).bindsN fun _ _ _ _ _ _ us hl => match us, hl with | [_], _ => rfl
abbrev a_is_payload (K : PySem.W.Frag) : Addr := He.ga K "is_payload"
theorem fd_is_payload (c : Hd fa fn ex K mg) : FunD K "is_payload" "is_payload" (defArgs s_is_payload) (defBody s_is_payload) (defScope s_is_payload) ([] : List V) ([] : List (Str × V)) (a_is_payload K) (fdOf K (a_is_payload K)) := c.fun_ 2
theorem bd_is_payload (c : Hd fa fn ex K mg) : Binds K (fdOf K (a_is_payload K)) P_is_payload [] := (fd_is_payload c).bindsN fun _ _ _ _ _ _ us hl => match us, hl with | [_], _ => rfl
abbrev a_is_plain (K : PySem.W.Frag) : Addr := He.ga K "is_plain"
theorem fd_is_plain (c : Hd fa fn ex K mg) : FunD K "is_plain" "is_plain" (defArgs s_is_plain) (defBody s_is_plain) (defScope s_is_plain) ([] : List V) ([] : List (Str × V)) (a_is_plain K) (fdOf K (a_is_plain K)) := c.fun_ 3
theorem bd_is_plain (c : Hd fa fn ex K mg) : Binds K (fdOf K (a_is_plain K)) P_is_plain [] := (fd_is_plain c).bindsN fun _ _ _ _ _ _ us hl => match us, hl with | [_], _ => rfl
abbrev a_l_cell (K : PySem.W.Frag) : Addr := He.ga K "_law_cell"
theorem fd_l_cell (c : Hd fa fn ex K mg) : FunD K "_law_cell" "_law_cell" (defArgs s_l_cell) (defBody s_l_cell) (defScope s_l_cell) ([] : List V) ([] : List (Str × V)) (a_l_cell K) (fdOf K (a_l_cell K)) := c.fun_ 4
theorem bd_l_cell (c : Hd fa fn ex K mg) : Binds K (fdOf K (a_l_cell K)) P_l_cell [] := (fd_l_cell c).bindsN fun _ _ _ _ _ _ us hl => match us, hl with | [_, _], _ => rfl
abbrev a_l_box (K : PySem.W.Frag) : Addr := He.ga K "_law_box"
theorem fd_l_box (c : Hd fa fn ex K mg) : FunD K "_law_box" "_law_box" (defArgs s_l_box) (defBody s_l_box) (defScope s_l_box) ([] : List V) ([] : List (Str × V)) (a_l_box K) (fdOf K (a_l_box K)) := c.fun_ 5
theorem bd_l_box (c : Hd fa fn ex K mg) : Binds K (fdOf K (a_l_box K)) P_l_box [] := (fd_l_box c).bindsN fun _ _ _ _ _ _ us hl => match us, hl with | [_], _ => rfl
abbrev a_l_take (K : PySem.W.Frag) : Addr := He.ga K "_law_take"
theorem fd_l_take (c : Hd fa fn ex K mg) : FunD K "_law_take" "_law_take" (defArgs s_l_take) (defBody s_l_take) (defScope s_l_take) ([] : List V) ([] : List (Str × V)) (a_l_take K) (fdOf K (a_l_take K)) := c.fun_ 6
theorem bd_l_take (c : Hd fa fn ex K mg) : Binds K (fdOf K (a_l_take K)) P_l_take [] := (fd_l_take c).bindsN fun _ _ _ _ _ _ us hl => match us, hl with | [_, _], _ => rfl
abbrev a_l_odd (K : PySem.W.Frag) : Addr := He.ga K "_law_odd"
theorem fd_l_odd (c : Hd fa fn ex K mg) : FunD K "_law_odd" "_law_odd" (defArgs s_l_odd) (defBody s_l_odd) (defScope s_l_odd) ([] : List V) ([] : List (Str × V)) (a_l_odd K) (fdOf K (a_l_odd K)) := c.fun_ 7
theorem bd_l_odd (c : Hd fa fn ex K mg) : Binds K (fdOf K (a_l_odd K)) P_l_odd [] := (fd_l_odd c).bindsN fun _ _ _ _ _ _ us hl => match us, hl with | [_], _ => rfl
abbrev a_l_text (K : PySem.W.Frag) : Addr := He.ga K "_law_text"
theorem fd_l_text (c : Hd fa fn ex K mg) : FunD K "_law_text" "_law_text" (defArgs s_l_text) (defBody s_l_text) (defScope s_l_text) ([] : List V) ([] : List (Str × V)) (a_l_text K) (fdOf K (a_l_text K)) := c.fun_ 8
theorem bd_l_text (c : Hd fa fn ex K mg) : Binds K (fdOf K (a_l_text K)) P_l_text [] := (fd_l_text c).bindsN fun _ _ _ _ _ _ us hl => match us, hl with | [_], _ => rfl
abbrev a_l_whole (K : PySem.W.Frag) : Addr := He.ga K "_law_whole"
theorem fd_l_whole (c : Hd fa fn ex K mg) : FunD K "_law_whole" "_law_whole" (defArgs s_l_whole) (defBody s_l_whole) (defScope s_l_whole) ([] : List V) ([] : List (Str × V)) (a_l_whole K) (fdOf K (a_l_whole K)) := c.fun_ 9
theorem bd_l_whole (c : Hd fa fn ex K mg) : Binds K (fdOf K (a_l_whole K)) P_l_whole [] := (fd_l_whole c).bindsN fun _ _ _ _ _ _ us hl => match us, hl with | [_], _ => rfl
abbrev a_l_is_name (K : PySem.W.Frag) : Addr := He.ga K "_law_is_name"
theorem fd_l_is_name (c : Hd fa fn ex K mg) : FunD K "_law_is_name" "_law_is_name" (defArgs s_l_is_name) (defBody s_l_is_name) (defScope s_l_is_name) ([] : List V) ([] : List (Str × V)) (a_l_is_name K) (fdOf K (a_l_is_name K)) := c.fun_ 10
theorem bd_l_is_name (c : Hd fa fn ex K mg) : Binds K (fdOf K (a_l_is_name K)) P_l_is_name [] := (fd_l_is_name c).bindsN fun _ _ _ _ _ _ us hl => match us, hl with | [_], _ => rfl
abbrev a_l_is_payload (K : PySem.W.Frag) : Addr := He.ga K "_law_is_payload"
theorem fd_l_is_payload (c : Hd fa fn ex K mg) : FunD K "_law_is_payload" "_law_is_payload" (defArgs s_l_is_payload) (defBody s_l_is_payload) (defScope s_l_is_payload) ([] : List V) ([] : List (Str × V)) (a_l_is_payload K) (fdOf K (a_l_is_payload K)) := c.fun_ 11
theorem bd_l_is_payload (c : Hd fa fn ex K mg) : Binds K (fdOf K (a_l_is_payload K)) P_l_is_payload [] := (fd_l_is_payload c).bindsN fun _ _ _ _ _ _ us hl => match us, hl with | [_], _ => rfl
abbrev a_l_right (K : PySem.W.Frag) : Addr := He.ga K "_law_right"
theorem fd_l_right (c : Hd fa fn ex K mg) : FunD K "_law_right" "_law_right" (defArgs s_l_right) (defBody s_l_right) (defScope s_l_right) ([] : List V) ([] : List (Str × V)) (a_l_right K) (fdOf K (a_l_right K)) := c.fun_ 12
theorem bd_l_right (c : Hd fa fn ex K mg) : Binds K (fdOf K (a_l_right K)) P_l_right [] := (fd_l_right c).bindsN fun _ _ _ _ _ _ us hl => match us, hl with | [_], _ => rfl
abbrev a_law (K : PySem.W.Frag) : Addr := He.ga K "law"
theorem fd_law (c : Hd fa fn ex K mg) : FunD K "law" "law" (defArgs s_law) (defBody s_law) (defScope s_law) ([] : List V) ([] : List (Str × V)) (a_law K) (fdOf K (a_law K)) := c.fun_ 13
theorem bd_law (c : Hd fa fn ex K mg) : Binds K (fdOf K (a_law K)) P_law [] := (fd_law c).bindsN fun _ _ _ _ _ _ us hl => match us, hl with | [_], _ => rfl
end
end K01
local macro_rules | `(tactic| walk_at "s1") => `(tactic| first
  | (with_reducible show L2.tVar _ _ _ _; refine G.i_var rfl ?_)
  | with_reducible refine G.i_c ?_
  | with_reducible refine G.i_op ?_
  | with_reducible refine G.i_cons ?_
  | with_reducible refine G.i_nil ?_
  | with_reducible refine G.i_I0 ?_
  | with_reducible refine G.i_seq ?_
  | with_reducible refine G.i_asg ?_
  | with_reducible refine G.i_name ?_
  | with_reducible refine G.i_ifs ?_
  | with_reducible refine G.i_test ?_
  | with_reducible refine G.i_B ?_
  | with_reducible refine G.i_bl ?_
  | with_reducible refine G.i_ret ?_
  | with_reducible refine G.i_next ?_
  | with_reducible refine G.i_cb ?_
  | with_reducible refine G.i_call ?_
  | (with_reducible show L2.rEq _ _ _ _; refine G.i_eq rfl ?_)
  | (with_reducible show L2.rNe _ _ _ _; refine G.i_ne rfl ?_)
  | with_reducible refine G.i_gsub ?_
  | with_reducible refine G.i_drop ?_
  | with_reducible refine G.i_par ?_
  | with_reducible refine G.i_two ?_
  | with_reducible refine G.i_ii ?_
  | with_reducible refine G.i_ss ?_
  | with_reducible refine G.i_not ?_
  | with_reducible refine G.i_notV ?_
  | with_reducible refine G.i_andV ?_
  | with_reducible refine G.i_orV ?_
  | with_reducible refine G.i_and ?_
  | with_reducible refine G.i_or ?_
  | with_reducible refine G.i_if ?_
  | with_reducible refine G.i_chain ?_
  | with_reducible refine G.i_lst ?_
  | with_reducible refine G.i_tup ?_
  | with_reducible refine G.i_un ?_
  | with_reducible refine G.i_U ?_
  | with_reducible refine G.i_sl ?_
  | with_reducible refine G.i_noPart ?_
  | with_reducible refine G.i_part ?_
  | with_reducible refine G.i_int ?_
  | with_reducible refine G.i_for ?_
  | with_reducible refine G.i_rng1 ?_
  | with_reducible refine G.i_retN ?_
  | with_reducible refine G.i_lc ?_
  | with_reducible refine G.i_iStr ?_
  | with_reducible refine G.i_str ?_
  | with_reducible refine G.i_iList ?_
  | with_reducible refine G.i_iTup ?_
  | with_reducible refine G.i_yes ?_
  | with_reducible refine G.i_M1 ?_
  | with_reducible refine G.i_isB ?_
  | with_reducible refine G.i_callK ?_
  | with_reducible refine G.i_callN0 ?_
  | with_reducible refine G.i_notB ?_
  | with_reducible refine L2.iteT ?_
  | with_reducible refine L2.iteF ?_
  | (with_reducible show (if (!false) = true then _ else _); refine G.i_isT rfl ?_)
  | (with_reducible show (if (!true) = true then _ else _); refine G.i_isF rfl ?_))
local macro_rules | `(tactic| walk_at "S") => `(tactic| repeat walk_at "s1")
local macro_rules | `(tactic| walk_at "hp") => `(tactic| first
  | assumption
  | with_reducible exact L2.upd_same
  | (with_reducible refine G.old' (by assumption) ?_; walk_at "hp")
  | (with_reducible refine G.oldw (by assumption) ?_; walk_at "hp")
  | (with_reducible refine G.oldw (Ne.symm (by assumption)) ?_; walk_at "hp")
  | (with_reducible refine G.Kp.at (by assumption) (by assumption) ?_; walk_at "hp"))
local macro_rules | `(tactic| walk_at "bx") => `(tactic| first
  | with_reducible assumption
  | with_reducible exact G.BoxAt.of (by assumption)
  | with_reducible exact G.box_new (by assumption) (by walk_at "bx")
  | with_reducible exact G.box_wr (by assumption) (by walk_at "bx")
  | with_reducible exact G.box_wr (Ne.symm (by assumption)) (by walk_at "bx")
  | with_reducible exact G.box_same (by assumption) (by walk_at "bx"))
local macro_rules | `(tactic| walk_at "kp") => `(tactic| first
  | with_reducible assumption
  | with_reducible exact G.Kp.refl
  | (with_reducible refine G.kp_new (by assumption) ?_; walk_at "kp")
  | (with_reducible refine G.Kp.bx ?_; walk_at "kp")
  | (with_reducible refine G.kp_tr (by assumption) ?_; walk_at "kp")
  | (with_reducible refine G.kp_same (by assumption) ?_; walk_at "kp"))
local macro_rules | `(tactic| walk_at "sm") => `(tactic| first
  | with_reducible assumption
  | with_reducible exact L2.Same.refl _
  | (with_reducible refine G.same_nw (by assumption) ?_; walk_at "sm")
  | (with_reducible refine G.same_kp' (by assumption) (by assumption) ?_; walk_at "sm")
  | (with_reducible refine G.same_tr (by assumption) ?_; walk_at "sm"))
local macro_rules | `(tactic| walk_at "kd") => `(tactic| first
  | with_reducible assumption
  | (with_reducible refine G.kd_new (by assumption) ?_; walk_at "kd")
  | (with_reducible refine G.kd_kp (by assumption) (by assumption) ?_; walk_at "kd")
  | (with_reducible refine G.kd_same (by assumption) ?_; walk_at "kd"))
namespace K01
open PySem PySem.Spec PyProof.Rows L2 G
section
variable {P : Program} {w : World} {K : PySem.W.Frag} {mg : Str → Option Value} {base : Heap}
theorem ok_l_take (c : Hd fa fn ex K mg) : FnOk P w K mg base CX0 1 (a_l_take K) (fdOf K (a_l_take K)) P_l_take sp_l_take := by
  refine (fd_l_take c).ok sc_l_take (fun vs H Q E h => ?_) (fun cdv A outer s H vs Q E hr h => ?_)
  · obtain ⟨a, m, n, rfl, _⟩ := h
    rfl
  · obtain ⟨a, m, n, rfl, ⟨o, ho, x, y, z, rfl, hy, hy2, hz, hz2⟩, hn, hm, hm2, k⟩ := h
    refine ⟨_, PSs.nox (pss_cons (ps_if (pt_cmpR op_gt (pe_ix ix_list (pv 0) pe_int (fun _ _ => rfl)) pe_int (nomark _)) (pss_cons (ps_set (i := 2) sc_l_take.nd rfl (Or.inl rfl) (pe_op op_mod (pe_ix ix_list (pv 0) pe_int (fun _ _ => rfl)) (pv 1)))
      (pss_cons (ps_asg (pe_op op_fdiv (pe_ix ix_list (pv 0) pe_int (fun _ _ => rfl)) (pv 1)) (pg_sub (pv 0) pe_int set_list))
      (pss_one (ps_ret (pv 2))))) pss_nil)
      (pss_cons (ps_asg (pe_op op_add (pe_ix ix_list (pv 0) pe_int (fun _ _ => rfl)) pe_int) (pg_sub (pv 0) pe_int set_list))
      (pss_cons (ps_set (i := 3) sc_l_take.nd rfl (Or.inl rfl) (pe_op op_mod (pe_op op_pow (pe_op op_add (pe_op op_add (pe_ix ix_list (pv 0) pe_int (fun _ _ => rfl)) (pe_op op_mul pe_int (pe_ix ix_list (pv 0) pe_int (fun _ _ => rfl)))) pe_int) pe_int) pe_int))
      (pss_cons (ps_set (i := 4) sc_l_take.nd rfl (Or.inl rfl) (pe_op op_mod (pe_op op_pow (pe_op op_add (pe_op op_add (pe_op op_fdiv (pv 3) pe_int) (pe_op op_mul pe_int (pe_ix ix_list (pv 0) pe_int (fun _ _ => rfl)))) pe_int) pe_int) pe_int))
      (pss_one (ps_ret (pe_op op_mod (pe_op op_add (pe_op op_fdiv (pv 3) pe_int) (pe_op op_mul pe_int (pe_op op_fdiv (pv 4) pe_int))) (pv 1)))))))), ?_⟩
    walk_at "S"
    refine i_ixL (SqL.of ho) rfl ?_
    walk_at "S"
    refine i_dec (fun hx => ?_) (fun hx => ?_)
    · walk_at "S"
      refine i_ixL (SqL.of ho) rfl ?_
      walk_at "S"
      refine i_I hm ?_
      walk_at "S"
      refine i_ixL (SqL.of ho) rfl ?_
      walk_at "S"
      refine i_I ⟨hm, hm2⟩ ?_
      walk_at "S"
      refine i_setL ho rfl ?_
      walk_at "S"
      exact k _ _ (Int.emod_nonneg _ (by omega)) (Int.emod_lt_of_pos _ hm) ⟨_, y, z, rfl, hy, hy2, hz, by omega⟩
    · walk_at "S"
      refine i_ixL (SqL.of ho) rfl ?_
      walk_at "S"
      refine i_setL ho rfl ?_
      walk_at "S"
      refine i_ixL (SqL.of upd_same) rfl ?_
      walk_at "S"
      refine i_ixL (SqL.of upd_same) rfl ?_
      walk_at "S"
      refine i_I (.inl ⟨by decide, by decide⟩) ?_
      walk_at "S"
      refine i_I ⟨by decide, by decide, by omega⟩ ?_
      walk_at "S"
      refine i_I (by decide) ?_
      walk_at "S"
      have h1 := Int.emod_nonneg ((y + 6133 * (z + 1) + 37) ^ (5 : Int).toNat) (show (2147483647 : Int) ≠ 0 by decide)
      have h2 := Int.emod_lt_of_pos ((y + 6133 * (z + 1) + 37) ^ (5 : Int).toNat) (show (0 : Int) < 2147483647 by decide)
      generalize (y + 6133 * (z + 1) + 37) ^ (5 : Int).toNat % 2147483647 = e1 at h1 h2 ⊢
      refine i_I ⟨by decide, by decide⟩ ?_
      walk_at "S"
      refine i_ixL (SqL.of upd_same) rfl ?_
      walk_at "S"
      refine i_I (.inl ⟨by decide, by decide⟩) ?_
      walk_at "S"
      refine i_I ⟨by decide, by decide, by omega⟩ ?_
      walk_at "S"
      refine i_I (by decide) ?_
      walk_at "S"
      refine i_I ⟨by decide, by decide⟩ ?_
      walk_at "S"
      refine i_I ⟨by decide, by decide⟩ ?_
      walk_at "S"
      refine i_I (.inl ⟨by decide, by decide⟩) ?_
      walk_at "S"
      refine i_I hm ?_
      exact k _ _ (Int.emod_nonneg _ (by omega)) (Int.emod_lt_of_pos _ hm) ⟨x, y, z + 1, rfl, hy, hy2, by omega, by omega⟩

theorem ok_l_box (c : Hd fa fn ex K mg) : FnOk P w K mg base CX0 1 (a_l_box K) (fdOf K (a_l_box K)) P_l_box sp_l_box := by
  refine (fd_l_box c).ok sc_l_box (fun vs H Q E h => ?_) (fun cdv A outer s H vs Q E hr h => ?_)
  · obtain ⟨i, rfl, _⟩ := h
    rfl
  · obtain ⟨i, rfl, k⟩ := h
    refine ⟨_, PSs.nox (pss_one (ps_ret (pe_lst (pa_cons (pe_callB (call_max2 rfl) rfl (fr_max c) (by decide +kernel) (pa_cons pe_int (pa_cons (pe_op op_sub (pv 0) (pe_op op_pow pe_int pe_int)) pa_nil))) (pa_cons (pe_op op_mod (pv 0) pe_int) (pa_cons pe_int pa_nil)))))), ?_⟩
    walk_at "S"
    refine i_I ⟨by decide, by decide, by decide⟩ ?_
    walk_at "S"
    refine i_I (by decide) ?_
    walk_at "S"
    refine ⟨few, fun p hp => ?_⟩
    exact k p _ hp ⟨_, _, _, rfl, Int.emod_nonneg _ (by decide), Int.emod_lt_of_pos _ (by decide), by decide, by decide⟩

theorem ok_l_cell (c : Hd fa fn ex K mg) : FnOk P w K mg base CX0 1 (a_l_cell K) (fdOf K (a_l_cell K)) P_l_cell (sp_l_cell K) := by
  refine (fd_l_cell c).ok sc_l_cell (fun vs H Q E h => ?_) (fun cdv A outer s H vs Q E hr h => ?_)
  · obtain ⟨a, ns, j, rfl, _⟩ := h
    rfl
  · obtain ⟨a, ns, j, rfl, hs, hj, k⟩ := h
    refine ⟨_, PSs.nox (pss_cons (ps_if (pt_cmpR op_lt (pv 1) (pe_callB call_len rfl (fr_len c) (by decide +kernel) (pa_cons (pv 0) pa_nil)) (nomark _)) (pss_one (ps_ret (pe_ix ix_list (pv 0) (pv 1) (fun _ _ => rfl)))) pss_nil)
      (pss_one (ps_ret (pe_op op_add (pe_op op_mul pe_int (pv 1)) pe_int)))), ?_⟩
    walk_at "S"
    refine ⟨_, _, rfl, .inl ⟨_, hs, rfl⟩, ?_⟩
    walk_at "S"
    refine i_dec (fun hx => ?_) (fun hx => ?_)
    · walk_at "S"
      rw [List.length_map] at hx
      have hlt : j.toNat < ns.length := by omega
      refine i_ixL hs (v := .int ns[j.toNat]) (by simp [atI, ixN, hj, hx, hlt]) ?_
      exact k _
    · walk_at "S"
      refine i_I (.inl ⟨by decide, by decide⟩) ?_
      walk_at "S"
      exact k _

theorem ok_is_integer (c : Hd fa fn ex K mg) : FnOk P w K mg base CX0 1 (a_is_integer K) (fdOf K (a_is_integer K)) P_is_integer sp_is_integer := by
  refine (fd_is_integer c).ok sc_is_integer (fun vs H Q E h => ?_) (fun cdv A outer s H vs Q E hr h => ?_)
  · obtain ⟨v, lo, hi, T, rfl, _⟩ := h
    rfl
  · obtain ⟨v, lo, hi, T, rfl, kd, k⟩ := h
    refine ⟨_, PSs.nox (pss_one (ps_ret (pe_and (pe_callB call_isi rfl (fr_isinstance c) (by decide +kernel) (pa_cons (pv 0) (pa_cons (pe_ty (T := "int") (fr_int c) (by decide +kernel)) pa_nil))) (pe_and (pe_not (pe_callB call_isi rfl (fr_isinstance c) (by decide +kernel) (pa_cons (pv 0) (pa_cons (pe_ty (T := "bool") (fr_bool c) (by decide +kernel)) pa_nil)))) (pe_one (pe_chain op_le op_le (pv 1) (pv 0) (pv 2))))))), ?_⟩
    walk_at "S"
    cases kd with
    | int i =>
      refine i_isi (.int i) (b := true) (by decide +kernel) ?_
      walk_at "S"
      refine i_isi (.int i) (b := false) (by decide +kernel) ?_
      walk_at "S"
      refine i_dec (fun h1 => ?_) (fun h1 => ?_)
      · walk_at "S"
        simpa [isI, h1] using k
      · simpa [isI, h1] using k
    | bl b =>
      refine i_isi (.bl b) (b := true) (by decide +kernel) ?_
      walk_at "S"
      refine i_isi (.bl b) (b := true) (by decide +kernel) ?_
      walk_at "S"
      exact k
    | non => exact i_isi .non (b := false) (by decide +kernel) (by walk_at "S"; exact k)
    | str x => exact i_isi (.str x) (b := false) (by decide +kernel) (by walk_at "S"; exact k)
    | lst e => exact i_isi (.lst e) (b := false) (by decide +kernel) (by walk_at "S"; exact k)
    | tup e => exact i_isi (.tup e) (b := false) (by decide +kernel) (by walk_at "S"; exact k)
    | dct e => exact i_isi (.dct e) (b := false) (by decide +kernel) (by walk_at "S"; exact k)

end

end K01
namespace K01
open PySem PySem.Spec PyProof.Rows L2 G
section
variable {P : Program} {w : World} {K : PySem.W.Frag} {mg : Str → Option Value} {base : Heap}
theorem ok_is_plain (c : Hd fa fn ex K mg) : FnOk P w K mg base CX0 1 (a_is_plain K) (fdOf K (a_is_plain K)) P_is_plain sp_is_plain := by
  refine (fd_is_plain c).ok sc_is_plain (fun vs H Q E h => ?_) (fun cdv A outer s H vs Q E hr h => ?_)
  · obtain ⟨z, rfl, _⟩ := h
    rfl
  · obtain ⟨z, rfl, hz, k⟩ := h
    refine ⟨_, PSs.nox (pss_one (ps_ret (pe_callB (cr_all rfl) rfl (fr_all c) (by decide +kernel) (pa_cons (pe_lc (own := [("sign", 1)]) rfl sc_is_plain.nd (pi_str (pv 0)) (blkOk_by (own := [("sign", 1)]) (N := N_is_plain) (sc := defScope s_is_plain) (by decide +kernel)) (fun _ _ _ _ _ => (pg_name (i := 1) sc_is_plain.nd rfl (Or.inl rfl))) (fun _ _ _ _ _ => pts_nil) (fun _ _ _ _ _ => (pe_and (pe_chain op_le op_le (pe_gint (c_FIRST_SIGN c)) (pe_callB call_ord rfl (fr_ord c) (by decide +kernel) (pa_cons (pv 1) pa_nil)) (pe_gint (c_LAST_SIGN c))) (pe_one (pe_cmpR op_ne (pe_callB call_ord rfl (fr_ord c) (by decide +kernel) (pa_cons (pv 1) pa_nil)) (pe_gint (c_PERCENT c)) (nomark _)))))) pa_nil)))), ?_⟩
    walk_at "S"
    intro D hD
    refine lc_flt walk_strI (fun c => some (.bl (plainC c))) (fun _ => trivial) hz (fun c F Ny Nn hc hy hn => ?_) ?_
    · walk_at "S"
      refine ⟨rfl, ?_⟩
      walk_at "S"
      refine ⟨_, rfl, rfl, ?_⟩
      walk_at "S"
      refine i_dec (fun h1 => ?_) (fun h1 => ?_)
      · walk_at "S"
        refine i_dec (fun h2 => ?_) (fun h2 => ?_)
        · walk_at "S"
          refine ⟨_, rfl, rfl, ?_⟩
          walk_at "S"
          exact hy _ (congrArg (fun b => some (V.bl b)) (plainC_t h1 h2))
        · walk_at "S"
          exact hy _ (congrArg (fun b => some (V.bl b)) (plainC_f (.inr h2)))
      · walk_at "S"
        exact hy _ (congrArg (fun b => some (V.bl b)) (plainC_f (.inl h1)))
    · walk_at "S"
      refine i_all (bs := z.cps.toList.map plainC) (SqL.of (by rw [upd_same]; simp)) ?_
      rw [List.all_map]
      exact k _ (same_new hD)

theorem ok_is_payload (c : Hd fa fn ex K mg) : FnOk P w K mg base CX0 2 (a_is_payload K) (fdOf K (a_is_payload K)) P_is_payload sp_is_payload := by
  refine (fd_is_payload c).ok sc_is_payload (fun vs H Q E h => ?_) (fun cdv A outer s H vs Q E hr h => ?_)
  · obtain ⟨v, T, rfl, _⟩ := h
    rfl
  · obtain ⟨v, T, rfl, kd, hz, k⟩ := h
    refine ⟨_, PSs.nox (pss_one (ps_ret (pe_and (pe_callB call_isi rfl (fr_isinstance c) (by decide +kernel) (pa_cons (pv 0) (pa_cons (pe_ty (T := "str") (fr_str c) (by decide +kernel)) pa_nil))) (pe_and (pe_cmpR op_le (pe_callB call_len rfl (fr_len c) (by decide +kernel) (pa_cons (pv 0) pa_nil)) (pe_gint (c_MOST_SIGNS c)) (nomark _)) (pe_one (pe_call (ok_is_plain c) (hr.mono (by decide)) rfl (mg_is_plain c) (fd_is_plain c).kp (bd_is_plain c) .nil pass0 (pa_cons (pv 0) pa_nil))))))), ?_⟩
    walk_at "S"
    cases kd with
    | str z =>
      refine i_isi (.str z) (b := true) (by decide +kernel) ?_
      walk_at "S"
      refine ⟨_, _, rfl, ⟨hz, rfl⟩, ?_⟩
      walk_at "S"
      refine i_dec (fun h1 => ?_) (fun h1 => ?_)
      · walk_at "S"
        refine ⟨z, rfl, hz, fun H' s' => ?_⟩
        have e : isPay (.str z) = plainS z := by
          show (decide (z.length ≤ 32) && plainS z) = plainS z
          rw [decide_eq_true (by omega), Bool.true_and]
        rw [← e]
        exact k H' s'
      · have e : isPay (.str z) = false := by
          show (decide (z.length ≤ 32) && plainS z) = false
          rw [decide_eq_false (by omega), Bool.false_and]
        walk_at "S"
        rw [← e]
        exact k H (Same.refl H)
    | non => exact i_isi .non (b := false) (by decide +kernel) (by walk_at "S"; exact k H (Same.refl H))
    | bl x => exact i_isi (.bl x) (b := false) (by decide +kernel) (by walk_at "S"; exact k H (Same.refl H))
    | int x => exact i_isi (.int x) (b := false) (by decide +kernel) (by walk_at "S"; exact k H (Same.refl H))
    | lst e => exact i_isi (.lst e) (b := false) (by decide +kernel) (by walk_at "S"; exact k H (Same.refl H))
    | tup e => exact i_isi (.tup e) (b := false) (by decide +kernel) (by walk_at "S"; exact k H (Same.refl H))
    | dct e => exact i_isi (.dct e) (b := false) (by decide +kernel) (by walk_at "S"; exact k H (Same.refl H))

theorem ok_is_name (c : Hd fa fn ex K mg) : FnOk P w K mg base CX0 1 (a_is_name K) (fdOf K (a_is_name K)) P_is_name sp_is_name := by
  refine (fd_is_name c).ok sc_is_name (fun vs H Q E h => ?_) (fun cdv A outer s H vs Q E hr h => ?_)
  · obtain ⟨v, T, rfl, _⟩ := h
    rfl
  · obtain ⟨v, T, rfl, kd, hz, k⟩ := h
    refine ⟨_, PSs.nox (pss_one (ps_ret (pe_and (pe_callB call_isi rfl (fr_isinstance c) (by decide +kernel) (pa_cons (pv 0) (pa_cons (pe_ty (T := "str") (fr_str c) (by decide +kernel)) pa_nil))) (pe_and (pe_chain op_lt op_le pe_int (pe_callB call_len rfl (fr_len c) (by decide +kernel) (pa_cons (pv 0) pa_nil)) (pe_gint (c_MOST_LETTERS c))) (pe_one (pe_callB (cr_all rfl) rfl (fr_all c) (by decide +kernel) (pa_cons (pe_lc (own := [("sign", 1)]) rfl sc_is_name.nd (pi_str (pv 0)) (blkOk_by (own := [("sign", 1)]) (N := N_is_name) (sc := defScope s_is_name) (by decide +kernel)) (fun _ _ _ _ _ => (pg_name (i := 1) sc_is_name.nd rfl (Or.inl rfl))) (fun _ _ _ _ _ => pts_nil) (fun _ _ _ _ _ => (pe_chain op_le_str op_le_str pe_str (pv 1) pe_str))) pa_nil))))))), ?_⟩
    walk_at "S"
    cases kd with
    | str z =>
      have no : ¬ (0 < z.length ∧ z.length ≤ 6) → Q (.bl false) H := fun h => by
        have e : isName (.str z) = false := nameS_len h
        rw [← e]
        exact k H (Same.refl H)
      refine i_isi (.str z) (b := true) (by decide +kernel) ?_
      walk_at "S"
      refine ⟨_, _, rfl, ⟨hz, rfl⟩, ?_⟩
      walk_at "S"
      refine i_dec (fun h1 => ?_) (fun h1 => ?_)
      · walk_at "S"
        refine i_dec (fun h2 => ?_) (fun h2 => ?_)
        · walk_at "S"
          intro D hD
          refine lc_flt walk_strI (fun c => some (.bl (nameC c))) (fun _ => trivial) hz (fun c F Ny Nn hc hy hn => ?_) ?_
          · walk_at "S"
            refine ⟨rfl, ?_⟩
            walk_at "S"
            refine i_ite (fun h3 => ?_) (fun h3 => ?_)
            · walk_at "S"
              exact hy _ (congrArg (fun b => some (V.bl b)) (nameC_t h3))
            · exact hy _ (congrArg (fun b => some (V.bl b)) (nameC_f h3))
          · walk_at "S"
            refine i_all (bs := z.cps.toList.map nameC) (SqL.of (by rw [upd_same]; simp)) ?_
            rw [List.all_map]
            have e : isName (.str z) = z.cps.toList.all (id ∘ nameC) := by
              show (decide (0 < z.length) && decide (z.length ≤ 6) && z.cps.toList.all nameC) = _
              rw [decide_eq_true (by omega), decide_eq_true (by omega), Bool.true_and, Bool.true_and]
              rfl
            rw [← e]
            exact k _ (same_new hD)
        · walk_at "S"
          exact no (by omega)
      · walk_at "S"
        exact no (by omega)
    | non => exact i_isi .non (b := false) (by decide +kernel) (by walk_at "S"; exact k H (Same.refl H))
    | bl x => exact i_isi (.bl x) (b := false) (by decide +kernel) (by walk_at "S"; exact k H (Same.refl H))
    | int x => exact i_isi (.int x) (b := false) (by decide +kernel) (by walk_at "S"; exact k H (Same.refl H))
    | lst e => exact i_isi (.lst e) (b := false) (by decide +kernel) (by walk_at "S"; exact k H (Same.refl H))
    | tup e => exact i_isi (.tup e) (b := false) (by decide +kernel) (by walk_at "S"; exact k H (Same.refl H))
    | dct e => exact i_isi (.dct e) (b := false) (by decide +kernel) (by walk_at "S"; exact k H (Same.refl H))

end

end K01
namespace K01
open PySem PySem.Spec PyProof.Rows L2 G
/-- no percent sign, signs of Unicode -/
def NoPct (z : Str) : Prop := ∀ c ∈ z.cps.toList, c ≠ 37
def okV : V → Prop
  | .str z => z.length ≤ 100 ∧ NoPct z
  | _ => True
theorem okV.fit {v : V} (h : okV v) : fitV v := by
  cases v with
  | str z => exact Nat.le_trans h.1 (by decide)
  | _ => exact trivial
def isPayL : V → Bool
  | .str z => decide (z.length ≤ 32) && z.cps.toList.all fun c => decide (32 ≤ c) && decide (c ≤ 126)
  | _ => false
theorem pay_eq {v : V} (h : okV v) : isPay v = isPayL v := by
  cases v with
  | str z =>
    show (decide (z.length ≤ 32) && plainS z) = (decide (z.length ≤ 32) && _)
    congr 1
    unfold plainS
    have key : ∀ l : List Nat, (∀ c ∈ l, c ≠ 37) → l.all plainC = l.all fun c => decide (32 ≤ c) && decide (c ≤ 126) := by
      intro l
      induction l with
      | nil => exact fun _ => rfl
      | cons a r ih =>
        intro hl
        rw [List.all_cons, List.all_cons, ih fun c hc => hl c (List.mem_cons_of_mem _ hc)]
        congr 1
        unfold plainC
        rw [decide_eq_false (hl a List.mem_cons_self)]
        simp
    exact key _ h.2
  | _ => rfl
def sp_l_whole : Sp := fun vs H Q _ => ∃ (v : V) (T : String), vs = [v] ∧ Kd H v T ∧ Q (.bl (match v with | .int _ => true | _ => false)) H
def sp_l_is_payload : Sp := fun vs H Q _ => ∃ (v : V) (T : String), vs = [v] ∧ Kd H v T ∧ fitV v ∧ ∀ H', Same H H' → Q (.bl (isPayL v)) H'
theorem letters_mem (c : Nat) : c ∈ (Str.ofString "abcdefghijklmnopqrstuvwxyz").cps.toList ↔ 97 ≤ c ∧ c ≤ 122 := by
  have e : (Str.ofString "abcdefghijklmnopqrstuvwxyz").cps.toList = List.range' 97 26 := by decide +kernel
  rw [e, List.mem_range'_1]
  omega
theorem filt_all {l : List Nat} {p : Nat → Bool} : (l.filterMap fun c => if p c then none else some (V.str ⟨#[c]⟩)).isEmpty = l.all p := by
  induction l with
  | nil => rfl
  | cons a r ih =>
    cases h : p a with
    | true => simp [h, ih]
    | false => simp [h]
section
variable {P : Program} {w : World} {K : PySem.W.Frag} {mg : Str → Option Value} {base : Heap}
theorem ok_l_whole (c : Hd fa fn ex K mg) : FnOk P w K mg base CX0 1 (a_l_whole K) (fdOf K (a_l_whole K)) P_l_whole sp_l_whole := by
  refine (fd_l_whole c).ok sc_l_whole (fun vs H Q E h => ?_) (fun cdv A outer s H vs Q E hr h => ?_)
  · obtain ⟨v, T, rfl, _⟩ := h
    rfl
  · obtain ⟨v, T, rfl, kd, k⟩ := h
    refine ⟨_, PSs.nox (pss_one (ps_ret (pe_and (pe_callB call_isi rfl (fr_isinstance c) (by decide +kernel) (pa_cons (pv 0) (pa_cons (pe_ty (T := "int") (fr_int c) (by decide +kernel)) pa_nil))) (pe_one (pe_not (pe_callB call_isi rfl (fr_isinstance c) (by decide +kernel) (pa_cons (pv 0) (pa_cons (pe_ty (T := "bool") (fr_bool c) (by decide +kernel)) pa_nil)))))))), ?_⟩
    walk_at "S"
    cases kd with
    | int i =>
      refine i_isi (.int i) (b := true) (by decide +kernel) ?_
      walk_at "S"
      refine i_isi (.int i) (b := false) (by decide +kernel) ?_
      walk_at "S"
      exact k
    | bl b =>
      refine i_isi (.bl b) (b := true) (by decide +kernel) ?_
      walk_at "S"
      refine i_isi (.bl b) (b := true) (by decide +kernel) ?_
      walk_at "S"
      exact k
    | non => exact i_isi .non (b := false) (by decide +kernel) (by walk_at "S"; exact k)
    | str x => exact i_isi (.str x) (b := false) (by decide +kernel) (by walk_at "S"; exact k)
    | lst e => exact i_isi (.lst e) (b := false) (by decide +kernel) (by walk_at "S"; exact k)
    | tup e => exact i_isi (.tup e) (b := false) (by decide +kernel) (by walk_at "S"; exact k)
    | dct e => exact i_isi (.dct e) (b := false) (by decide +kernel) (by walk_at "S"; exact k)
theorem ok_l_is_name (c : Hd fa fn ex K mg) : FnOk P w K mg base CX0 1 (a_l_is_name K) (fdOf K (a_l_is_name K)) P_l_is_name sp_is_name := by
  refine (fd_l_is_name c).ok sc_l_is_name (fun vs H Q E h => ?_) (fun cdv A outer s H vs Q E hr h => ?_)
  · obtain ⟨v, T, rfl, _⟩ := h
    rfl
  · obtain ⟨v, T, rfl, kd, hz, k⟩ := h
    refine ⟨_, PSs.nox (pss_cons (ps_if (PW.pt (pw_or (pt_not (pt_val (pe_callB call_isi rfl (fr_isinstance c) (by decide +kernel) (pa_cons (pv 0) (pa_cons (pe_ty (T := "str") (fr_str c) (by decide +kernel)) pa_nil))))) (pw_or1 (pt_not (pt_chain op_lt op_lt pe_int (pe_callB call_len rfl (fr_len c) (by decide +kernel) (pa_cons (pv 0) pa_nil)) pe_int))))) (pss_one (ps_ret pe_bl)) pss_nil)
      (pss_one (ps_ret (pe_cmpR (op_eqNil hr.units) (pe_lc (own := [("_law_sign", 1)]) rfl sc_l_is_name.nd (pi_str (pv 0)) (blkOk_by (own := [("_law_sign", 1)]) (N := N_l_is_name) (sc := defScope s_l_is_name) (by decide +kernel)) (fun _ _ _ _ _ => (pg_name (i := 1) sc_l_is_name.nd rfl (Or.inl rfl))) (fun _ _ _ _ _ => (pts_one (pt_cmpR op_notIn_sign (pv 1) pe_str rfl))) (fun _ _ _ _ _ => (pv 1))) (pe_lst pa_nil) (nomark _))))), ?_⟩
    walk_at "S"
    cases kd with
    | str z =>
      have no : ¬ (0 < z.length ∧ z.length ≤ 6) → Q (.bl false) H := fun h => by
        have e : isName (.str z) = false := nameS_len h
        rw [← e]
        exact k H (Same.refl H)
      refine i_isi (.str z) (b := true) (by decide +kernel) ?_
      walk_at "S"
      refine ⟨_, _, rfl, ⟨hz, rfl⟩, ?_⟩
      walk_at "S"
      refine i_dec (fun h1 => ?_) (fun h1 => ?_)
      · walk_at "S"
        refine i_ite (fun h2 => ?_) (fun h2 => ?_)
        · walk_at "S"
          exact no (by simp at h2; omega)
        · walk_at "S"
          intro D hD
          refine lc_flt walk_strI (fun c => if nameC c then none else some (.str ⟨#[c]⟩)) (fun _ => trivial) hz (fun c F Ny Nn hc hy hn => ?_) ?_
          · walk_at "S"
            refine ⟨rfl, ?_⟩
            walk_at "S"
            refine ⟨_, _, rfl, rfl, ?_⟩
            walk_at "S"
            refine i_ite (fun h3 => ?_) (fun h3 => ?_)
            · walk_at "S"
              have q : nameC c = false := by
                have h4 : ¬ c ∈ (Str.ofString "abcdefghijklmnopqrstuvwxyz").cps.toList := by simpa using h3
                rw [letters_mem] at h4
                unfold nameC
                by_cases y : 97 ≤ c
                · rw [decide_eq_false (show ¬ c ≤ 122 by omega), Bool.and_false]
                · rw [decide_eq_false y, Bool.false_and]
              exact hy _ (by rw [q]; rfl)
            · have q : nameC c = true := by
                have h4 : c ∈ (Str.ofString "abcdefghijklmnopqrstuvwxyz").cps.toList := by simpa using h3
                rw [letters_mem] at h4
                unfold nameC
                rw [decide_eq_true h4.1, decide_eq_true h4.2]
                rfl
              exact hn (by rw [q]; rfl)
          · walk_at "S"
            refine ⟨few, fun p hp => ?_⟩
            refine i_eqNil (SqL.of (by walk_at "hp")) (SqL.of upd_same) ?_
            show Q (.bl _) _
            rw [filt_all]
            have e : isName (.str z) = z.cps.toList.all nameC := by
              simp at h2
              show (decide (0 < z.length) && decide (z.length ≤ 6) && z.cps.toList.all nameC) = _
              rw [decide_eq_true (by omega), decide_eq_true (by omega), Bool.true_and, Bool.true_and]
            rw [← e]
            exact k _ (G.Same.new (same_new hD) hp)
      · walk_at "S"
        exact no (by omega)
    | non => exact i_isi .non (b := false) (by decide +kernel) (by walk_at "S"; exact k H (Same.refl H))
    | bl x => exact i_isi (.bl x) (b := false) (by decide +kernel) (by walk_at "S"; exact k H (Same.refl H))
    | int x => exact i_isi (.int x) (b := false) (by decide +kernel) (by walk_at "S"; exact k H (Same.refl H))
    | lst e => exact i_isi (.lst e) (b := false) (by decide +kernel) (by walk_at "S"; exact k H (Same.refl H))
    | tup e => exact i_isi (.tup e) (b := false) (by decide +kernel) (by walk_at "S"; exact k H (Same.refl H))
    | dct e => exact i_isi (.dct e) (b := false) (by decide +kernel) (by walk_at "S"; exact k H (Same.refl H))
theorem ok_l_is_payload (c : Hd fa fn ex K mg) : FnOk P w K mg base CX0 1 (a_l_is_payload K) (fdOf K (a_l_is_payload K)) P_l_is_payload sp_l_is_payload := by
  refine (fd_l_is_payload c).ok sc_l_is_payload (fun vs H Q E h => ?_) (fun cdv A outer s H vs Q E hr h => ?_)
  · obtain ⟨v, T, rfl, _⟩ := h
    rfl
  · obtain ⟨v, T, rfl, kd, hz, k⟩ := h
    refine ⟨_, PSs.nox (pss_cons (ps_if (PW.pt (pw_or (pt_not (pt_val (pe_callB call_isi rfl (fr_isinstance c) (by decide +kernel) (pa_cons (pv 0) (pa_cons (pe_ty (T := "str") (fr_str c) (by decide +kernel)) pa_nil))))) (pw_or1 (pt_cmpR op_gt (pe_callB call_len rfl (fr_len c) (by decide +kernel) (pa_cons (pv 0) pa_nil)) pe_int (nomark _))))) (pss_one (ps_ret pe_bl)) pss_nil)
      (pss_one (ps_ret (pe_cmpR (op_eqNil hr.units) (pe_lc (own := [("_law_sign", 1)]) rfl sc_l_is_payload.nd (pi_str (pv 0)) (blkOk_by (own := [("_law_sign", 1)]) (N := N_l_is_payload) (sc := defScope s_l_is_payload) (by decide +kernel)) (fun _ _ _ _ _ => (pg_name (i := 1) sc_l_is_payload.nd rfl (Or.inl rfl))) (fun _ _ _ _ _ => (pts_one (pt_not (pt_chain op_le_str op_le_str pe_str (pv 1) pe_str)))) (fun _ _ _ _ _ => (pv 1))) (pe_lst pa_nil) (nomark _))))), ?_⟩
    walk_at "S"
    cases kd with
    | str z =>
      refine i_isi (.str z) (b := true) (by decide +kernel) ?_
      walk_at "S"
      refine ⟨_, _, rfl, ⟨hz, rfl⟩, ?_⟩
      walk_at "S"
      refine i_dec (fun h1 => ?_) (fun h1 => ?_)
      · walk_at "S"
        have e : isPayL (.str z) = false := by
          show (decide (z.length ≤ 32) && _) = false
          rw [decide_eq_false (by omega), Bool.false_and]
        rw [← e]
        exact k H (Same.refl H)
      · walk_at "S"
        intro D hD
        refine lc_flt walk_strI (fun c => if decide (32 ≤ c) && decide (c ≤ 126) then none else some (.str ⟨#[c]⟩)) (fun _ => trivial) hz (fun c F Ny Nn hc hy hn => ?_) ?_
        · walk_at "S"
          refine ⟨rfl, ?_⟩
          walk_at "S"
          refine i_ite (fun h3 => ?_) (fun h3 => ?_)
          · walk_at "S"
            have h4 : ¬ c < 32 := by
              have h3' : (!decide (([c] : List Nat) < [32])) = true := h3
              rw [sing_lt] at h3'
              simpa using h3'
            refine i_ite (fun h5 => ?_) (fun h5 => ?_)
            · walk_at "S"
              have h6 : ¬ c ≤ 126 := by
                have h5' : (!(!decide (([126] : List Nat) < [c]))) = true := h5
                rw [sing_lt] at h5'
                simp at h5'
                omega
              exact hy _ (by rw [decide_eq_false h6, Bool.and_false]; rfl)
            · have h6 : c ≤ 126 := by
                have h5' : (!(!decide (([126] : List Nat) < [c]))) = false := h5
                rw [sing_lt] at h5'
                simp at h5'
                omega
              exact hn (by rw [decide_eq_true h6, decide_eq_true (show 32 ≤ c by omega)]; rfl)
          · walk_at "S"
            have h4 : c < 32 := by
              have h3' : (!decide (([c] : List Nat) < [32])) = false := h3
              rw [sing_lt] at h3'
              simpa using h3'
            exact hy _ (by rw [decide_eq_false (show ¬ 32 ≤ c by omega), Bool.false_and]; rfl)
        · walk_at "S"
          refine ⟨few, fun p hp => ?_⟩
          refine i_eqNil (SqL.of (by walk_at "hp")) (SqL.of upd_same) ?_
          show Q (.bl _) _
          rw [filt_all (p := fun c => decide (32 ≤ c) && decide (c ≤ 126))]
          have e : isPayL (.str z) = z.cps.toList.all fun c => decide (32 ≤ c) && decide (c ≤ 126) := by
            show (decide (z.length ≤ 32) && _) = _
            rw [decide_eq_true (by omega), Bool.true_and]
          rw [← e]
          exact k _ (G.Same.new (same_new hD) hp)
    | non => exact i_isi .non (b := false) (by decide +kernel) (by walk_at "S"; exact k H (Same.refl H))
    | bl x => exact i_isi (.bl x) (b := false) (by decide +kernel) (by walk_at "S"; exact k H (Same.refl H))
    | int x => exact i_isi (.int x) (b := false) (by decide +kernel) (by walk_at "S"; exact k H (Same.refl H))
    | lst e => exact i_isi (.lst e) (b := false) (by decide +kernel) (by walk_at "S"; exact k H (Same.refl H))
    | tup e => exact i_isi (.tup e) (b := false) (by decide +kernel) (by walk_at "S"; exact k H (Same.refl H))
    | dct e => exact i_isi (.dct e) (b := false) (by decide +kernel) (by walk_at "S"; exact k H (Same.refl H))
end

end K01
namespace K01
open PySem PySem.Spec PyProof.Rows L2 G
/-- _law_odd(box): some value of any kind -/
def sp_l_odd : Sp := fun vs H Q _ => ∃ (a : Addr) (n : Nat), vs = [.ref a] ∧ BoxAt n H a ∧ n ≤ 900000 ∧ ∀ (v : V) (T : String) (H' : Hp), BoxAt (n + 1) H' a → Kp a H H' → Kd H' v T → v ≠ .ref a → okV v → Q v H'
theorem okS {z : Str} (h : Nat.ble z.length 100 = true := by decide +kernel) (h2 : (z.cps.toList.all fun c => !decide (c = 37)) = true := by decide +kernel) : okV (.str z) :=
  ⟨Nat.le_of_ble_eq_true h, fun c hc => by simpa using List.all_eq_true.mp h2 c hc⟩
section
variable {P : Program} {w : World} {K : PySem.W.Frag} {mg : Str → Option Value} {base : Heap}
theorem ok_l_odd (c : Hd fa fn ex K mg) : FnOk P w K mg base CX0 2 (a_l_odd K) (fdOf K (a_l_odd K)) P_l_odd sp_l_odd := by
  refine (fd_l_odd c).ok sc_l_odd (fun vs H Q E h => ?_) (fun cdv A outer s H vs Q E hr h => ?_)
  · obtain ⟨a, n, rfl, _⟩ := h
    rfl
  · obtain ⟨a, n, rfl, hb, hn, k⟩ := h
    refine ⟨_, PSs.nox (pss_cons (ps_set (i := 1) sc_l_odd.nd rfl (Or.inl rfl) (pe_lst (pa_cons pe_non (pa_cons pe_bl (pa_cons pe_bl (pa_cons pe_int (pa_cons pe_int (pa_cons (pe_un un_neg pe_int) (pa_cons pe_int (pa_cons (pe_op op_pow pe_int pe_int) (pa_cons pe_str (pa_cons pe_str (pa_cons pe_str (pa_cons (pe_tup pa_nil) (pa_cons (pe_lst pa_nil) (pa_cons pe_dnewK (pa_cons (pe_lst (pa_cons pe_str pa_nil)) (pa_cons (pe_tup (pa_cons pe_str pa_nil)) (pa_cons (pe_disp (pps_cons pe_str pe_int pps_nil) (by rfl) (by rfl) (fun z => by cases z) (by decide)) (pa_cons (pe_lst (pa_cons pe_int pa_nil)) (pa_cons pe_str pa_nil)))))))))))))))))))))
      (pss_one (ps_ret (pe_ix ix_list (pv 1) (pe_call (ok_l_take c) (hr.mono (by decide)) rfl (mg_l_take c) (fd_l_take c).kp (bd_l_take c) .nil pass0 (pa_cons (pv 0) (pa_cons pe_int pa_nil))) (fun _ _ => rfl))))), ?_⟩
    walk_at "S"
    refine i_I ⟨by decide, by decide, by decide⟩ ?_
    walk_at "S"
    refine ⟨few, fun p1 h1 => ?_⟩
    walk_at "S"
    refine ⟨few, fun p2 h2 => ?_⟩
    walk_at "S"
    refine i_dnew fun p3 h3 => ?_
    walk_at "S"
    refine ⟨few, fun p4 h4 => ?_⟩
    walk_at "S"
    refine ⟨few, fun p5 h5 => ?_⟩
    walk_at "S"
    refine i_disp1 (k := Sum.inr "a") rfl fun p6 h6 => ?_
    walk_at "S"
    refine ⟨few, fun p7 h7 => ?_⟩
    walk_at "S"
    refine ⟨few, fun p8 h8 => ?_⟩
    walk_at "S"
    have b8 := (((((((hb.new (o := .tup []) h1).new (o := .lst []) h2).new (o := .dK []) h3).new (o := .lst [.str "a"]) h4).new (o := .tup [.str "a"]) h5).new (o := .dK [(Sum.inr "a", .int 1)]) h6).new (o := .lst [.int 1]) h7)
    have n1 := hb.ne h1
    have n2 := hb.ne (none_of h2)
    have n3 := hb.ne (none_of (none_of h3))
    have n4 := hb.ne (none_of (none_of (none_of h4)))
    have n5 := hb.ne (none_of (none_of (none_of (none_of h5))))
    have n6 := hb.ne (none_of (none_of (none_of (none_of (none_of h6)))))
    have n7 := hb.ne (none_of (none_of (none_of (none_of (none_of (none_of h7))))))
    have n8 := b8.ne h8
    refine ⟨a, 19, n, rfl, b8.new h8, by omega, by decide, by decide, fun r o h0 hr1 ho => ?_⟩
    refine i_menuL (SqL.of (by walk_at "hp")) h0 (by exact hr1) fun v hv => ?_
    simp only [List.mem_cons, List.not_mem_nil, or_false] at hv
    rcases hv with rfl | rfl | rfl | rfl | rfl | rfl | rfl | rfl | rfl | rfl | rfl | rfl | rfl | rfl | rfl | rfl | rfl | rfl | rfl
    all_goals first
      | exact k _ _ _ (.of ho) (by walk_at "kp") .non (fun z => nomatch z) trivial
      | exact k _ _ _ (.of ho) (by walk_at "kp") (.bl _) (fun z => nomatch z) trivial
      | exact k _ _ _ (.of ho) (by walk_at "kp") (.int _) (fun z => nomatch z) trivial
      | exact k _ _ _ (.of ho) (by walk_at "kp") (.str _) (fun z => nomatch z) okS
      | exact k _ _ _ (.of ho) (by walk_at "kp") (.tup (by walk_at "hp")) (fun z => absurd (V.ref.inj z) (by assumption)) trivial
      | exact k _ _ _ (.of ho) (by walk_at "kp") (.lst (by walk_at "hp")) (fun z => absurd (V.ref.inj z) (by assumption)) trivial
      | exact k _ _ _ (.of ho) (by walk_at "kp") (.dct (by walk_at "hp")) (fun z => absurd (V.ref.inj z) (by assumption)) trivial
end

end K01
namespace K01
open PySem PySem.Spec PyProof.Rows L2 G
/-- _law_text(box): a text without a percent sign -/
def sp_l_text : Sp := fun vs H Q _ => ∃ (a : Addr) (n : Nat), vs = [.ref a] ∧ BoxAt n H a ∧ n ≤ 900000 ∧ ∀ (z : Str) (H' : Hp), BoxAt (n + 40) H' a → Kp a H H' → okV (.str z) → Q (.str z) H'
theorem join_ok {ss : List Str} (h : ∀ y ∈ ss, y.length = 1 ∧ NoPct y) : (Txt.join Str.empty ss).length = ss.length ∧ NoPct (Txt.join Str.empty ss) := by
  constructor
  · rw [str_len, join_tl, flat_len (m := 1), List.length_map, Nat.mul_one]
    intro p hp
    obtain ⟨y, hy, rfl⟩ := List.mem_map.mp hp
    exact (h y hy).1
  · intro c hc
    rw [join_tl] at hc
    obtain ⟨p, hp, hc⟩ := List.mem_flatten.mp hc
    obtain ⟨y, hy, rfl⟩ := List.mem_map.mp hp
    exact (h y hy).2 c hc
theorem sum_one {ss : List Str} (h : ∀ y ∈ ss, y.length = 1 ∧ NoPct y) : (ss.map (·.length)).sum = ss.length := by
  induction ss with
  | nil => rfl
  | cons a r ih =>
    rw [List.map_cons, List.sum_cons, (h a List.mem_cons_self).1, ih fun y hy => h y (List.mem_cons_of_mem _ hy), List.length_cons, Nat.add_comm]
abbrev signsZ : Str := Str.ofString " !\"#$&'()*+,-./0123456789:;<=>?@ABCDEFGHIJKLMNOPQRSTUVWXYZ[\\]^_`abcdefghijklmnopqrstuvwxyz{|}~" ++ Str.ofString "\n"
theorem signs_len : signsZ.length = 95 := by decide +kernel
theorem signs_no : ∀ c ∈ signsZ.cps.toList, c ≠ 37 := by decide +kernel
section
variable {P : Program} {w : World} {K : PySem.W.Frag} {mg : Str → Option Value} {base : Heap}
theorem ok_l_text (c : Hd fa fn ex K mg) : FnOk P w K mg base CX0 2 (a_l_text K) (fdOf K (a_l_text K)) P_l_text sp_l_text := by
  refine (fd_l_text c).ok sc_l_text (fun vs H Q E h => ?_) (fun cdv A outer s H vs Q E hr h => ?_)
  · obtain ⟨a, n, rfl, _⟩ := h
    rfl
  · obtain ⟨a, n, rfl, hb, hn, k⟩ := h
    refine ⟨_, PSs.nox (pss_cons (ps_set (i := 1) sc_l_text.nd rfl (Or.inl rfl) pe_str)
      (pss_cons (ps_set (i := 1) sc_l_text.nd rfl (Or.inl rfl) (pe_op op_add_str (pv 1) pe_str))
      (pss_cons (ps_set (i := 2) sc_l_text.nd rfl (Or.inr rfl) pe_str)
      (pss_cons (ps_set (i := 3) sc_l_text.nd rfl (Or.inl rfl) (pe_ix ix_list (pe_lst (pa_cons pe_int (pa_cons pe_int (pa_cons pe_int (pa_cons pe_int (pa_cons pe_int (pa_cons pe_int (pa_cons pe_int (pa_cons pe_int (pa_cons pe_int (pa_cons pe_int (pa_cons pe_int pa_nil)))))))))))) (pe_call (ok_l_take c) (hr.mono (by decide)) rfl (mg_l_take c) (fd_l_take c).kp (bd_l_take c) .nil pass0 (pa_cons (pv 0) (pa_cons pe_int pa_nil))) (fun _ _ => rfl)))
      (pss_cons (ps_set (i := 4) sc_l_text.nd rfl (Or.inl rfl) (pe_join pe_str (pe_lc (own := [("_law_place", 6)]) rfl sc_l_text.nd (pi_range1 rfl (fr_range c) (pa_cons (pv 3) pa_nil)) (blkOk_by (own := [("_law_place", 6)]) (N := N_l_text) (sc := defScope s_l_text) (by decide +kernel)) (fun _ _ _ _ _ => (pg_name (i := 6) sc_l_text.nd rfl (Or.inl rfl))) (fun _ _ _ _ _ => pts_nil) (fun _ _ _ _ _ => (pe_ix ix_str (pv 2) (pe_call (ok_l_take c) (hr.mono (by decide)) rfl (mg_l_take c) (fd_l_take c).kp (bd_l_take c) .nil pass0 (pa_cons (pv 0) (pa_cons pe_int pa_nil))) (fun _ _ => rfl))))))
      (pss_cons (ps_set (i := 5) sc_l_text.nd rfl (Or.inl rfl) (pe_call (ok_l_take c) (hr.mono (by decide)) rfl (mg_l_take c) (fd_l_take c).kp (bd_l_take c) .nil pass0 (pa_cons (pv 0) (pa_cons (pe_op op_add (pv 3) pe_int) pa_nil))))
      (pss_one (ps_ret (pe_ifExp (pt_cmpR op_eq (pe_call (ok_l_take c) (hr.mono (by decide)) rfl (mg_l_take c) (fd_l_take c).kp (bd_l_take c) .nil pass0 (pa_cons (pv 0) (pa_cons pe_int pa_nil))) pe_int (nomark _)) (pe_op op_add_str (pe_op op_add_str (pe_slice sl_str (pv 4) po_none (po_some (pv 5))) (pe_ix ix_str (pv 1) (pe_call (ok_l_take c) (hr.mono (by decide)) rfl (mg_l_take c) (fd_l_take c).kp (bd_l_take c) .nil pass0 (pa_cons (pv 0) (pa_cons (pe_callB call_len rfl (fr_len c) (by decide +kernel) (pa_cons (pv 1) pa_nil)) pa_nil))) (fun _ _ => rfl))) (pe_slice sl_str (pv 4) (po_some (pe_op op_add (pv 5) pe_int)) po_none)) (pv 4)))))))))), ?_⟩
    walk_at "S"
    refine ⟨by decide +kernel, ?_⟩
    walk_at "S"
    refine ⟨few, fun p1 h1 => ?_⟩
    walk_at "S"
    have n1 := hb.ne h1
    refine ⟨a, 11, n, rfl, hb.new h1, by omega, by decide, by decide, fun r o h0 hr1 ho => ?_⟩
    refine i_menuL (SqL.of (by walk_at "hp")) h0 (by exact hr1) fun v hv => ?_
    obtain ⟨sz, rfl, hs0, hs1⟩ : ∃ s : Int, v = .int s ∧ 0 ≤ s ∧ s ≤ 33 := by
      simp only [List.mem_cons, List.not_mem_nil, or_false] at hv
      rcases hv with rfl | rfl | rfl | rfl | rfl | rfl | rfl | rfl | rfl | rfl | rfl <;> exact ⟨_, rfl, by decide, by decide⟩
    walk_at "S"
    refine ⟨⟨_, rfl⟩, ?_⟩
    walk_at "S"
    refine ⟨sz, rfl, by omega, by omega, ?_⟩
    intro D hD
    have b1 : BoxAt (n + 1) (upd (upd H p1 (.lst [.int 0, .int 1, .int 2, .int 3, .int 4, .int 5, .int 6, .int 7, .int 31, .int 32, .int 33])) a o) a := .of ho
    have nD := b1.ne hD
    have kD : Kp a H (upd (upd H p1 (.lst [.int 0, .int 1, .int 2, .int 3, .int 4, .int 5, .int 6, .int 7, .int 31, .int 32, .int 33])) a o) := by walk_at "kp"
    have hD0 : H D = none := none_of (none_of hD)
    refine lc_it walk_range (fun i H' => ∃ ss : List Str, H' D = some (.lst (ss.map V.str)) ∧ ss.length = i ∧ (∀ y ∈ ss, y.length = 1 ∧ NoPct y) ∧ BoxAt (n + 1 + i) H' a ∧ Kp a H H') ?_ (fun _ _ _ _ => trivial) ?_ ?_
    · exact ⟨[], upd_same, rfl, fun y hy => absurd hy (List.not_mem_nil), b1.new hD, kD.new hD⟩
    · rintro i x H' _ hi ⟨ss, g1, g2, g3, g4, g5⟩ ⟨rfl, rfl⟩
      walk_at "S"
      refine ⟨rfl, ?_⟩
      walk_at "S"
      refine ⟨a, 26, n + 1 + i, rfl, g4, by omega, by decide, by decide, fun r2 o2 h02 hr2 ho2 => ?_⟩
      refine i_menuS (by decide +kernel) h02 (by exact hr2) fun c hc => ?_
      refine ⟨ss.map V.str, oldw nD g1, ?_, ss ++ [⟨#[c]⟩], ?_, ?_, ?_, ?_, ?_⟩
      · rw [List.length_map]
        exact Nat.lt_of_lt_of_le (show ss.length < 1000 by omega) (by decide)
      · rw [upd_same, List.map_append]
        rfl
      · rw [List.length_append, g2]
        rfl
      · intro y hy
        rcases List.mem_append.mp hy with hy | hy
        · exact g3 y hy
        · have e := List.mem_singleton.mp hy
          subst e
          refine ⟨rfl, fun d hd => ?_⟩
          have e : d = c := List.mem_singleton.mp hd
          have q := (letters_mem c).mp hc
          omega
      · exact (BoxAt.of ho2).wr nD.symm
      · exact g5.bx.wr hD0 (oldw nD g1)
    · rintro H' ⟨ss, g1, g2, g3, g4, g5⟩
      refine ⟨_, D, ss, rfl, rfl, .inl (SqL.of g1), ?_, ?_⟩
      · rw [sum_one g3]
        show ss.length + ss.length * 0 ≤ _
        omega
      · obtain ⟨e1, e2⟩ := join_ok g3
        rw [← show Str.ofString "" = Str.empty from by decide +kernel] at e1 e2
        walk_at "S"
        generalize Txt.join (Str.ofString "") ss = z at e1 e2 ⊢
        have hz : z.length ≤ 33 := by omega
        have hzl : z.length ≤ sizeLine := Nat.le_trans hz (by decide)
        have g4' : BoxAt (n + 34) H' a := g4.mono (by omega)
        refine ⟨a, sz + 1, n + 34, rfl, g4', by omega, by omega, by omega, fun r3 o3 h03 hr3 ho3 => ?_⟩
        walk_at "S"
        refine ⟨a, 2, n + 35, rfl, .of ho3, by omega, by decide, by decide, fun r4 o4 h04 hr4 ho4 => ?_⟩
        walk_at "S"
        refine i_dec (fun h5 => ?_) (fun h5 => ?_)
        · walk_at "S"
          refine i_slS hzl ?_
          walk_at "S"
          refine ⟨_, _, rfl, ⟨by rw [signs_len]; decide, rfl⟩, ?_⟩
          walk_at "S"
          rw [signs_len]
          refine ⟨a, 95, n + 36, rfl, .of ho4, by omega, by decide, by decide, fun r6 o6 h06 hr6 ho6 => ?_⟩
          refine i_menuS (by rw [signs_len]; decide) h06 (by rw [signs_len]; exact hr6) fun d hd => ?_
          walk_at "S"
          have l1 := cut_len z none (some r3)
          have l2 := cut_len z (some (r3 + 1)) none
          have l3 : (⟨#[d]⟩ : Str).length = 1 := rfl
          have sl : sizeLine = 16777216 := sizeLine_eq
          refine ⟨by omega, ?_⟩
          walk_at "S"
          refine i_slS hzl ?_
          walk_at "S"
          have l4 := strLen_append (cutS z none (some r3)) ⟨#[d]⟩
          have l5 := strLen_append (cutS z none (some r3) ++ ⟨#[d]⟩) (cutS z (some (r3 + 1)) none)
          refine ⟨by omega, ?_⟩
          refine k _ _ ((BoxAt.of ho6).mono (by omega)) (by walk_at "kp") ⟨by omega, fun q hq => ?_⟩
          rw [app_tl, app_tl] at hq
          rcases List.mem_append.mp hq with hq | hq
          · rcases List.mem_append.mp hq with hq | hq
            · exact e2 q (cut_mem hq)
            · have e : q = d := List.mem_singleton.mp hq
              rw [e]
              exact signs_no d hd
          · exact e2 q (cut_mem hq)
        · walk_at "S"
          exact k _ _ ((BoxAt.of ho4).mono (by omega)) (by walk_at "kp") ⟨by omega, e2⟩
end

end K01
namespace K01
open PySem PySem.Spec PyProof.Rows L2 G
def sp_l_right : Sp := fun vs H Q _ => ∃ (v : V) (T : String), vs = [v] ∧ Kd H v T ∧ okV v ∧ ∀ H', Same H H' → Q (.bl true) H'
def sp_law (K : PySem.W.Frag) : Sp := fun vs H Q _ => ∃ (a : Addr) (ns : List Int), vs = [.ref a] ∧ SqL K H a (ns.map V.int) ∧ ns.length ≤ 63 ∧ ∀ H', Q (.bl true) H'
theorem ok2 (a b : Bool) : Okd 16000000 60 (.list [.bool a, .bool b]) := (Okd.list (n := 5) (k := 0) fun d hd => by
  simp only [List.mem_cons, List.not_mem_nil, or_false] at hd
  rcases hd with rfl | rfl <;> exact Okd.bool _).sm
section
variable {P : Program} {w : World} {K : PySem.W.Frag} {mg : Str → Option Value} {base : Heap}
theorem ok_l_right (c : Hd fa fn ex K mg) : FnG P w K mg base CX0 3 (a_l_right K) (fdOf K (a_l_right K)) P_l_right sp_l_right := by
  refine fnG (fd_l_right c) sc_l_right (fun vs H Q E h => ?_) (fun cdv A outer s H vs Q E cl hr h => ?_)
  · obtain ⟨v, T, rfl, _⟩ := h
    rfl
  · obtain ⟨v, T, rfl, kd, ok, k⟩ := h
    refine ⟨_, PSs.nox (pss_cons (ps_set (i := 1) sc_l_right.nd rfl (Or.inl rfl) (pe_lst (pa_cons (pe_call (ok_is_name c) (hr.mono (by decide)) rfl (mg_is_name c) (fd_is_name c).kp (bd_is_name c) .nil pass0 (pa_cons (pv 0) pa_nil)) (pa_cons (pe_call (ok_is_payload c) (hr.mono (by decide)) rfl (mg_is_payload c) (fd_is_payload c).kp (bd_is_payload c) .nil pass0 (pa_cons (pv 0) pa_nil)) pa_nil))))
      (pss_one (ps_ret (pe_cmpR op_eq (pe_callB (call_reprD cl hr c.sys) rfl (fr_repr c) (by decide +kernel) (pa_cons (pv 1) pa_nil)) (pe_callB (call_reprD cl hr c.sys) rfl (fr_repr c) (by decide +kernel) (pa_cons (pe_lst (pa_cons (pe_call (ok_l_is_name c) (hr.mono (by decide)) rfl (mg_l_is_name c) (fd_l_is_name c).kp (bd_l_is_name c) .nil pass0 (pa_cons (pv 0) pa_nil)) (pa_cons (pe_call (ok_l_is_payload c) (hr.mono (by decide)) rfl (mg_l_is_payload c) (fd_l_is_payload c).kp (bd_l_is_payload c) .nil pass0 (pa_cons (pv 0) pa_nil)) pa_nil))) pa_nil)) (nomark _))))), ?_⟩
    walk_at "S"
    refine ⟨v, T, rfl, kd, ok.fit, fun H1 s1 => ?_⟩
    walk_at "S"
    refine ⟨v, T, rfl, kd.same s1, ok.fit, fun H2 s2 => ?_⟩
    walk_at "S"
    refine ⟨few, fun p hp => ?_⟩
    walk_at "S"
    refine i_repr (.lstH upd_same (.cons (.bl _) (.cons (.bl _) .nil))) (ok2 _ _) ?_
    walk_at "S"
    have s3 : Same H (upd H2 p (.lst [.bl (isName v), .bl (isPay v)])) := G.Same.new (s1.trans s2) hp
    refine ⟨v, T, rfl, kd.same s3, ok.fit, fun H4 s4 => ?_⟩
    walk_at "S"
    refine ⟨v, T, rfl, kd.same (s3.trans s4), ok.fit, fun H5 s5 => ?_⟩
    walk_at "S"
    refine ⟨few, fun q hq => ?_⟩
    walk_at "S"
    refine i_repr (.lstH upd_same (.cons (.bl _) (.cons (.bl _) .nil))) (ok2 _ _) ?_
    walk_at "S"
    rw [pay_eq ok, decide_eq_true rfl]
    exact k _ (G.Same.new ((s3.trans s4).trans s5) hq)
theorem ok_law (c : Hd fa fn ex K mg) : FnG P w K mg base CX0 5 (a_law K) (fdOf K (a_law K)) P_law (sp_law K) := by
  refine fnG (fd_law c) sc_law (fun vs H Q E h => ?_) (fun cdv A outer s H vs Q E cl hr h => ?_)
  · obtain ⟨a, ns, rfl, _⟩ := h
    rfl
  · obtain ⟨a, ns, rfl, hS, hlen, k⟩ := h
    refine ⟨_, PSs.nox (pss_cons (ps_for PassesOwn.never rfl (pi_range1 rfl (fr_range c) (pa_cons (pe_callB (call_max2 rfl) rfl (fr_max c) (by decide +kernel) (pa_cons pe_int (pa_cons (pe_callB (call_min2 rfl) rfl (fr_min c) (by decide +kernel) (pa_cons pe_int (pa_cons (pe_callB call_len rfl (fr_len c) (by decide +kernel) (pa_cons (pv 0) pa_nil)) pa_nil))) pa_nil))) pa_nil)) (pg_name (i := 1) sc_law.nd rfl (Or.inl rfl)) (pss_cons (ps_set (i := 2) sc_law.nd rfl (Or.inl rfl) (pe_call (ok_l_box c) (hr.mono (by decide)) rfl (mg_l_box c) (fd_l_box c).kp (bd_l_box c) .nil pass0 (pa_cons (pe_call (ok_l_cell c) (hr.mono (by decide)) rfl (mg_l_cell c) (fd_l_cell c).kp (bd_l_cell c) .nil pass0 (pa_cons (pv 0) (pa_cons (pv 1) pa_nil))) pa_nil)))
      (pss_cons (ps_for PassesOwn.never rfl (pi_range1 rfl (fr_range c) (pa_cons pe_int pa_nil)) (pg_name (i := 3) sc_law.nd rfl (Or.inl rfl)) (pss_cons (ps_par (i := 4) (j := 5) rfl sc_law.nd rfl rfl (by decide) rfl rfl (pa_cons (pe_call (ok_l_odd c) (hr.mono (by decide)) rfl (mg_l_odd c) (fd_l_odd c).kp (bd_l_odd c) .nil pass0 (pa_cons (pv 2) pa_nil)) (pa_cons (pe_call (ok_l_text c) (hr.mono (by decide)) rfl (mg_l_text c) (fd_l_text c).kp (bd_l_text c) .nil pass0 (pa_cons (pv 2) pa_nil)) pa_nil)) rfl)
      (pss_cons (ps_if (PW.pt (pw_or (pt_not (pt_val (pe_callG (ok_l_right c) cl (hr.mono (by decide)) rfl (mg_l_right c) (fd_l_right c).kp (bd_l_right c) .nil pass0 (pa_cons (pv 4) pa_nil)))) (pw_or (pt_not (pt_val (pe_callG (ok_l_right c) cl (hr.mono (by decide)) rfl (mg_l_right c) (fd_l_right c).kp (bd_l_right c) .nil pass0 (pa_cons (pv 5) pa_nil)))) (pw_or1 (pt_not (pt_val (pe_callG (ok_l_right c) cl (hr.mono (by decide)) rfl (mg_l_right c) (fd_l_right c).kp (bd_l_right c) .nil pass0 (pa_cons (pe_slice sl_str (pv 5) po_none (po_some pe_int)) pa_nil)))))))) (pss_one (ps_ret pe_bl)) pss_nil)
      (pss_cons (ps_set (i := 6) sc_law.nd rfl (Or.inl rfl) (pe_ix ix_list (pe_lst (pa_cons pe_int (pa_cons pe_int (pa_cons (pe_un un_neg pe_int) (pa_cons (pe_op op_sub pe_int (pe_op op_pow pe_int pe_int)) pa_nil))))) (pe_call (ok_l_take c) (hr.mono (by decide)) rfl (mg_l_take c) (fd_l_take c).kp (bd_l_take c) .nil pass0 (pa_cons (pv 2) (pa_cons pe_int pa_nil))) (fun _ _ => rfl)))
      (pss_cons (ps_set (i := 7) sc_law.nd rfl (Or.inl rfl) (pe_op op_add (pv 6) (pe_ix ix_list (pe_lst (pa_cons pe_int (pa_cons pe_int (pa_cons pe_int (pa_cons (pe_op op_pow pe_int pe_int) (pa_cons (pe_un un_neg pe_int) (pa_cons (pe_un un_neg pe_int) pa_nil))))))) (pe_call (ok_l_take c) (hr.mono (by decide)) rfl (mg_l_take c) (fd_l_take c).kp (bd_l_take c) .nil pass0 (pa_cons (pv 2) (pa_cons pe_int pa_nil))) (fun _ _ => rfl))))
      (pss_cons (ps_set (i := 8) sc_law.nd rfl (Or.inl rfl) (pe_op op_sub (pe_op op_add (pe_ix ix_list (pe_lst (pa_cons (pv 6) (pa_cons (pv 7) pa_nil))) (pe_call (ok_l_take c) (hr.mono (by decide)) rfl (mg_l_take c) (fd_l_take c).kp (bd_l_take c) .nil pass0 (pa_cons (pv 2) (pa_cons pe_int pa_nil))) (fun _ _ => rfl)) (pe_call (ok_l_take c) (hr.mono (by decide)) rfl (mg_l_take c) (fd_l_take c).kp (bd_l_take c) .nil pass0 (pa_cons (pv 2) (pa_cons pe_int pa_nil)))) pe_int))
      (pss_cons (ps_if (pt_cmpR op_ne (pe_callB (call_reprD cl hr c.sys) rfl (fr_repr c) (by decide +kernel) (pa_cons (pe_call (ok_is_integer c) (hr.mono (by decide)) rfl (mg_is_integer c) (fd_is_integer c).kp (bd_is_integer c) .nil pass0 (pa_cons (pv 8) (pa_cons (pv 6) (pa_cons (pv 7) pa_nil)))) pa_nil)) (pe_callB (call_reprD cl hr c.sys) rfl (fr_repr c) (by decide +kernel) (pa_cons (pe_chain op_le op_le (pv 6) (pv 8) (pv 7)) pa_nil)) (nomark _)) (pss_one (ps_ret pe_bl)) pss_nil)
      (pss_cons (ps_if (pt_cmpR op_ne (pe_callB (call_reprD cl hr c.sys) rfl (fr_repr c) (by decide +kernel) (pa_cons (pe_call (ok_is_integer c) (hr.mono (by decide)) rfl (mg_is_integer c) (fd_is_integer c).kp (bd_is_integer c) .nil pass0 (pa_cons (pv 4) (pa_cons (pv 6) (pa_cons (pv 7) pa_nil)))) pa_nil)) (pe_callB (call_reprD cl hr c.sys) rfl (fr_repr c) (by decide +kernel) (pa_cons (pe_and (pe_call (ok_l_whole c) (hr.mono (by decide)) rfl (mg_l_whole c) (fd_l_whole c).kp (bd_l_whole c) .nil pass0 (pa_cons (pv 4) pa_nil)) (pe_one (pe_chain op_le op_le (pv 6) (pv 4) (pv 7)))) pa_nil)) (nomark _)) (pss_one (ps_ret pe_bl)) pss_nil)
      (pss_one (ps_if (pt_cmpR op_ne (pe_callN0 (ok_is_integer c) (hr.mono (by decide)) rfl (mg_is_integer c) (fd_is_integer c).kp (kbn_of (fd_is_integer c) 0 ["high", "low", "value"] [2, 1, 0] fun _ _ _ _ _ _ us ws h1 h2 => match us, h1, ws, h2 with | [], _, [_, _, _], _ => rfl) pass0 (pk_cons (pv 7) (pk_cons (pv 6) (pk_cons (pv 8) pk_nil)))) (pe_call (ok_is_integer c) (hr.mono (by decide)) rfl (mg_is_integer c) (fd_is_integer c).kp (bd_is_integer c) .nil pass0 (pa_cons (pv 8) (pa_cons (pv 6) (pa_cons (pv 7) pa_nil)))) (nomark _)) (pss_one (ps_ret pe_bl)) pss_nil))))))))))
      (pss_one (ps_if (PW.pt (pw_or (pt_cmpR op_notBl (pe_callN0 (ok_is_name c) (hr.mono (by decide)) rfl (mg_is_name c) (fd_is_name c).kp (kbn_of (fd_is_name c) 0 ["value"] [0] fun _ _ _ _ _ _ us ws h1 h2 => match us, h1, ws, h2 with | [], _, [_], _ => rfl) pass0 (pk_cons pe_str pk_nil)) pe_bl (nomark _)) (pw_or1 (pt_cmpR op_notBl (pe_callN0 (ok_is_payload c) (hr.mono (by decide)) rfl (mg_is_payload c) (fd_is_payload c).kp (kbn_of (fd_is_payload c) 0 ["value"] [0] fun _ _ _ _ _ _ us ws h1 h2 => match us, h1, ws, h2 with | [], _, [_], _ => rfl) pass0 (pk_cons pe_int pk_nil)) pe_bl (nomark _))))) (pss_one (ps_ret pe_bl)) pss_nil)))))
      (pss_one (ps_ret pe_bl))), ?_⟩
    walk_at "S"
    refine ⟨_, _, rfl, .inl ⟨_, hS, rfl⟩, ?_⟩
    rw [List.length_map]
    walk_at "S"
    refine ⟨_, rfl, by split <;> split at * <;> omega, by split <;> split at * <;> omega, ?_⟩
    refine for_it walk_range (fun i σ H1 => ∃ v1 v2 v3 v4 v5 v6 v7 v8 : Option V, σ = [some (.ref a), v1, v2, v3, v4, v5, v6, v7, v8] ∧ Same H H1) ?_ (fun _ _ _ _ _ => trivial) ?_ ?_
    · exact ⟨none, none, none, none, none, none, none, none, rfl, Same.refl H⟩
    · rintro i x σ H1 _ hi ⟨v1, v2, v3, v4, v5, v6, v7, v8, rfl, s1⟩ ⟨rfl, rfl⟩
      walk_at "S"
      refine ⟨a, ns, _, rfl, s1.seq hS, by omega, fun i0 => ?_⟩
      walk_at "S"
      refine ⟨i0, rfl, fun p o hp ho => ?_⟩
      walk_at "S"
      have hp0 : H p = none := s1.free hp
      refine ⟨12, rfl, by decide, by decide, ?_⟩
      refine for_it walk_range (fun i2 σ H2 => ∃ v3 v4 v5 v6 v7 v8 : Option V, σ = [some (.ref a), some (.int (0 + i)), some (.ref p), v3, v4, v5, v6, v7, v8] ∧ Same H H2 ∧ BoxAt (i2 * 60) H2 p) ?_ (fun _ _ _ _ _ => trivial) ?_ ?_
      · exact ⟨v3, v4, v5, v6, v7, v8, rfl, G.Same.new s1 hp, .of (ho.mono (by omega))⟩
      · rintro i2 x σ H2 _ hi2 ⟨v3, v4, v5, v6, v7, v8, rfl, s2, b2⟩ ⟨rfl, rfl⟩
        walk_at "S"
        refine ⟨p, _, rfl, b2, by omega, fun v T H3 b3 k3 kd3 ne3 ok3 => ?_⟩
        walk_at "S"
        refine ⟨p, _, rfl, b3, by omega, fun z H4 b4 k4 okz => ?_⟩
        walk_at "S"
        have kd4 := kd3.kp ne3 k4
        have s4 : Same H H4 := same_kp (same_kp s2 hp0 k3) hp0 k4
        refine ⟨v, T, rfl, kd4, ok3, fun H5 s5 => ?_⟩
        walk_at "S"
        refine ⟨.str z, _, rfl, .str z, okz, fun H6 s6 => ?_⟩
        walk_at "S"
        refine i_slS (Nat.le_trans okz.1 (by decide)) ?_
        walk_at "S"
        refine ⟨_, _, rfl, .str _, ⟨Nat.le_trans (cut_len _ _ _) okz.1, fun q hq => okz.2 q (cut_mem hq)⟩, fun H7 s7 => ?_⟩
        walk_at "S"
        refine i_I ⟨by decide, by decide, by decide⟩ ?_
        walk_at "S"
        have b7 := ((b4.same s5).same s6).same s7
        refine ⟨few, fun q1 hq1 => ?_⟩
        walk_at "S"
        have nq1 := b7.ne hq1
        refine take_ (by walk_at "bx") (by omega) (by decide) (by decide) fun r1 H8 h01 hr1 b8 k8 => ?_
        refine i_menuL (SqL.of (by walk_at "hp")) h01 (by exact hr1) fun w1 hw1 => ?_
        obtain ⟨lo, rfl⟩ : ∃ s : Int, w1 = .int s := by
          simp only [List.mem_cons, List.not_mem_nil, or_false] at hw1
          rcases hw1 with rfl | rfl | rfl | rfl <;> exact ⟨_, rfl⟩
        walk_at "S"
        refine i_I ⟨by decide, by decide, by decide⟩ ?_
        walk_at "S"
        refine ⟨few, fun q2 hq2 => ?_⟩
        walk_at "S"
        have nq2 := b8.ne hq2
        refine take_ (by walk_at "bx") (by omega) (by decide) (by decide) fun r2 H9 h02 hr2 b9 k9 => ?_
        refine i_menuL (SqL.of (by walk_at "hp")) h02 (by exact hr2) fun w2 hw2 => ?_
        obtain ⟨df, rfl⟩ : ∃ s : Int, w2 = .int s := by
          simp only [List.mem_cons, List.not_mem_nil, or_false] at hw2
          rcases hw2 with rfl | rfl | rfl | rfl | rfl | rfl <;> exact ⟨_, rfl⟩
        walk_at "S"
        refine ⟨few, fun q3 hq3 => ?_⟩
        walk_at "S"
        have nq3 := b9.ne hq3
        refine take_ (by walk_at "bx") (by omega) (by decide) (by decide) fun r3 H10 h03 hr3 b10 k10 => ?_
        refine i_menuL (SqL.of (by walk_at "hp")) h03 (by exact hr3) fun w3 hw3 => ?_
        obtain ⟨nb, rfl⟩ : ∃ s : Int, w3 = .int s := by
          simp only [List.mem_cons, List.not_mem_nil, or_false] at hw3
          rcases hw3 with rfl | rfl <;> exact ⟨_, rfl⟩
        walk_at "S"
        refine take_ (by walk_at "bx") (by omega) (by decide) (by decide) fun r4 H11 h04 hr4 b11 k11 => ?_
        walk_at "S"
        generalize nb + r4 - 1 = num
        generalize lo + df = gr
        have sF : Same H H11 := by walk_at "sm"
        have kdF : Kd H11 v T := by walk_at "kd"
        refine ⟨.int num, lo, gr, "int", rfl, .int num, ?_⟩
        walk_at "S"
        refine i_repr (.bl _) (Okd.bool _).sm ?_
        walk_at "S"
        have step2 : ∀ {R : L2.St → Hp → Prop} {σ : L2.St}, (∃ v3 v4 v5 v6 v7 v8 : Option V, σ = [some (.ref a), some (.int (0 + i)), some (.ref p), v3, v4, v5, v6, v7, v8]) → (∀ σ' H', (∃ v3 v4 v5 v6 v7 v8 : Option V, σ' = [some (.ref a), some (.int (0 + i)), some (.ref p), v3, v4, v5, v6, v7, v8] ∧ Same H H' ∧ BoxAt ((i2 + 1) * 60) H' p) → R σ' H') → R σ H11 := by
          rintro R σ ⟨v3, v4, v5, v6, v7, v8, rfl⟩ f
          exact f _ _ ⟨v3, v4, v5, v6, v7, v8, rfl, sF, b11.mono (by omega)⟩
        have e1 : ∀ b : Bool, decide ((V.str (PyData.bool b).shown) = V.str (PyData.bool b).shown) = true := fun b => decide_eq_true rfl
        have e2 : ∀ b : Bool, decide (V.bl b = V.bl b) = true := fun b => decide_eq_true rfl
        have part3 : ∀ {D : Ends} {t u : TS} {σ : L2.St}, (u D σ H11) → (if (!decide (V.bl (isI (.int num) lo gr) = V.bl (isI (.int num) lo gr))) = true then t D σ H11 else u D σ H11) := fun h => i_isF (by rw [e2]; rfl) h
        have fin1 : ∀ {D : Ends} {t u : TS} {σ : L2.St} {b : Bool}, b = isI (.int num) lo gr → u D σ H11 → (if (!decide (V.str (PyData.bool (isI (.int num) lo gr)).shown = V.str (PyData.bool b).shown)) = true then t D σ H11 else u D σ H11) := fun hb h => i_isF (by rw [hb, e1]; rfl) h
        have fin2 : ∀ {D : Ends} {t u : TS} {σ : L2.St} {b : Bool}, b = isI v lo gr → u D σ H11 → (if (!decide (V.str (PyData.bool (isI v lo gr)).shown = V.str (PyData.bool b).shown)) = true then t D σ H11 else u D σ H11) := fun hb h => i_isF (by rw [hb, e1]; rfl) h
        refine i_dec (fun c1 => ?_) (fun c1 => ?_)
        all_goals
          walk_at "S"
          refine i_repr (.bl _) (Okd.bool _).sm ?_
          walk_at "S"
          refine fin1 (by simp [isI, c1]) ?_
          walk_at "S"
          refine ⟨v, lo, gr, T, rfl, kdF, ?_⟩
          walk_at "S"
          refine i_repr (.bl _) (Okd.bool _).sm ?_
          walk_at "S"
          refine ⟨v, T, rfl, kdF, ?_⟩
          walk_at "S"
          cases kdF with
          | int j =>
            walk_at "S"
            refine i_dec (fun c2 => ?_) (fun c2 => ?_)
            all_goals
              walk_at "S"
              refine i_repr (.bl _) (Okd.bool _).sm ?_
              walk_at "S"
              refine fin2 (by simp [isI, c2]) ?_
              walk_at "S"
              refine ⟨rfl, .int num, lo, gr, "int", rfl, .int num, ?_⟩
              walk_at "S"
              refine ⟨.int num, lo, gr, "int", rfl, .int num, ?_⟩
              walk_at "S"
              refine part3 ?_
              walk_at "S"
              exact ⟨_, _, _, _, _, _, rfl, sF, b11.mono (by omega)⟩
          | _ =>
              walk_at "S"
              refine i_repr (.bl _) (Okd.bool _).sm ?_
              walk_at "S"
              refine fin2 rfl ?_
              walk_at "S"
              refine ⟨rfl, .int num, lo, gr, "int", rfl, .int num, ?_⟩
              walk_at "S"
              refine ⟨.int num, lo, gr, "int", rfl, .int num, ?_⟩
              walk_at "S"
              refine part3 ?_
              walk_at "S"
              exact ⟨_, _, _, _, _, _, rfl, sF, b11.mono (by omega)⟩
      · rintro σ H2 ⟨v3, v4, v5, v6, v7, v8, rfl, s2, b2⟩
        walk_at "S"
        refine ⟨rfl, .str "a", "str", rfl, .str _, (show (Str.ofString "a").length ≤ sizeLine by decide +kernel), fun H3 s3 => ?_⟩
        walk_at "S"
        rw [show isName (.str "a") = true from by decide +kernel]
        walk_at "S"
        refine i_isF rfl ?_
        walk_at "S"
        refine ⟨rfl, .int 7, "int", rfl, .int _, trivial, fun H4 s4 => ?_⟩
        walk_at "S"
        refine i_isF rfl ?_
        walk_at "S"
        exact ⟨_, _, _, _, _, _, _, _, rfl, (s2.trans s3).trans s4⟩
    · rintro σ H1 ⟨v1, v2, v3, v4, v5, v6, v7, v8, rfl, s1⟩
      walk_at "S"
      exact k H1
end

end K01
namespace K01
open PySem PySem.Spec PyProof.Rows L2 G

/-! the run of the top -/
abbrev R : PySem.W.OpenRow := PySem.W.OpenLaw.row PySem.Challenge.rw_eventdeliveries_k01_integers_names_paylo
abbrev hk : PySem.W.Hook := hookG 4 fa fn ex
def ob (s : PySem.W.SharedT) : AlG := obsG 4 fa fn ex (HandSHeadRun.getT s)
theorem ob_eq (s : PySem.W.SharedT) : ob s = hk.obs s.abs := obsG_eq (HandSHeadRun.getT_eq s)
def loose : List PySem.Str := (["MOST_LETTERS", "MOST_SIGNS", "FIRST_SIGN", "PERCENT", "LAST_SIGN", "is_integer", "is_name", "is_payload", "is_plain", "_law_cell", "_law_box", "_law_take", "_law_odd", "_law_text", "_law_whole", "_law_is_name", "_law_is_payload", "_law_right"] : List PySem.Str)
theorem run (w : World) : HandSHeadRun.RunEq R (PySem.W.view R.prog [20]) hk ob 3000 loose w := by
  intro os
  kernel_rfl
end K01
open PySem PySem.W PySem.Calls PyProof.Rows
set_option maxRecDepth 100000 in
set_option maxHeartbeats 0 in
theorem PySem.Challenge.cw_eventdeliveries_k01_integers_names_paylo_holds : PySem.Challenge.rw_eventdeliveries_k01_integers_names_paylo.Holds := by
  w_on; o_law
  refine HandSHeadRun.head_any (r := OpenLaw.row PySem.Challenge.rw_eventdeliveries_k01_integers_names_paylo) (q := view (OpenLaw.row PySem.Challenge.rw_eventdeliveries_k01_integers_names_paylo).prog [20]) (H := K01.hk) (ob := K01.ob) (M := 3000) (loose := K01.loose) (d := HandSHeadRun.topDef (OpenLaw.row PySem.Challenge.rw_eventdeliveries_k01_integers_names_paylo).prog 20) (kwd := []) K01.ob_eq
    (by kernel_rfl) (fun s => by kernel_rfl) K01.run (by kernel_rfl) (by kernel_rfl) (by kernel_rfl) (by rfl) (by first | assumption | decide +kernel) (by decide +kernel) ⟨rfl, rfl, rfl, rfl, rfl, by decide +kernel⟩ ?hw ?hc
  case hw => w_witness2
  case hc =>
    refine G.walkG (l := PySem.Challenge.rw_eventdeliveries_k01_integers_names_paylo) (n := 63) (k := 5) (x := "_law_script") (cx := L2.CX0) rfl (by decide) (by kernel_rfl) ⟨rfl, by decide, by decide⟩ ?F (fun _ _ _ _ z => z)
    intro w mg fa h Y N hmg0
    obtain ⟨K, KX, c⟩ := Y
    have hmg : mg ("law" : PySem.Str) = some (.ref fa) := by
      have e : (HandSHeadRun.topDef (OpenLaw.row PySem.Challenge.rw_eventdeliveries_k01_integers_names_paylo).prog 20).name = ("law" : PySem.Str) := by kernel_rfl
      rw [← e]
      exact hmg0
    have hd : G.Hd K01.fa K01.fn K01.ex K mg := ⟨c, h, KX, N⟩
    have e := hmg.symm.trans (K01.mg_law hd)
    cases e
    exact ⟨K, _, K01.sp_law K, KX, fun s v => L2.FunD.bindsA (ps := ["_law_script"]) (K01.fd_law hd) (fun _ _ _ _ _ _ us hl => match us, hl with | [_], _ => rfl) s [v] rfl, fun H a ns hl hb hO hS => ⟨a, ns, rfl, hS, hl, fun _ => rfl⟩, fun base _ _ => K01.ok_law hd⟩
#print axioms PySem.Challenge.cw_eventdeliveries_k01_integers_names_paylo_holds
