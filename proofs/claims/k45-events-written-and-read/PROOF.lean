import PyProof.Rows.All
import Wide.All
import OpenK.AllK
import Wide.FinOn
import HandS.ForMost
import HandS.IsInst
import HandS.Deep
import HandS.SortInts
import HandS.Walk
import HandS.NoneIn
import HandS.Codes
import HandS.TupAny
import HandS.Conv
import HandS.Sort
import HandS.SortOrd
import HandS.SortRule
import HandS.ListItems
import HandS.More
import KE.SortData
import HandS.DictComp
import HandS.ExcInit
import HandS.ExcOwn
import HandS.ExcField
import HandS.ExcIs
import HandS.TryMany
import HandS.TryOnly
import HandS.ForExc
import KE.KDictWalk
import HandS.DictTup
import HandS.TupMul
import HandS.HotCalls
import HandS.SetFor
import KE.KExcIs
import HandS.TupLen
import KE.GoesMore
import HandS.Head0
import HandS.Head1
import HandS.Head2
import HandS.HeadHook1
import KE.KStateDown
import HandS.Style
import KE.KDictZip
import KE.IntTextText
import HandS.Zip
import PySem.Challenge.RW_keptbywitness_k45_events_written_and_rea
set_option Elab.async false
set_option linter.all false
set_option maxRecDepth 100000
set_option maxHeartbeats 4000000
namespace KW
local macro_rules | `(tactic| walk_at "e") => `(tactic| (repeat first | refine ⟨_, rfl, ?_⟩ | refine ⟨_, _, rfl, rfl, ?_⟩ | refine .inl ⟨_, rfl, ?_⟩ | refine ⟨_, _, rfl, rfl, .inl ⟨by decide, by decide⟩, ?_⟩ | refine ⟨_, _, rfl, rfl, .inr ⟨by decide, by decide⟩, ?_⟩ | refine ⟨_, _, rfl, rfl, ⟨by decide, by decide⟩, ?_⟩ | refine ⟨_, _, rfl, rfl, (by show (_ : Int) ≠ 0; first | decide | omega), ?_⟩))
open PySem PySem.Spec PyProof.Rows L2
/-! ### the same defs where no repr is under way (guards): what repr needs -/
structure RoomG (k : Nat) (A : Around) : Prop where
  room : Room k A
  gd : A.guards = some []
theorem RoomG.mono {j k : Nat} {A : Around} (r : RoomG k A) (h : j ≤ k) : RoomG j A := ⟨r.room.mono h, r.gd⟩
theorem RoomG.units {k : Nat} {A : Around} (r : RoomG k A) : A.units + 64 < cLine := r.room.units
theorem RoomG.un2 {k : Nat} {A : Around} (r : RoomG k A) : A.units + 65 < cLine := by have := r.room.un; omega
theorem RoomG.hu {k : Nat} {A : Around} (r : RoomG k A) : A.units + 1 < cLine := hu_of r.room
structure FnG (P : Program) (w : World) (K : PySem.W.Frag) (mg : Str → Option Value) (base : Heap) (CX : CXT) (k : Nat) (f : Addr) (fd : FuncData) (ps : List Str) (sp : Sp) : Prop where
  len : ∀ vs H Q E, sp vs H Q E → vs.length = ps.length
  run : ∀ (A : Around) (out : List Env) (s : Shared) (H : Hp) (args : Args) (us : List Value) (vs : List V) (Q : VK) (E : XK), RoomG k A → Env0 P w K mg base A out s H →
    BindsTo s fd args (ps.zip us) → Vals vs us → sp vs H Q E → codeAny (model P w) A (.call (.ref f) args) (CR CX out P w H s Q E) s
section
variable {P : Program} {w : World} {K : PySem.W.Frag} {mg : Str → Option Value} {base : Heap} {CX : CXT}
theorem FnG.of {k : Nat} {f : Addr} {fd : FuncData} {ps : List Str} {sp : Sp} (F : FnOk P w K mg base CX k f fd ps sp) : FnG P w K mg base CX k f fd ps sp :=
  ⟨F.len, fun A out s H args us vs Q E g => F.run A out s H args us vs Q E g.room⟩
theorem FnG.mono {j k : Nat} {f : Addr} {fd : FuncData} {ps : List Str} {sp : Sp} (F : FnG P w K mg base CX j f fd ps sp) (h : j ≤ k) : FnG P w K mg base CX k f fd ps sp :=
  ⟨F.len, fun A out s H args us vs Q E g => F.run A out s H args us vs Q E (g.mono h)⟩
/-- a def's body keeps its promise -/
theorem Fun.okG {x qual : Str} {st : Stmt} {f : Addr} {fd : FuncData} {N ps : List Str} {k : Nat} {sp : Sp} (F : Fun K x qual st f fd) (S : FnScope N ps (defScope st)) (len : ∀ vs H Q E, sp vs H Q E → vs.length = ps.length)
    (body : ∀ (cv : Value) (A : Around) (out : List Env) (s : Shared) (H : Hp) (vs : List V) (Q : VK) (E : XK), RoomG k (A.deeper (envOfC qual (defScope st) s.heap.objs.size f cv)) → sp vs H Q E →
      ∃ t, PSs (cxOf CX P w K mg base N qual (defScope st) f cv A out s H E) (defBody st) t ∧ t { nx := fun _ H' => Q .non H', rt := Q } (start N vs) H) : FnG P w K mg base CX (k + 1) f fd ps sp := by
  obtain ⟨oc, od, kV, doc, pm, an, cv, ct, osl, rfl, lk, hcd⟩ := F.ex
  constructor
  · exact len
  intro A out s H args us vs Q E g e0 bnd rel hsp
  have lenV := len _ _ _ _ hsp
  have old : ∀ b o, base.get? b = some o → s.heap.get? b = some o := fun b o e => (e0.bs b o e).1
  have inK : K.In s.heap := e0.mod.kin.keeps old
  have nolim : s.heap.NoLimit := e0.mod.nolimit.keeps old
  have kinds : ∀ y ∈ ps.zip us, (defScope st).names.lookup y.1 = some .local ∨ ((defScope st).names.lookup y.1 = some .cell ∧
      ((cellsFrom (s.heap.objs.size + 1) (defScope st).names []).lookup y.1).isSome = true) := by
    rintro ⟨n, v⟩ m
    have mp := (List.of_mem_zip m).1
    cases S.par n mp with
    | inl q => exact Or.inl q
    | inr q => exact Or.inr ⟨q, PySem.W.cellsFrom_some _ _ _ (Or.inl q)⟩
  refine codeAny_call_function g.room.depth (inK _ _ lk) rfl S.co S.gen rfl (PySem.W.codeRec_of inK hcd) (bnd _ _ _ _ ?_)
  refine wpAny_newFunctionEnv_cells S.kind kinds fun env ev s1 ic => ?_
  subst ev
  refine ⟨nolim.keeps ic.toInCall.keep, codeAny_func ?_⟩
  obtain ⟨t, pss, tq⟩ := body cv A out s H vs Q E ⟨g.room.deeper _, g.gd⟩ hsp
  have I0 : Inv (cxOf CX P w K mg base N qual (defScope st) f cv A out s H E) [] (start N vs) H s1 := inv_start S g.room.hd e0 lenV rel ic
  have done : ∀ {s' : Shared} {σ' : L2.St} {H' : Hp} {v : V} {u : Value}, Inv (cxOf CX P w K mg base N qual (defScope st) f cv A out s H E) [] σ' H' s' → RelV v u → Q v H' → CE out P w H s Q u s' :=
    fun {s' σ' H' v u} J rv q => ⟨v, H', J.os, J.bare, J.base, J.hok, rv, q⟩
  refine wpAny_mono (pss.run [] s1 (start N vs) H _ I0 tq) (fun fl s' e => ?_) fun _ _ e => e
  match fl, e with
  | .ret u, ⟨v, σ', H', J, rv, q⟩ => exact done J rv q
  | .next, ⟨σ', H', J, q⟩ => exact done (v := .non) (u := .none) J rfl q
  | .brk, ⟨_, _, _, q⟩ => exact q.elim
  | .cont, ⟨_, _, _, q⟩ => exact q.elim
end
section
variable {X : Cx} {CX : CXT} {k : Nat} {f C : Addr} {fd : FuncData} {ps : List Str} {sp : Sp} {E : XK}
theorem runG {pins : List (Addr × Obj)} {σ : L2.St} {H : Hp} {s : Shared} {Q : VK} {us : List Value} {vs : List V} (F : FnG X.prog X.w X.K X.mg X.base CX k f fd ps sp) (g : RoomG k X.A) (b : Binds X.K fd ps []) (px : Passes CX X E)
    (I : Inv X pins σ H s) (r : Vals vs us) (h : sp vs H Q E) : wpAny (model X.prog X.w) X.A (call (.ref f) us) (EP X pins σ Q) X.xe s := by
  have n1 : (us ++ []).length = ps.length := by rw [List.append_nil, ← r.length]; exact F.len _ _ _ _ h
  have bs := b s us I.kIn n1
  rw [List.append_nil] at bs
  refine wpAny_call (codeAny_mono (F.run X.A X.stack s H ⟨us, []⟩ us vs Q E g I.env0 bs r h) fun res s' hq => ?_)
  match res, hq with
  | .error e, hq => exact px pins σ H s e s' I hq
  | .ok (.ret u), hq => exact I.after hq
  | .ok .next, hq => exact hq.elim
  | .ok .brk, hq => exact hq.elim
  | .ok .cont, hq => exact hq.elim
/-- f(e, ..) -/
def tCallG (sp : Sp) (E : XK) (t : TA) : TE := fun σ H Q => t σ H fun vs H1 => sp vs H1 Q E
theorem pe_callG {x : Str} {e : Expr} {es : List Expr} {p pos : Pos} {t : TA} (F : FnG X.prog X.w X.K X.mg X.base CX k f fd ps sp) (g : RoomG k X.A) (hg : Gl X x) (hm : X.mg x = some (.ref f)) (hk : PySem.W.keepIn X.K (.ref f) = true) (b : Binds X.K fd ps [])
    (px : Passes CX X E) (ha : PA X (e :: es) t) (hdb : (x == ("__debug__" : Str)) = false := by decide) (he : starEach (e :: es) X.env = (false, eval e X.env) :: starEach es X.env := by rfl) (hpl : (backTo pos (starEach es X.env)).any (·.1) = false := by rfl) :
    PE X (.Call (.Name x p) (e :: es) [] pos) (tCallG sp E t) := by
  constructor
  intro pins s σ H Q I h
  refine wpAny_Call_Name_kw (ld_glob I hg hm ?_ hdb)
  exact PySem.W.callWith_K (h₀ := X.base) I.ok.mod.kin hk (thn (ha.run pos pins s σ H _ I h) fun us s1 ⟨vs, H1, I1, r, q⟩ => ⟨I1.kIn, runG F g b px I1 r q⟩) he hpl
theorem pe_callG0 {x : Str} {p pos : Pos} (F : FnG X.prog X.w X.K X.mg X.base CX k f fd ps sp) (g : RoomG k X.A) (hg : Gl X x) (hm : X.mg x = some (.ref f)) (hk : PySem.W.keepIn X.K (.ref f) = true) (b : Binds X.K fd ps [])
    (px : Passes CX X E) (hdb : (x == ("__debug__" : Str)) = false := by decide) : PE X (.Call (.Name x p) [] [] pos) (tCallG sp E tNil) := by
  constructor
  intro pins s σ H Q I h
  exact wpAny_Call_Name_kw (ld_glob I hg hm (PySem.W.callWith_K0 I.kIn hk (runG (us := []) F g b px I .nil h)) hdb)
end
/-- the law's own call, from a promise that wants no repr under way -/
theorem lawG {P : Program} {w : World} {K : PySem.W.Frag} {mg mb : Str → Option Value} {CX : CXT} {k : Nat} {fa a : Addr} {fd : FuncData} {x : Str} {sp : Sp} {s : Shared} {vs : List Value} {ns : List Int}
    (KX : K.In s.heap) (nsM : s.heap.Ns mainGlobals mg) (nsB : s.heap.Ns builtinsNs mb) (blt : ∀ x : Str, x ≠ "__name__" → mb x = bootBuiltins x) (lim : s.heap.NoLimit) (gens : s.gens = #[])
    (obj : s.heap.get? a = some { cls := .type "list", data := .seq vs.toArray }) (hints : IntsAre vs ns) (len : ns.length ≤ sizeLine) (g : RoomG k callerA)
    (F : ∀ base : Heap, K.In base → base.Ns mainGlobals mg → FnG P w K mg base CX k fa fd [x] sp) (bnd : ∀ (s : Shared) (u : Value), BindsTo s fd ⟨[u], []⟩ [(x, u)])
    (prom : ∀ H : Hp, Only H → SqL K H a (ns.map V.int) → sp [.ref a] H (fun v _ => v = .bl true) fun _ _ _ => False) (nox : ∀ H e s', CX [] H s (fun _ _ _ => False) e s' → False) :
    codeAny (model P w) callerA (.call (.ref fa) ⟨[.ref a], []⟩) (fun r s' => r = .ok (.ret (.bool true)) ∧ OldK s.heap s'.heap ∧ s'.os = s.os ∧ AllBare s'.gens) s := by
  have rel := vals_ints hints
  have vl := hints.length
  suffices main : ∀ H : Hp, Only H → SqL K H a (ns.map V.int) → HOk P w H s.heap → (∀ b, H b ≠ none → b = a) → (H a ≠ none → K.lookup a = none) →
      codeAny (model P w) callerA (.call (.ref fa) ⟨[.ref a], []⟩) (fun r s' => r = .ok (.ret (.bool true)) ∧ OldK s.heap s'.heap ∧ s'.os = s.os ∧ AllBare s'.gens) s by
    cases hk : K.lookup a with
    | some o =>
      have e := (KX a o hk).symm.trans obj
      cases e
      exact main (fun _ => none) (fun _ => Or.inl rfl) (Or.inr ⟨_, vs.toArray, _, hk, rfl, rfl, rfl, by rw [List.size_toArray, vl]; exact len, by simpa using rel⟩) (fun b u z => nomatch z) (fun b z => absurd rfl z) fun z => absurd rfl z
    | none =>
      let u : HO := .frz { cls := .type "list", data := .seq vs.toArray } (.lst (ns.map V.int))
      have yes : ∀ {b}, b = a → (fun b => if b = a then some u else none : Hp) b = some u := fun e => if_pos e
      have no : ∀ {b}, ¬ b = a → (fun b => if b = a then some u else none : Hp) b = none := fun e => if_neg e
      refine main (fun b => if b = a then some u else none) (fun b => ?_) (Or.inl (Or.inr ⟨_, yes rfl⟩)) (fun b o z => ?_) (fun b z => Decidable.byContradiction fun n => z (no n)) fun _ => hk
      · by_cases e : b = a
        · exact Or.inr ⟨_, _, yes e⟩
        · exact Or.inl (no e)
      · by_cases e : b = a
        · have z2 := (yes e).symm.trans z
          cases z2
          subst e
          exact ⟨obj, by rw [List.length_map]; exact len, vs, _, rel, obj⟩
        · exact nomatch (no e).symm.trans z
  intro H only seq hok onlyA notK
  have hid : ∀ {b : Addr} {o : Obj}, s.heap.get? b = some o → H b = none → (hidT s.heap H).get? b = some o := fun e n => hidT_get e n
  have offA : ∀ {b : Addr}, (b = a → False) → H b = none := fun {b} n => by
    cases q : H b with
    | none => rfl
    | some u => exact (n (onlyA b (by rw [q]; exact fun z => nomatch z))).elim
  have dictOff : ∀ {b : Addr} {o : Obj} {es : Array DictEntry} {ep : Nat}, s.heap.get? b = some o → o.data = .dict es ep → H b = none := fun {b o es ep} e d => offA fun z => by
    rw [z, obj] at e
    cases e
    exact nomatch d
  have nsH : ∀ {b : Addr} {m : Str → Option Value}, s.heap.Ns b m → (hidT s.heap H).Ns b m := fun {b m} ⟨o, es, ep, e, d, r⟩ => ⟨o, es, ep, hid e (dictOff e d), d, r⟩
  have inB : K.In (hidT s.heap H) := fun b o e => hid (KX b o e) (by
    cases q : H b with
    | none => rfl
    | some u =>
      have z : b = a := onlyA b (by rw [q]; exact fun z => nomatch z)
      have := notK (by rw [← z, q]; exact fun z => nomatch z)
      rw [z, this] at e
      cases e)
  have md : Mod K mg (hidT s.heap H) := ⟨inB, nsH nsM, ⟨mb, nsH nsB, blt⟩, let ⟨mc, q1, q2⟩ := lim; ⟨mc, nsH q1, q2⟩⟩
  have en : Env0 P w K mg (hidT s.heap H) callerA [] s H := ⟨rfl, md, fun b o e => of_hidT e, Nat.le_of_eq (hidT_size _ _), trivial, (fun b m => nomatch m), hok, .of_eq gens⟩
  refine codeAny_mono ((F _ inB (nsH nsM)).run callerA [] s H ⟨[.ref a], []⟩ [.ref a] [.ref a] _ _ g en (bnd s (.ref a)) (.cons rfl .nil) (prom H only seq)) fun res s' h => ?_
  match res, h with
  | .error e, h => exact (nox H e s' h).elim
  | .ok .next, h => exact h.elim
  | .ok .brk, h => exact h.elim
  | .ok .cont, h => exact h.elim
  | .ok (.ret u), h =>
    obtain ⟨v, H', os, bare, un, hok', rv, q⟩ := h
    have ev : v = .bl true := q
    subst ev
    obtain rfl : u = Value.bool true := rv
    refine ⟨rfl, OldK.of_keep fun b o e => ?_, os, bare⟩
    cases only b with
    | inl z => exact un.keep b o e z (fun m => nomatch m) (fun m => nomatch m)
    | inr z =>
      obtain ⟨ob, xs, z⟩ := z
      have z2 := un.frzs b ob _ z
      have e1 := (hok b _ z).1
      have e2 := (hok' b _ z2).1
      rw [e] at e1
      cases e1
      exact e2
theorem walkG {l : PySem.W.OpenLaw} {n k : Nat} {q : Program} {loose : List Str} {XP : (Str → Option Value) → Heap → Prop} {YP : World → Heap → Prop} {d : DefRec} {K : Params → PySem.W.Frag} {CX : World → CXT} {sp : World → Sp} {x : Str}
    (hn : l.most = some n) (hn2 : n ≤ sizeLine) (hdf : d.params.defaults = []) (g : RoomG k callerA) (hY : ∀ (w : World) (h : Heap), YP w h → (K w.params).In h)
    (F : ∀ (w : World) (mg : Str → Option Value) (fa : Addr) (h : Heap), (K w.params).In h → h.Ns mainGlobals mg → mg d.name = some (.ref fa) →
      ∃ fd : FuncData, (∀ (s : Shared) (u : Value), BindsTo s fd ⟨[u], []⟩ [(x, u)]) ∧ ∀ base : Heap, (K w.params).In base → base.Ns mainGlobals mg → FnG l.prog w (K w.params) mg base (CX w) k fa fd [x] (sp w))
    (prom : ∀ (w : World) (H : Hp) (a : Addr) (ns : List Int), ns.length ≤ n → Only H → SqL (K w.params) H a (ns.map V.int) → sp w [.ref a] H (fun v _ => v = .bl true) fun _ _ _ => False)
    (nox : ∀ (w : World) (H : Hp) (s : Shared) (e : Value) (s' : Shared), CX w [] H s (fun _ _ _ => False) e s' → False) : PySem.W.WalkO q loose XP YP l.row.toRowW d [] (fun f vs => PySem.call f vs) := by
  refine Att.attach_call hn hdf fun w s₀ s₁ mg mb fa o pm cd doc a vs ns G Y _ _ _ hmg obj hints len gens => ?_
  have inK := hY w _ Y
  obtain ⟨fd, bnd, FF⟩ := F w mg fa _ inK G.T.g hmg
  exact lawG inK G.T.g G.T.b G.T.builtins G.T.nolimit gens obj hints (Nat.le_trans len hn2) g FF bnd (fun H only sq => prom w H a ns len only sq) fun H e s' => nox w H s₁ e s'
/-! ### defs of the text by name, their promises, constants of the module -/
structure DefAt (K : PySem.W.Frag) (mg : Str → Option Value) (x : Str) (st : Stmt) : Prop where
  ex : ∃ (f : Addr) (fd : FuncData), mg x = some (.ref f) ∧ Fun K x x st f fd
structure DefOk (P : Program) (w : World) (K : PySem.W.Frag) (mg : Str → Option Value) (base : Heap) (x : Str) (k : Nat) (ps : List Str) (sp : Sp) : Prop where
  ex : ∃ (f : Addr) (fd : FuncData), mg x = some (.ref f) ∧ PySem.W.keepIn K (.ref f) = true ∧ Binds K fd ps [] ∧ FnG P w K mg base CX0 k f fd ps sp ∧ ∃ (oc : Value) (od : Option Addr) (osl : Array (Option Value)), K.lookup f = some ⟨oc, od, .func fd, osl⟩
/-- a promise: for arguments made of p, R p tells what is asked and given -/
def SpOf {α : Type} (args : α → List V) (R : α → Hp → VK → Prop) : Sp := fun vs H Q _ => ∃ p : α, vs = args p ∧ R p H Q
section
variable {P : Program} {w : World} {K : PySem.W.Frag} {mg : Str → Option Value} {base : Heap}
theorem DefOk.mk' {x : Str} {st : Stmt} {N ps : List Str} {k : Nat} {α : Type} {args : α → List V} {R : α → Hp → VK → Prop} (D : DefAt K mg x st) (S : FnScope N ps (defScope st))
    (hb : ∀ (kV doc pm : Value) (an : Option Addr) (cdv ct : Value) (us : List Value), us.length = ps.length → bindArgs (PySem.W.fnOf x x (defArgs st) (defBody st) (defScope st) .none kV doc pm an cdv ct) ⟨us, []⟩ = pure (ps.zip us))
    (hl : ∀ p : α, (args p).length = ps.length)
    (hbody : ∀ (cdv : Value) (f : Addr) (A : Around) (outer : List Env) (s : Shared) (H : Hp) (p : α) (Q : VK) (E : XK), RoomG k (A.deeper (envOfC x (defScope st) s.heap.objs.size f cdv)) → R p H Q →
      ∃ t, PSs (cxOf CX0 P w K mg base N x (defScope st) f cdv A outer s H E).nox (defBody st) t ∧ t { nx := fun _ H' => Q .non H', rt := Q } (start N (args p)) H) :
    DefOk P w K mg base x (k + 1) ps (SpOf args R) := by
  obtain ⟨f, fd, hm, F⟩ := D.ex
  refine ⟨f, fd, hm, F.kp, F.binds hb, Fun.okG F S (fun vs H Q E h => ?_) (fun cdv A outer s H vs Q E hr h => ?_), ?_⟩
  · obtain ⟨p, rfl, _⟩ := h
    exact hl p
  · obtain ⟨p, rfl, h⟩ := h
    obtain ⟨t, h1, h2⟩ := hbody cdv f A outer s H p Q E hr h
    exact ⟨t, h1.nox, h2⟩
  · obtain ⟨oc, od, kV, doc, pm, an, cdv, ct, osl, _, lk, _⟩ := F.ex
    exact ⟨oc, od, osl, lk⟩
/-- the law's own promise, over any base -/
theorem DefOk.end {l : PySem.W.OpenLaw} {x par : Str} {st : Stmt} {k : Nat} {sp : Sp} {f : Addr} {fd : FuncData} (hm : mg x = some (.ref f)) (F : Fun K x x st f fd) (hb : ∀ (s : Shared) (v : Value), BindsTo s fd ⟨[v], []⟩ [(par, v)])
    (ok : ∀ base : Heap, DefOk l.prog w K mg base x k [par] sp) : ∃ fd : FuncData, (∀ (s : Shared) (v : Value), BindsTo s fd ⟨[v], []⟩ [(par, v)]) ∧ ∀ base : Heap, K.In base → base.Ns mainGlobals mg → FnG l.prog w K mg base CX0 k f fd [par] sp := by
  refine ⟨fd, hb, fun base _ _ => ?_⟩
  obtain ⟨f', fd', hm', _, _, G, oc, od, osl, lk⟩ := (ok base).ex
  cases hm.symm.trans hm'
  obtain ⟨oc2, od2, kV, doc, pm, an, cdv, ct, osl2, _, lk2, _⟩ := F.ex
  cases lk.symm.trans lk2
  exact G
end
section
variable {X : Cx}
theorem pe_callD {x : Str} {e : Expr} {es : List Expr} {p pos : Pos} {ta : TA} {k : Nat} {ps : List Str} {sp : Sp} (D : DefOk X.prog X.w X.K X.mg X.base x k ps sp) (hr : RoomG k X.A) (hg : Gl X x) (ha : PA X (e :: es) ta)
    (hdb : (x == ("__debug__" : Str)) = false := by decide) (he : starEach (e :: es) X.env = (false, eval e X.env) :: starEach es X.env := by rfl) (hpl : (backTo pos (starEach es X.env)).any (·.1) = false := by rfl) :
    PE X (.Call (.Name x p) (e :: es) [] pos) (tCallG sp E0 ta) := by
  obtain ⟨f, fd, hm, hk, hb, F, _⟩ := D.ex
  exact pe_callG F hr hg hm hk hb pass0 ha hdb he hpl
/-- a written int, a written text of the module -/
def CoI (mg : Str → Option Value) (x : Str) (i : Int) : Prop := ∃ t, mg x = some (.int i t)
def CoS (mg : Str → Option Value) (x : Str) (z : Str) : Prop := ∃ t, mg x = some (.str z t)
theorem pe_coI {x : Str} {i : Int} {pos : Pos} (h : CoI X.mg x i) (hg : Gl X x) (hd : (x == ("__debug__" : Str)) = false := by decide) : PE X (.Name x pos) (tC (.int i)) := by
  obtain ⟨t, e⟩ := h
  exact pe_glob hg e ⟨t, rfl⟩ hd
theorem pe_coS {x : Str} {z : Str} {pos : Pos} (h : CoS X.mg x z) (hg : Gl X x) (hd : (x == ("__debug__" : Str)) = false := by decide) : PE X (.Name x pos) (tC (.str z)) := by
  obtain ⟨t, e⟩ := h
  exact pe_glob hg e ⟨t, rfl⟩ hd
/-- any(xs) of ints -/
theorem truth_ints {prog : Program} {w : World} {A : Around} {ns : List Int} {its : List Value} (r : Vals (ns.map V.int) its) :
    TruthOf prog w A (fun i v => its.toArray[i]? = some v) (fun i => ns.getD i 0 != 0) := fun i v s Q E hv hq => by
  have hv' : its[i]? = some v := by simpa using hv
  have hl := r.length
  have hi : i < ns.length := by
    have := (List.getElem?_eq_some_iff.mp hv').1
    rw [List.length_map] at hl
    omega
  obtain ⟨u, hu, ru⟩ := r.get (i := i) (x := V.int ns[i]) (by rw [List.getElem?_map, List.getElem?_eq_getElem hi]; rfl)
  obtain ⟨t, rfl⟩ := ru
  have e : v = .int ns[i] t := Option.some.inj (hv'.symm.trans hu)
  subst e
  have eg : ns.getD i 0 = ns[i] := by rw [List.getD_eq_getElem?_getD, List.getElem?_eq_getElem hi]; rfl
  have hq' : Q (ns.getD i 0 != 0) s := hq
  rw [eg] at hq'
  exact truthy_int hq'
theorem any_rangeI : ∀ ns : List Int, (List.range ns.length).any (fun i => ns.getD i 0 != 0) = ns.any (· != 0)
  | [] => rfl
  | b :: bs => by
    rw [List.length_cons, List.range_succ_eq_map, List.any_cons, List.any_map, List.any_cons, ← any_rangeI bs]
    all_goals rfl
def rAnyI (K : PySem.W.Frag) : List V → Hp → VK → Prop := fun vs H Q => ∃ (a : Addr) (ns : List Int), vs = [V.ref a] ∧ SqL K H a (ns.map V.int) ∧ Q (.bl (ns.any (· != 0))) H
theorem cr_anyI (hc : X.calm = true) : CallR X (.builtin "any") (rAnyI X.K) := by
  intro pins s σ H vs us Q I r h
  obtain ⟨a, ns, rfl, hs, q⟩ := h
  obtain ⟨its, rv, hl, _⟩ := I.list hs
  have hlen := rv.length
  rw [Vals.ref1 r]
  refine call_any_walk (iter_any hl.isList fun s₂ e2 st hne => ?_)
  subst e2
  refine ⟨_, _, _, _, _, _, _, rfl, Walks.list (A := X.A.in1) (I.ok.hd hc) _ a hne its.toArray, st, truth_ints rv, fun h' tk hk => ?_⟩
  refine ⟨.bl _, H, I.kept fun b o eo => hk b o (fun hmem => ?_) (Heap.get?_push_of_some _ eo), ?_, q⟩
  · rcases List.mem_cons.mp hmem with e1 | hmem
    · exact absurd (e1 ▸ Heap.lt_size eo) (Nat.lt_irrefl _)
    · cases hmem
  · show Value.bool _ = Value.bool _
    rw [← any_rangeI, List.size_toArray, ← hlen, List.length_map]
end
theorem nd_of {c : Prop} [Decidable c] (h : (!decide c) = true) : ¬ c := fun e => by rw [decide_eq_true e] at h; cases h
theorem d_of {c : Prop} [Decidable c] (h : ¬ (!decide c) = true) : c := Decidable.byContradiction fun e => h (by rw [decide_eq_false e]; rfl)
/-! ### frames: what was tracked outside W is as it was -/
def Fr (W : List Addr) (H H' : Hp) : Prop := ∀ a o, a ∉ W → H a = some o → H' a = some o
theorem Fr.refl (W : List Addr) (H : Hp) : Fr W H H := fun _ _ _ h => h
theorem Fr.trans {W : List Addr} {H H1 H2 : Hp} (a : Fr W H H1) (b : Fr W H1 H2) : Fr W H H2 := fun x o n h => b x o n (a x o n h)
theorem Fr.new {W : List Addr} {H : Hp} {p : Addr} {o : HO} (h : H p = none) : Fr W H (upd H p o) := fun a u _ e => by
  rw [upd_ne (ne_of_none e h)]
  exact e
theorem Fr.upd {W : List Addr} {H : Hp} {p : Addr} {o : HO} (h : p ∈ W) : Fr W H (upd H p o) := fun a u n e => by
  rw [upd_ne (fun z => n (by rw [z]; exact h))]
  exact e
theorem nw {H : Hp} {p a : Addr} {o u : HO} (hp : H p = none) (h : H a = some o) : upd H p u a = some o := by rw [upd_ne (ne_of_none h hp)]; exact h
theorem nwq {K : PySem.W.Frag} {H : Hp} {p a : Addr} {u : HO} {xs : List V} (hp : H p = none) (h : SqL K H a xs) : SqL K (upd H p u) a xs := Same.seq (H := H) (fun b o e => nw hp e) h
theorem nws {H H1 : Hp} {p : Addr} {u : HO} (hp : H1 p = none) (s : Same H H1) : Same H (upd H1 p u) := fun b o e => nw hp (s b o e)
theorem same_mut {H H' : Hp} {p : Addr} {o : HO} (s : Same H H') (h : H p = none) : Same H (upd H' p o) := fun b u e => by rw [upd_ne (ne_of_none e h)]; exact s b u e
theorem Fr.mono {W W' : List Addr} {H H' : Hp} (f : Fr W H H') (h : ∀ a, a ∈ W → a ∈ W') : Fr W' H H' := fun a o n e => f a o (fun z => n (h a z)) e
theorem Fr.of {W : List Addr} {H H' : Hp} (h : Same H H') : Fr W H H' := fun a o _ e => h a o e
theorem Fr.same {H H' : Hp} (f : Fr [] H H') : Same H H' := fun a o e => f a o (by simp) e
/-- what is new behind stays apart -/
theorem Fr.free {W : List Addr} {H H' : Hp} {p : Addr} (f : Fr W H H') (hw : p ∉ W) (h : H' p = none) : H p = none := by
  cases e : H p with
  | none => rfl
  | some o => rw [f p o hw e] at h; cases h
theorem rd_fr {W : List Addr} {H H' : Hp} {a : Addr} {u : HO} (f : Fr W H H') (hw : a ∉ W) (h : Rd H a u) : Rd H' a u := by
  rcases h with h | ⟨o, h⟩
  · exact .inl (f a _ hw h)
  · exact .inr ⟨o, f a _ hw h⟩
theorem seq_fr {K : PySem.W.Frag} {W : List Addr} {H H' : Hp} {a : Addr} {xs : List V} (f : Fr W H H') (hw : a ∉ W) (h : SqL K H a xs) : SqL K H' a xs := by
  rcases h with h | h
  · exact .inl (rd_fr f hw h)
  · exact .inr h
theorem sqT_fr {K : PySem.W.Frag} {W : List Addr} {H H' : Hp} {a : Addr} {xs : List V} (f : Fr W H H') (hw : a ∉ W) (h : SqT K H a xs) : SqT K H' a xs := by
  rcases h with h | h
  · exact .inl (rd_fr f hw h)
  · exact .inr h
theorem snocI {l : List Int} {x : Int} : l.map V.int ++ [V.int x] = (l ++ [x]).map V.int := by rw [List.map_append]; rfl
theorem upd_snocI {H : Hp} {o : Addr} {u : HO} {l : List Int} {x : Int} : upd (upd H o u) o (.lst (l.map V.int ++ [V.int x])) = upd H o (.lst ((l ++ [x]).map V.int)) := by rw [upd_upd, snocI]
theorem cutV_of {xs : List V} {lo hi : Int} {a b : Nat} (h1 : lo = (a : Int)) (h2 : hi = (b : Int)) (ha : a ≤ b) (hb : b ≤ xs.length) : cutV xs (some lo) (some hi) = (xs.drop a).take (b - a) := by
  subst h1 h2
  unfold cutV
  rw [show HT.sIx xs.length 0 (some (a : Int)) = min a xs.length from HT.sIx_nat _ _ _, show HT.sIx xs.length xs.length (some (b : Int)) = min b xs.length from HT.sIx_nat _ _ _, Nat.min_eq_left hb, Nat.min_eq_left (Nat.le_trans ha hb)]
theorem cutV_to {xs : List V} {hi : Int} {b : Nat} (h : hi = (b : Int)) : cutV xs none (some hi) = xs.take b := by
  subst h
  unfold cutV
  rw [show HT.sIx xs.length 0 none = 0 from HT.sIx_none _ _, show HT.sIx xs.length xs.length (some (b : Int)) = min b xs.length from HT.sIx_nat _ _ _]
  show (xs.drop 0).take (min b xs.length - 0) = _
  rw [List.drop_zero, Nat.sub_zero]
  by_cases h : b ≤ xs.length
  · rw [Nat.min_eq_left h]
  · rw [Nat.min_eq_right (by omega), List.take_of_length_le (Nat.le_refl _), List.take_of_length_le (by omega)]
theorem cutV_from {xs : List V} {lo : Int} {a : Nat} (h : lo = (a : Int)) : cutV xs (some lo) none = xs.drop a := by
  subst h
  unfold cutV
  rw [show HT.sIx xs.length xs.length none = xs.length from HT.sIx_none _ _, show HT.sIx xs.length 0 (some (a : Int)) = min a xs.length from HT.sIx_nat _ _ _]
  by_cases h : a ≤ xs.length
  · rw [Nat.min_eq_left h, List.take_of_length_le (by rw [List.length_drop]; omega)]
  · rw [Nat.min_eq_right (by omega), List.drop_eq_nil_of_le (Nat.le_refl _), List.drop_eq_nil_of_le (by omega), List.take_nil]
theorem atI_int {ns : List Int} {i : Int} {j : Nat} (e : i = (j : Int)) (h : j < ns.length) : atI (ns.map V.int) i = some (.int (ns.getD j 0)) := by
  subst e
  refine atI_nat ?_
  rw [List.getElem?_map, List.getElem?_eq_getElem h, List.getD_eq_getElem?_getD, List.getElem?_eq_getElem h]
  rfl
section
variable {X : Cx}
/-- a sign n times -/
theorem rep_fold (c : Nat) : ∀ (n : Nat) (acc : Array Nat), (List.replicate n #[c]).foldl (· ++ ·) acc = acc ++ (List.replicate n c).toArray
  | 0, acc => by simp
  | n + 1, acc => by
    rw [List.replicate_succ, List.foldl_cons, rep_fold c n, List.replicate_succ]
    apply Array.ext'
    simp
theorem op_mul_sign : OpR X (binaryOp .Mult) (fun x y H Q => ∃ (c : Nat) (n : Int), x = .str ⟨#[c]⟩ ∧ y = .int n ∧ 1 ≤ n ∧ n ≤ 1000 ∧ Q (.str ⟨(List.replicate n.toNat c).toArray⟩) H) := by
  intro pins s σ H x y v u Q I rx ry h
  obtain ⟨c, n, rfl, rfl, h1, h2, q⟩ := h
  obtain ⟨t, rfl⟩ := rx
  obtain ⟨t', rfl⟩ := ry
  have z : ∀ k : Nat, k ≤ 1000 → k ≤ sizeLine := fun k h => Nat.le_of_lt (small1000 h)
  refine P.mul_str ?_ (fun _ _ => ?_) (fun _ _ => ?_) ?_
  · have a1 : ¬ n < -(2 ^ 63 : Int) := by omega
    have a2 : ¬ n ≥ 2 ^ 63 := by omega
    rw [decide_eq_false a1, decide_eq_false a2]
    rfl
  · have e1 : ((Str.length ⟨#[c]⟩ : Nat) : Int) = 1 := rfl
    rw [e1]
    have : (1 : Int) ≤ (2 ^ 63 - 1) / n := by
      rw [Int.le_ediv_iff_mul_le (by omega)]
      omega
    omega
  · show decide ((Str.length ⟨#[c]⟩) * n.toNat > sizeLine) = false
    have := z n.toNat (by omega)
    have e1 : Str.length ⟨#[c]⟩ = 1 := rfl
    rw [e1]
    exact decide_eq_false (by omega)
  · rw [if_neg (by omega)]
    by_cases e : (n == 1 || Str.length ⟨#[c]⟩ == 0) = true
    · rw [if_pos e]
      have en : n = 1 := by
        simp at e
        rcases e with e | e
        · exact e
        · cases e
      subst en
      exact ⟨.str ⟨#[c]⟩, H, I, ⟨t, rfl⟩, q⟩
    · rw [if_neg e]
      have er : (List.replicate n.toNat (#[c] : Array Nat)).foldl (· ++ ·) #[] = (List.replicate n.toNat c).toArray := by
        rw [rep_fold]
        simp
      refine ⟨?_, ?_⟩
      · show Str.length ⟨(List.replicate n.toNat (#[c] : Array Nat)).foldl (· ++ ·) #[]⟩ ≤ sizeLine
        rw [er]
        show (List.replicate n.toNat c).toArray.size ≤ sizeLine
        rw [List.size_toArray, List.length_replicate]
        exact z _ (by omega)
      · show _
        rw [er]
        exact ⟨.str ⟨(List.replicate n.toNat c).toArray⟩, H, I.tok _, ⟨_, rfl⟩, q⟩
end

/-! ### the rules with the written part named -/
section
variable {X : Cx} {K : PySem.W.Frag}
theorem bmK {e : Expr} {T : String} {r : V → List V → Hp → VK → Prop} {to_ : TE} {t : TA} (h : PE X e (tBM X.K T r to_ t)) (hK : X.K = K := by rfl) : PE X e (tBM K T r to_ t) := by subst hK; exact h
theorem bm0K {e : Expr} {T : String} {r : V → List V → Hp → VK → Prop} {to_ : TE} (h : PE X e (tBM0 X.K T r to_)) (hK : X.K = K := by rfl) : PE X e (tBM0 K T r to_) := by subst hK; exact h
theorem fldK {e : Expr} {ta : TE} {f : Str} (h : PE X e (tFld X.K ta f)) (hK : X.K = K := by rfl) : PE X e (tFld K ta f) := by subst hK; exact h
theorem sfldK {e : Stmt} {ta tv : TE} {f : Str} (h : PS X e (sFld X.K ta tv f)) (hK : X.K = K := by rfl) : PS X e (sFld K ta tv f) := by subst hK; exact h
theorem gtupK {e : Expr} {n : Nat} {t : TGs} (h : PG X e (gTup X.K n t)) (hK : X.K = K := by rfl) : PG X e (gTup K n t) := by subst hK; exact h
theorem gunlK {e : Expr} {n : Nat} {t : TGs} (h : PG X e (gUnl X.K n t)) (hK : X.K = K := by rfl) : PG X e (gUnl K n t) := by subst hK; exact h
theorem ilistK {tg l : Expr} {tl : TE} (h : PI X tg l (iList X.K tl)) (hK : X.K = K := by rfl) : PI X tg l (iList K tl) := by subst hK; exact h
theorem itupK {tg l : Expr} {tl : TE} (h : PI X tg l (iTup X.K tl)) (hK : X.K = K := by rfl) : PI X tg l (iTup K tl) := by subst hK; exact h
theorem ienumK {tg l : Expr} {tl : TA} (h : PI X tg l (iEnum X.K tl)) (hK : X.K = K := by rfl) : PI X tg l (iEnum K tl) := by subst hK; exact h
theorem izipK {tg l : Expr} {tl : TA} (h : PI X tg l (iZip X.K tl)) (hK : X.K = K := by rfl) : PI X tg l (iZip K tl) := by subst hK; exact h
theorem ix_listK (hK : X.K = K := by rfl) : IxR X (rIxL K) := by subst hK; exact ix_list
theorem ix_tupK (hK : X.K = K := by rfl) : IxR X (rIxT K) := by subst hK; exact ix_tup
theorem sl_listK (hK : X.K = K := by rfl) : SlR X (rSlL K) := by subst hK; exact sl_list
theorem sl_tupK (hK : X.K = K := by rfl) : SlR X (rSlA K) := by subst hK; exact sl_tupA
theorem op_inK (hK : X.K = K := by rfl) : OpR X (compareOp .In) (rIn K false) := by subst hK; exact op_in_seq
theorem op_notInK (hK : X.K = K := by rfl) : OpR X (compareOp .NotIn) (rIn K true) := by subst hK; exact op_notIn_seq
theorem op_eqK (hu : X.A.units + 64 < cLine) (hK : X.K = K := by rfl) : OpR X (compareOp .Eq) (rEqD K) := by subst hK; exact op_eqD hu
theorem op_neK (hu : X.A.units + 64 < cLine) (hK : X.K = K := by rfl) : OpR X (compareOp .NotEq) (rNeD K) := by subst hK; exact op_neD hu
theorem op_catTK (hK : X.K = K := by rfl) : OpR X (binaryOp .Add) (rCatA K) := by subst hK; exact op_catA
/-- len of a list or a tuple -/
def rLenK (K : PySem.W.Frag) : List V → Hp → VK → Prop := fun xs H Q => ∃ p ys, xs = [.ref p] ∧ (SqL K H p ys ∨ SqT K H p ys) ∧ Q (.int ys.length) H
theorem call_lenK (hK : X.K = K := by rfl) : CallR X (.builtin "len") (rLenK K) := by subst hK; exact call_len_seq
theorem cr_anyIK (hc : X.calm = true) (hK : X.K = K := by rfl) : CallR X (.builtin "any") (rAnyI K) := by subst hK; exact cr_anyI hc
theorem cr_anyK (hc : X.calm = true) (hK : X.K = K := by rfl) : CallR X (.builtin "any") (rAny K) := by subst hK; exact cr_any hc
theorem cr_allK (hc : X.calm = true) (hK : X.K = K := by rfl) : CallR X (.builtin "all") (rAll K) := by subst hK; exact cr_all hc
theorem call_isiK (hK : X.K = K := by rfl) : CallR X (.builtin "isinstance") (rIsi K) := by subst hK; exact call_isi
/-- sep.join(xs) -/
def rJoinK (K : PySem.W.Frag) : V → List V → Hp → VK → Prop := fun x xs H Q => ∃ a p, ∃ ys : List Str, x = .str a ∧ xs = [.ref p] ∧ (SqL K H p (ys.map V.str) ∨ SqT K H p (ys.map V.str)) ∧ (ys.map (·.length)).sum + ys.length * a.length ≤ 16777216 ∧ Q (.str (Txt.join a ys)) H
theorem joinK {e : Expr} {to_ te : TE} (h : PE X e (tM1 (rJoinK X.K) to_ te)) (hK : X.K = K := by rfl) : PE X e (tM1 (rJoinK K) to_ te) := by subst hK; exact h
/-- truth of any value -/
def tTruK (K : PySem.W.Frag) (ta : TE) : TT := fun σ H Q => ta σ H fun x H' => ∃ k, TruV K x H' k ∧ Q k H'
theorem truK {e : Expr} {ta : TE} (h : PT X e (tTruK X.K ta)) (hK : X.K = K := by rfl) : PT X e (tTruK K ta) := by subst hK; exact h
/-- list(xs), tuple(xs) -/
def rListOfK (K : PySem.W.Frag) : List V → Hp → VK → Prop := fun xs H Q => ∃ p ys, xs = [.ref p] ∧ (SqL K H p ys ∨ SqT K H p ys) ∧ ∀ l, H l = none → Q (.ref l) (upd H l (.lst ys))
theorem call_listK (hK : X.K = K := by rfl) : CallR X (.type "list") (rListOfK K) := by subst hK; exact call_list_of
end
theorem small100k {n : Nat} (h : n ≤ 100000) : n < sizeLine := Nat.lt_of_le_of_lt h (by decide)
/-! ### data of any depth -/
def Sh (n : Nat) (d : PyData) : Prop := d.canLay0 = true ∧ d.depth ≤ n
theorem sh_int {n : Nat} (i : Int) : Sh n (.int i) := ⟨rfl, Nat.zero_le _⟩
theorem sh_non {n : Nat} : Sh n .none := ⟨rfl, Nat.zero_le _⟩
theorem sh_bool {n : Nat} (b : Bool) : Sh n (.bool b) := ⟨rfl, Nat.zero_le _⟩
theorem sh_str {n : Nat} {z : Str} (h : ∀ c ∈ z.cps.toList, c < 0x110000) : Sh n (.str z) := by
  refine ⟨?_, Nat.zero_le _⟩
  show z.cps.all (· < 0x110000) = true
  rw [← Array.all_toList, List.all_eq_true]
  intro c hc
  exact decide_eq_true (h c hc)
theorem sh_all {n : Nat} : ∀ {ds : List PyData}, (∀ d ∈ ds, Sh n d) → PyData.canLayAll0 ds = true ∧ PyData.depthAll ds ≤ n
  | [], _ => ⟨rfl, Nat.zero_le _⟩
  | d :: ds, h => by
    obtain ⟨a, b⟩ := h d List.mem_cons_self
    obtain ⟨c, e⟩ := sh_all (ds := ds) fun x hx => h x (List.mem_cons_of_mem _ hx)
    refine ⟨?_, ?_⟩
    · show (d.canLay0 && PyData.canLayAll0 ds) = true
      rw [a, c]
      rfl
    · show max d.depth (PyData.depthAll ds) ≤ n
      omega
theorem sh_list {n : Nat} {ds : List PyData} (h : ∀ d ∈ ds, Sh n d) : Sh (n + 1) (.list ds) := ⟨(sh_all h).1, by show PyData.depthAll ds + 1 ≤ n + 1; have := (sh_all h).2; omega⟩
theorem sh_tuple {n : Nat} {ds : List PyData} (h : ∀ d ∈ ds, Sh n d) : Sh (n + 1) (.tuple ds) := ⟨(sh_all h).1, by show PyData.depthAll ds + 1 ≤ n + 1; have := (sh_all h).2; omega⟩
theorem Sh.shaped {n : Nat} {d : PyData} (h : Sh n d) (hn : n ≤ 64) : SeqAt.shaped d = true := by
  unfold SeqAt.shaped
  rw [h.1, decide_eq_true (Nat.le_trans h.2 hn)]
  rfl
theorem Sh.eqv {n : Nat} {d : PyData} (h : Sh n d) : PyData.eqv d d = true := SeqAt.eqv_refl d h.1
theorem sh_ints {n : Nat} (ns : List Int) : Sh (n + 1) (.list (ns.map .int)) := sh_list fun d hd => by
  obtain ⟨i, _, rfl⟩ := List.mem_map.mp hd
  exact sh_int i
theorem dpAll_ints {K : PySem.W.Frag} {H : Hp} : ∀ ns : List Int, DpAll K H (ns.map V.int) (ns.map .int)
  | [] => .nil
  | n :: ns => .cons (.int n) (dpAll_ints ns)
theorem dp_ints {K : PySem.W.Frag} {H : Hp} {a : Addr} {ns : List Int} (h : SqL K H a (ns.map V.int)) : Dp K H (.ref a) (.list (ns.map .int)) := .lst h (dpAll_ints ns)
theorem dpAll_refs {K : PySem.W.Frag} {H : Hp} : ∀ {as : List Addr} {ds : List PyData}, as.length = ds.length → (∀ (i : Nat) a d, as[i]? = some a → ds[i]? = some d → Dp K H (.ref a) d) → DpAll K H (as.map V.ref) ds
  | [], [], _, _ => .nil
  | [], _ :: _, h, _ => by simp at h
  | _ :: _, [], h, _ => by simp at h
  | a :: as, d :: ds, h, f => .cons (f 0 a d rfl rfl) (dpAll_refs (by simpa using h) fun i x y hx hy => f (i + 1) x y (by simpa using hx) (by simpa using hy))
theorem ne_f {n : Nat} {d : PyData} (s : Sh n d) : V.bl (!PyData.eqv d d) = V.bl false := by rw [s.eqv]; rfl
theorem eq_t {n : Nat} {d : PyData} (s : Sh n d) : V.bl (PyData.eqv d d) = V.bl true := by rw [s.eqv]

/-! ### expressions that make a list, whatever stands -/
def MkL (te : TE) (σ : L2.St) (xs : List V) : Prop := ∀ (H : Hp) (Q : VK), (∀ (p : Addr) (H' : Hp), Same H H' → H p = none → H' p = some (.lst xs) → Q (.ref p) H') → te σ H Q
theorem mk_lst {ta : TA} {σ : L2.St} {vs : List V} (h : ∀ (H : Hp) (Q : List V → Hp → Prop), Q vs H → ta σ H Q) (hl : vs.length ≤ sizeLine) : MkL (tLst ta) σ vs := fun H Q q =>
  h H _ ⟨hl, fun p hp => q p _ (nws hp (Same.refl H)) hp upd_same⟩
theorem mk_rep {ta tb : TE} {σ : L2.St} {vs : List V} {k : Nat} (h : MkL ta σ vs) (hb : ∀ (H : Hp) (Q : VK), Q (.int k) H → tb σ H Q) (hl : vs.length * k ≤ sizeLine) (hk : k < 2 ^ 62) : MkL (tOp rRep ta tb) σ (List.replicate k vs).flatten := fun H Q q =>
  h H _ fun p H1 s n c => hb H1 _ ⟨p, k, vs, rfl, rfl, c, by omega, by omega, by rw [Int.toNat_natCast]; exact hl, fun p2 h2 => q p2 _ (nws h2 s) (s.free h2) (by rw [Int.toNat_natCast]; exact upd_same)⟩
theorem mk_cat {ta tb : TE} {σ : L2.St} {vs ws : List V} (ha : MkL ta σ vs) (hb : MkL tb σ ws) (hl : vs.length + ws.length ≤ sizeLine) : MkL (tOp rCat ta tb) σ (vs ++ ws) := fun H Q q =>
  ha H _ fun p H1 s n c => hb H1 _ fun p2 H2 s2 n2 c2 => ⟨p, p2, vs, ws, rfl, rfl, s2 _ _ c, c2, hl, fun p3 h3 => q p3 _ (nws h3 (s.trans s2)) ((s.trans s2).free h3) upd_same⟩
theorem bl_same {a b : Bool} (h : a = b) : V.bl (!decide (V.bl a = V.bl b)) = V.bl false := by
  subst h
  rw [decide_eq_true rfl]
  rfl

section
open PySem PySem.Spec PyProof.Rows L2
variable {P : Program} {w : World} {K : PySem.W.Frag} {mg : Str → Option Value} {base : Heap}
/-! ### repr of data -/
structure Sr (n m : Nat) (d : PyData) : Prop where
  sh : Sh n d
  wt : PyData.weight d ≤ m
  sm : PyData.intsShort 13 d = true
  sw : d.showable = true
  nd : d.hasDict = false
theorem Sr.mono {n m n' m' : Nat} {d : PyData} (h : Sr n m d) (h1 : n ≤ n') (h2 : m ≤ m') : Sr n' m' d := ⟨⟨h.sh.1, Nat.le_trans h.sh.2 h1⟩, Nat.le_trans h.wt h2, h.sm, h.sw, h.nd⟩
theorem log2_lt {n k : Nat} (h : n < 2 ^ k) (hk : 0 < k) : n.log2 < k := by
  by_cases e : n = 0
  · subst e
    exact hk
  · exact (Nat.log2_lt e).mpr h
theorem sr_int {n : Nat} {i : Int} (h : i.natAbs < 10 ^ 12) : Sr n 40 (.int i) := by
  have hl : i.natAbs.log2 < 40 := log2_lt (Nat.lt_of_lt_of_le h (by decide)) (by decide)
  refine ⟨sh_int i, ?_, ?_, ?_, rfl⟩
  · show (if i == 0 then 0 else i.natAbs.log2 + 1) ≤ 40
    split <;> omega
  · have := PyData.intsShortAll_ints [i] (fun x hx => by rw [List.mem_singleton.mp hx]; exact h)
    simpa [PyData.intsShortAll] using this
  · exact decide_eq_true (by omega)
theorem sr_non {n : Nat} : Sr n 0 .none := ⟨sh_non, Nat.le_refl _, rfl, rfl, rfl⟩
theorem sr_bool {n : Nat} (b : Bool) : Sr n 0 (.bool b) := ⟨sh_bool b, Nat.le_refl _, rfl, rfl, rfl⟩
theorem sr_str {n : Nat} {z : Str} (h : ∀ c ∈ z.cps.toList, c < 0x110000) : Sr n z.length (.str z) := ⟨sh_str h, Nat.le_refl _, rfl, rfl, rfl⟩
theorem sr_all {n m : Nat} : ∀ {ds : List PyData}, (∀ d ∈ ds, Sr n m d) → PyData.weightAll ds ≤ ds.length * (m + 1) ∧ PyData.intsShortAll 13 ds = true ∧ PyData.showableAll ds = true ∧ PyData.hasDictAll ds = false
  | [], _ => ⟨Nat.zero_le _, rfl, rfl, rfl⟩
  | d :: ds, h => by
    have h1 := h d List.mem_cons_self
    obtain ⟨a, b, c, e⟩ := sr_all (ds := ds) fun x hx => h x (List.mem_cons_of_mem _ hx)
    refine ⟨?_, ?_, ?_, ?_⟩
    · show d.weight + 1 + PyData.weightAll ds ≤ (ds.length + 1) * (m + 1)
      have := h1.wt
      rw [Nat.succ_mul]
      omega
    · show (PyData.intsShort 13 d && PyData.intsShortAll 13 ds) = true
      rw [h1.sm, b]
      rfl
    · show (d.showable && PyData.showableAll ds) = true
      rw [h1.sw, c]
      rfl
    · show (d.hasDict || PyData.hasDictAll ds) = false
      rw [h1.nd, e]
      rfl
theorem sr_list {n m L : Nat} {ds : List PyData} (h : ∀ d ∈ ds, Sr n m d) (hl : ds.length ≤ L) : Sr (n + 1) (L * (m + 1)) (.list ds) := by
  obtain ⟨a, b, c, e⟩ := sr_all h
  exact ⟨sh_list fun d hd => (h d hd).sh, Nat.le_trans a (Nat.mul_le_mul_right _ hl), b, c, e⟩
theorem sr_tuple {n m L : Nat} {ds : List PyData} (h : ∀ d ∈ ds, Sr n m d) (hl : ds.length ≤ L) : Sr (n + 1) (L * (m + 1)) (.tuple ds) := by
  obtain ⟨a, b, c, e⟩ := sr_all h
  exact ⟨sh_tuple fun d hd => (h d hd).sh, Nat.le_trans a (Nat.mul_le_mul_right _ hl), b, c, e⟩
theorem sr_ints {L : Nat} {ns : List Int} (h : ∀ i ∈ ns, i.natAbs < 10 ^ 12) (hl : ns.length ≤ L) : Sr 1 (L * 41) (.list (ns.map .int)) := sr_list (n := 0) (fun d hd => by
  obtain ⟨i, hi, rfl⟩ := List.mem_map.mp hd
  exact sr_int (h i hi)) (by rw [List.length_map]; exact hl)
theorem Sr.fits {n m : Nat} {d : PyData} (h : Sr n m d) (hn : n ≤ 60) (hm : m ≤ 2 ^ 20) : d.shown.length ≤ sizeLine := by
  refine PyData.shown_fits_of_layable0 (B := 13) (by decide) (by decide) ?_ h.sm
  show (d.canLay0 && decide (d.depth ≤ 64) && decide (d.weight ≤ 2 ^ 20)) = true
  rw [h.sh.1, decide_eq_true (Nat.le_trans h.sh.2 (by omega)), decide_eq_true (Nat.le_trans h.wt hm)]
  rfl
section
variable {X : Cx} {K : PySem.W.Frag}
def rReprD (K : PySem.W.Frag) : List V → Hp → VK → Prop := fun xs H Q => ∃ (x : V) (d : PyData) (n m : Nat), xs = [x] ∧ Dp K H x d ∧ Sr n m d ∧ n ≤ 60 ∧ m ≤ 2 ^ 20 ∧ Q (.str d.shown) H
theorem call_repr (hr : X.A.guards = some [] ∧ X.A.units + 64 < cLine) (hK : X.K = K := by rfl) : CallR X (.builtin "repr") (rReprD K) := by
  subst hK
  intro pins s σ H xs us Q I r h
  obtain ⟨x, d, n, m, rfl, dp, sr, hn, hm, q⟩ := h
  obtain ⟨u, rfl, ru⟩ := vals1 r
  have hz := sr.fits hn hm
  have hd := sr.sh.2
  obtain ⟨as, rd⟩ := Dp.reads I d x u dp ru
  have done : ∀ a, u = .ref a → wpAny (model X.prog X.w) X.A (call (.builtin "repr") [u]) (EP X pins σ Q) X.xe s := fun a e => by
    subst e
    refine repr_of_reads' rd sr.sw (PyData.noDict_hsm sr.nd) hr.1 (by have := hr.2; omega) (fun b o e => e) (fun h' u tk hk => ?_) hz
    exact ⟨.str d.shown, H, I.kept (t' := tk) hk, ⟨u, rfl⟩, q⟩
  cases dp with
  | non =>
    cases (show u = Value.none from ru)
    exact PySem.P.repr_of_none ⟨.str _, H, I.tok _, ⟨_, rfl⟩, q⟩
  | bl b =>
    cases (show u = Value.bool b from ru)
    exact PySem.P.repr_of_bool ⟨.str _, H, I.tok _, ⟨_, rfl⟩, q⟩
  | int i =>
    obtain ⟨t, e⟩ := (show ∃ t, u = Value.int i t from ru)
    cases e
    exact PySem.P.repr_of_int (of_decide_eq_true sr.sw) ⟨.str _, H, I.tok _, ⟨_, rfl⟩, q⟩
  | str z =>
    obtain ⟨t, e⟩ := (show ∃ t, u = Value.str z t from ru)
    cases e
    exact PySem.P.repr_of_str ⟨.str _, H, I.tok _, ⟨_, rfl⟩, q⟩ hz
  | lst _ _ => exact done _ ru
  | tup _ _ => exact done _ ru
end

end
section
open PySem PySem.Spec PyProof.Rows L2
variable {P : Program} {w : World} {K : PySem.W.Frag} {mg : Str → Option Value} {base : Heap}
/-! ### list.extend of a tuple -/
set_option maxRecDepth 8000 in
theorem meets_extT (l : Addr) (xs : Array Value) (n : Nat) (b : Addr) (ys : Array Value) (m : Nat) (dd : Option Addr) (sl : Array (Option Value)) (h0 : ¬(!xs.isEmpty && Builtin.List.listTooLong (xs.size + ys.size)) = true) (h1 : xs.size ≤ sizeLine)
    (h2 : xs.size + ys.size ≤ sizeLine + 1) : Meets (Builtin.«list.extend» ⟨[.ref l, .ref b], []⟩) (fun _ R s => s.heap.get? l = some { cls := .type "list", dict := none, data := .seq xs n, slots := #[] } ∧
      s.heap.get? b = some { cls := .type "tuple", dict := dd, data := .seq ys m, slots := sl } ∧ R (.ok (.ret Value.none)) { s with heap := s.heap.update l (Obj.mapSeq fun x => x ++ ys), toks := s.toks }) := by
  refine .of_wp fun prog w A R s h => ?_
  obtain ⟨hp, gs, dr, tk, os⟩ := s
  obtain ⟨hl, hb, q⟩ := h
  have g1 := AutoSeq1.idx_int
  have g2 := AutoSeq1.sub_tuple_tuple
  have g3 := AutoSeq1.sub_list_list
  have g4 := AutoSeq1.sub_tuple_list
  have g5 := AutoSeq1.sub_list_tuple
  have hz : (xs ++ ys).size ≤ sizeLine + 1 := by rw [Array.size_append]; exact h2
  wp_walk using (wpAny_updateSeq hl rfl (hz := h1) (_hz' := hz)), AutoSeq1.wpAny_loadPart' hl, AutoSeq1.wpAny_loadPart' hb
  exact ⟨_, rfl, q⟩
section
variable {X : Cx} {K : PySem.W.Frag}
def rExtT (K : PySem.W.Frag) : V → List V → Hp → VK → Prop := fun x vs H Q => ∃ l b xs zs, x = .ref l ∧ vs = [.ref b] ∧ H l = some (.lst xs) ∧ SqT K H b zs ∧ xs.length + zs.length ≤ sizeLine ∧ Q .non (upd H l (.lst (xs ++ zs)))
theorem mt_extT (hK : X.K = K := by rfl) : MtM X "list.extend" (rExtT K) := by
  subst hK
  intro pins s σ H x vs v us Q I rx rv h
  obtain ⟨l, b, xs, zs, rfl, rfl, hH, hB, hz, q⟩ := h
  cases rx
  obtain ⟨u, rfl, ru⟩ := rv.one
  cases ru
  obtain ⟨_, its, n, r, hl, e⟩ := I.lstM hH
  obtain ⟨ys, r2, ⟨o, e2, hc, m, hd⟩, _⟩ := I.tuple hB
  have hl2 := r2.length
  obtain ⟨cls, dd, data, sl⟩ := o
  obtain rfl : cls = .type "tuple" := hc
  obtain rfl : data = .seq ys.toArray m := hd
  have hsz : its.toArray.size + ys.toArray.size ≤ sizeLine := by rw [List.size_toArray, List.size_toArray]; omega
  have ok : ¬ (!its.toArray.isEmpty && Builtin.List.listTooLong (its.toArray.size + ys.toArray.size)) = true := by
    rw [notLongL hsz, Bool.and_false]
    exact Bool.false_ne_true
  refine call_meets F.slot_list_extend ⟨_, e, rfl⟩ F.entry_list_extend (F.args_list_extend_2 _ _) (meets_extT l its.toArray n b ys.toArray m dd sl ok (by rw [List.size_toArray]; omega) (by omega)) ⟨e, e2, ?_⟩
  exact ⟨.non, _, I.lset (its' := its ++ ys) hH e (by simp) (r.append r2) (by rw [List.length_append]; omega), rfl, q⟩
end
/-! ### sorted of a dict whose keys are pairs of ints -/
section
variable {X : Cx}
theorem pairedGet {α β : Type} {F : α → β → Prop} : ∀ {l : List α} {m : List β} {j : Nat} {x : α}, Paired F l m → l[j]? = some x → ∃ y, m[j]? = some y ∧ F x y
  | _, _, _, _, .nil, h => by simp at h
  | _, _, 0, _, .cons r _, h => ⟨_, rfl, by cases Option.some.inj h; exact r⟩
  | _, _, j + 1, x, .cons _ t, h => pairedGet (j := j) (x := x) t (by simpa using h)
def keyP (k : List L2.Key) : Int × Int := match k with
  | [.inl a, .inl b] => (a, b)
  | _ => (0, 0)
/-- the keys are pairs of ints; the new list: their tuples, rising -/
def rSortDT : List V → Hp → VK → Prop := fun vs H Q => ∃ (d : Addr) (kvs : List (List L2.Key × V)), vs = [V.ref d] ∧ Rd H d (.dT kvs) ∧ (∀ kv ∈ kvs, ∃ a b : Int, kv.1 = [.inl a, .inl b]) ∧
  ∀ (bs : List (Addr × (Int × Int))) (p : Addr), (bs.map (·.2)).Perm (kvs.map fun kv => keyP kv.1) → bs.Pairwise (fun x y => SrtO.lexB y.2 x.2 = false) → (∀ x ∈ bs, H x.1 = some (.tup [.int x.2.1, .int x.2.2])) → H p = none → Q (.ref p) (upd H p (.lst (bs.map fun x => V.ref x.1)))
theorem cr_sortDT (hc : X.calm = true) : CallR X (.builtin "sorted") rSortDT := by
  intro pins s σ H xs us Q I r h
  obtain ⟨d, kvs, rfl, hd, hk, q⟩ := h
  obtain ⟨u, rfl, rx⟩ := vals1 r
  cases rx
  obtain ⟨z, hs, ks, pr, o, es, ep, ho, hx, hdt, he, hn⟩ := (show ObjOk X.prog X.w H s.heap d (.dT kvs) from hd.ok I.hok)
  have l1 : es.size = ks.length := by
    have := congrArg List.length he
    rw [Array.length_toList, List.length_map] at this
    exact this
  have l2 : kvs.length = ks.length := Paired.length pr
  have get : ∀ (j : Nat) (q : List L2.Key × Addr × Value), ks[j]? = some q → ∃ v, kvs[j]? = some (q.1, v) ∧ H q.2.1 = some (.tup (q.1.map kV)) := by
    intro j x hj
    have hjl : j < kvs.length := by have := (List.getElem?_eq_some_iff.mp hj).1; omega
    obtain ⟨y, hy, e1, e2, _⟩ := pairedGet pr (List.getElem?_eq_getElem hjl)
    cases hj.symm.trans hy
    exact ⟨kvs[j].2, by rw [List.getElem?_eq_getElem hjl, ← e1], by rw [← e1]; exact e2⟩
  let kf : Value → Int × Int := fun v => match v with
    | .ref a => (match H a with | some (.tup [.int x, .int y]) => (x, y) | _ => (0, 0))
    | _ => (0, 0)
  refine Calls.call_function_entry PyProof.Rows.kind_sorted PyProof.Rows.plain_sorted PyProof.Rows.entry_sorted (PyProof.Rows.args_sorted1 _) ?_
  unfold Builtin.«sorted»
  refine wpAny_bind (m := checkCount "sorted" 1 1 _) (wpAny_pure ?_)
  refine wpAny_bind (PySem.W.kdu_collect (A := X.A.in1) (kdl_raw hs hx hdt) (I.ok.hd hc) ho (by omega) fun h' tk acc kp it => ?_)
  have ea : acc.toList = ks.map fun x => Value.ref x.2.1 := by
    have hl : acc.toList.length = ks.length := by rw [Array.length_toList, it.1]; exact l1
    apply List.ext_getElem?
    intro j
    rw [List.getElem?_map]
    cases hj : acc.toList[j]? with
    | none => rw [List.getElem?_eq_none (by rw [← hl]; exact List.getElem?_eq_none_iff.mp hj)]; rfl
    | some v =>
      obtain ⟨en, hen, hv⟩ := it.2 j v (by rw [← Array.getElem?_toList]; exact hj)
      have qe : es.toList[j]? = some en := by rw [Array.getElem?_toList]; exact hen
      rw [he, List.getElem?_map] at qe
      cases hb : ks[j]? with
      | none => rw [hb] at qe; cases qe
      | some b =>
        rw [hb] at qe
        have e2 := Option.some.inj qe
        rw [hv, ← e2]
        rfl
  have I1 : Inv X pins σ H { s with heap := h', toks := tk } := I.kept kp
  have hal : acc.toList.length = ks.length := by rw [ea, List.length_map]
  have hzs : acc.toList.length ≤ sizeLine := by rw [hal, ← l2]; exact z
  -- each collected key: its tuple of two ints
  have keyAt : ∀ v ∈ acc.toList, ∃ (a : Addr) (x y : Int), v = .ref a ∧ H a = some (.tup [.int x, .int y]) := fun v hv => by
    rw [ea] at hv
    obtain ⟨b, hb, rfl⟩ := List.mem_map.mp hv
    obtain ⟨j, hj⟩ := List.getElem?_of_mem hb
    obtain ⟨w', hw, hH⟩ := get j b hj
    obtain ⟨x, y, e⟩ := hk _ (List.mem_of_getElem? hw)
    have e : b.1 = [.inl x, .inl y] := e
    rw [e] at hH
    exact ⟨b.2.1, x, y, rfl, hH⟩
  have kfAt : ∀ {a : Addr} {x y : Int}, H a = some (.tup [.int x, .int y]) → kf (.ref a) = (x, y) := fun {a x y} e => by
    show (match H a with | some (.tup [.int x, .int y]) => (x, y) | _ => (0, 0)) = _
    rw [e]
  refine wpAny_bind (wpAny_newList ?_ hzs)
  have hoL : (h'.push (seqObj "list" acc.toList.toArray 0)).get? h'.objs.size = some (seqObj "list" acc.toList.toArray 0) := Heap.get?_push_size _ rfl
  show wpAny _ _ _ _ _ { s with heap := h'.push (seqObj "list" acc.toList.toArray 0), toks := tk }
  have pairs : ∀ v ∈ acc.toList, Srt.IsPair (h'.push (seqObj "list" acc.toList.toArray 0)) v (kf v).1 (kf v).2 := fun v hv => by
    obtain ⟨a, x, y, rfl, hH⟩ := keyAt v hv
    rw [kfAt hH]
    obtain ⟨_, its, r2, o2, ho2, hc2, n2, hd2⟩ := I1.hok _ _ hH
    obtain ⟨u1, u2, rfl, ri, rj⟩ := vals2 r2
    obtain ⟨t1, rfl⟩ := ri
    obtain ⟨t2, rfl⟩ := rj
    exact ⟨a, o2, t1, t2, n2, rfl, Heap.get?_push_of_some _ ho2, hc2, hd2⟩
  refine wpAny_bind (wpAny_holding (wpAny_call_entry PyProof.Rows.slot_list_sort ⟨_, hoL, rfl⟩ PyProof.Rows.entry_list_sort (SrtO.list_sort_ord (SrtO.swo_lex kf) hoL hzs
    (fun h2 => SrtO.pairs_sortableO (by omega) pairs fun o e => ?_) fun out hs1 hb1 => ⟨_, rfl, ?_⟩) (PyProof.Rows.args_list_sort _)))
  · have e' : some o = some (seqObj "list" acc.toList.toArray 0) := e.symm.trans hoL
    cases e'
    intro c
    exact absurd (Value.type.inj c) (by decide)
  · have mem : ∀ v ∈ out, v ∈ acc.toList := fun v hv => hb1.perm.mem_iff.mp hv
    obtain ⟨e', he'⟩ := PyProof.Rows.sortedHeap_at (vs := acc.toList) (out := out.toArray) hoL
    let adr : Value → Addr := fun v => match v with | .ref a => a | _ => 0
    have back : out.map (fun v => Value.ref (adr v)) = out := by
      conv => rhs; rw [← List.map_id out]
      refine List.map_congr_left fun v hv => ?_
      obtain ⟨a, x, y, rfl, _⟩ := keyAt v (mem v hv)
      rfl
    have rv : Vals ((out.map fun v => (adr v, kf v)).map fun x => V.ref x.1) out := by
      rw [List.map_map]
      have : ∀ l : List Value, (∀ v ∈ l, ∃ a, v = Value.ref a) → Vals (l.map ((fun x : Addr × (Int × Int) => V.ref x.1) ∘ fun v => (adr v, kf v))) l := fun l => by
        induction l with
        | nil => exact fun _ => .nil
        | cons v l ih =>
          intro hl
          obtain ⟨a, rfl⟩ := hl v List.mem_cons_self
          exact .cons rfl (ih fun x hx => hl x (List.mem_cons_of_mem _ hx))
      exact this out fun v hv => by
        obtain ⟨a, _, _, e, _⟩ := keyAt v (mem v hv)
        exact ⟨a, e⟩
    have hlen : ((out.map fun v => (adr v, kf v)).map fun x => V.ref x.1).length ≤ sizeLine := by
      rw [List.length_map, List.length_map, hb1.perm.length_eq]
      exact hzs
    refine wpAny_pure ⟨_, rfl, .ref h'.objs.size, upd H h'.objs.size (.lst ((out.map fun v => (adr v, kf v)).map fun x => V.ref x.1)), I1.laid (t' := tk) (fun b u e => ?_) (Nat.le_refl _)
      (show ObjOk X.prog X.w _ _ _ (.lst _) from ⟨hlen, out, e', rv, he'⟩), rfl, q _ _ ?_ ?_ ?_ (I1.hok.fresh (Nat.le_refl _))⟩
    · have hb : b < h'.objs.size := Heap.lt_size e
      rw [PyProof.Rows.sortedHeap_old (Nat.ne_of_lt hb) (by rw [size_push']; exact Nat.lt_succ_of_lt hb)]
      exact Heap.get?_push_of_some _ e
    · rw [List.map_map]
      refine (hb1.perm.map kf).trans ?_
      have : acc.toList.map kf = kvs.map fun kv => keyP kv.1 := by
        rw [ea, List.map_map]
        apply List.ext_getElem?
        intro j
        rw [List.getElem?_map, List.getElem?_map]
        cases hj : ks[j]? with
        | none => rw [List.getElem?_eq_none (by rw [l2]; exact List.getElem?_eq_none_iff.mp hj)]; rfl
        | some b =>
          obtain ⟨w', hw, hH⟩ := get j b hj
          rw [hw]
          obtain ⟨x, y, e⟩ := hk _ (List.mem_of_getElem? hw)
          have e : b.1 = [.inl x, .inl y] := e
          rw [e] at hH
          show some (kf (.ref b.2.1)) = some (keyP b.1)
          rw [kfAt hH, e]
          rfl
      rw [this]
    · rw [List.pairwise_map]
      exact hs1
    · intro x hx
      obtain ⟨v, hv, rfl⟩ := List.mem_map.mp hx
      obtain ⟨a, y1, y2, rfl, hH⟩ := keyAt v (mem v hv)
      show H a = some (.tup [.int (kf (.ref a)).1, .int (kf (.ref a)).2])
      rw [kfAt hH]
      exact hH
end
/-! ### sorted of a dict whose keys are ints, any number of them -/
section
variable {X : Cx}
def rSortDI : List V → Hp → VK → Prop := fun vs H Q => ∃ (d : Addr) (kvs : List (Key × V)) (ks : List Int), vs = [V.ref d] ∧ Rd H d (.dK kvs) ∧ (kvs.map fun kv => kv.1) = ks.map Sum.inl ∧
  ∀ (ys : List Int) (p : Addr), ys.Perm ks → ys.Pairwise (fun x y => x ≤ y) → H p = none → Q (.ref p) (upd H p (.lst (ys.map V.int)))
theorem cr_sortDI (hc : X.calm = true) : CallR X (.builtin "sorted") rSortDI := by
  intro pins s σ H xs us Q I r h
  obtain ⟨d, kvs, ks, rfl, hd, hks, q⟩ := h
  obtain ⟨u, rfl, rx⟩ := vals1 r
  cases rx
  obtain ⟨hz, hlo, ws, rel, dd⟩ := dk_rd I.hok hd
  obtain ⟨ep, hat⟩ := dd.dictAt
  have hkeys : (ws.map fun kv => kv.1) = ks.map Sum.inl := rel.keys.symm.trans hks
  have hln : ws.length = ks.length := by
    have e := congrArg List.length hkeys
    simpa using e
  have hzw : ws.length ≤ sizeLine := by rw [← rel.length]; exact hz
  refine Calls.call_function_entry PyProof.Rows.kind_sorted PyProof.Rows.plain_sorted PyProof.Rows.entry_sorted (PyProof.Rows.args_sorted1 _) ?_
  unfold Builtin.«sorted»
  refine wpAny_bind (m := checkCount "sorted" 1 1 _) (wpAny_pure ?_)
  refine wpAny_bind (PySem.W.kdu_collect (A := X.A.in1) (PySem.W.kdl_dict (knd := mixKind X.prog X.w) (kvs := ws) (ep := ep) hlo) (I.ok.hd hc) hat hzw fun h1 tk1 acc kp it => ?_)
  have al : acc.toList.length = ks.length := by rw [Array.length_toList, it.1, hln]
  have its : IntsAre acc.toList ks := ints_each al fun j v ev => by
    obtain ⟨key, x, h1, h2⟩ := it.2 j v (by rw [← Array.getElem?_toList]; exact ev)
    have h3 : (ws.map fun kv => kv.1)[j]? = some key := by rw [List.getElem?_map, h1]; rfl
    rw [hkeys, List.getElem?_map] at h3
    cases h4 : ks[j]? with
    | none => rw [h4] at h3; cases h3
    | some y =>
      rw [h4] at h3
      have h5 : Sum.inl y = key := Option.some.inj h3
      subst h5
      rcases keyIs_shape (show keyIs (Sum.inl y) v = true from h2) with ⟨i, t, ek, ew⟩ | ⟨z, t, ek, ew⟩
      · cases ek
        exact ⟨y, t, rfl, ew⟩
      · cases ek
  have I1 : Inv X pins σ H { s with heap := h1, toks := tk1 } := I.kept kp
  have accz : acc.toList.length ≤ sizeLine := by rw [al, ← hln]; exact hzw
  refine wpAny_bind (wpAny_newList ?_ accz)
  have hoL : (h1.push (seqObj "list" acc.toList.toArray 0)).get? h1.objs.size = some (seqObj "list" acc.toList.toArray 0) := Heap.get?_push_size _ rfl
  show wpAny _ _ _ _ _ { s with heap := h1.push (seqObj "list" acc.toList.toArray 0), toks := tk1 }
  refine wpAny_bind (wpAny_holding (wpAny_call_entry PyProof.Rows.slot_list_sort ⟨_, hoL, rfl⟩ PyProof.Rows.entry_list_sort (SrtO.list_sort_ord SrtO.swo_int hoL accz
    (fun h2 => SrtO.ints_sortable its h2) fun out hs1 hb1 => ⟨_, rfl, ?_⟩) (PyProof.Rows.args_list_sort _)))
  obtain ⟨k1, k2, k3⟩ := SrtO.ints_out its hs1 hb1
  obtain ⟨e1, he1⟩ := PyProof.Rows.sortedHeap_at (vs := acc.toList) (out := out.toArray) hoL
  have hlen : ((out.map SrtO.iv).map V.int).length ≤ sizeLine := by
    rw [List.length_map, k2.length_eq, ← al]
    exact accz
  refine wpAny_pure ⟨_, rfl, .ref h1.objs.size, upd H h1.objs.size (.lst ((out.map SrtO.iv).map V.int)), I1.laid (t' := tk1) (fun b u e => ?_) (Nat.le_refl _)
    (show ObjOk X.prog X.w _ _ _ (.lst _) from ⟨hlen, out, e1, vals_of_ints k1, he1⟩), rfl, q _ _ k2 k3 (I1.hok.fresh (Nat.le_refl _))⟩
  have hb : b < h1.objs.size := Heap.lt_size e
  rw [PyProof.Rows.sortedHeap_old (Nat.ne_of_lt hb) (by rw [size_push']; exact Nat.lt_succ_of_lt hb)]
  exact Heap.get?_push_of_some _ e
end

/-! ### lists in pairs -/
theorem paired_app {α β : Type} {F : α → β → Prop} : ∀ {a b : List α} {c d : List β}, Paired F a c → Paired F b d → Paired F (a ++ b) (c ++ d)
  | _, _, _, _, .nil, q => q
  | _, _, _, _, .cons r t, q => .cons r (paired_app t q)
/-- the last of a list in pairs -/
theorem paired_last {α β : Type} {F : α → β → Prop} {a : List α} {c : List β} (p : Paired F a c) (hn : a ≠ []) : ∃ x y, a[a.length - 1]? = some x ∧ c = c.dropLast ++ [y] ∧ F x y ∧ Paired F a.dropLast c.dropLast := by
  induction p with
  | nil => exact absurd rfl hn
  | @cons x y a c r t ih =>
    cases t with
    | nil => exact ⟨x, y, rfl, rfl, r, .nil⟩
    | @cons x2 y2 a2 c2 r2 t2 =>
      obtain ⟨u, v, h1, h2, h3, h4⟩ := ih (by simp)
      refine ⟨u, v, ?_, ?_, h3, .cons r h4⟩
      · show (x :: x2 :: a2)[(x2 :: a2).length]? = _
        rw [List.length_cons, List.getElem?_cons_succ]
        simpa using h1
      · show y :: y2 :: c2 = y :: ((y2 :: c2).dropLast ++ [v])
        rw [← h2]
theorem paired_mem {α β : Type} {F G : α → β → Prop} {xs : List α} {ys : List β} (p : Paired F xs ys) : (∀ x y, x ∈ xs → y ∈ ys → F x y → G x y) → Paired G xs ys := by
  induction p with
  | nil => exact fun _ => .nil
  | cons r t ih => exact fun h => .cons (h _ _ List.mem_cons_self List.mem_cons_self r) (ih fun x y hx hy => h x y (List.mem_cons_of_mem _ hx) (List.mem_cons_of_mem _ hy))
theorem paired_set {α β : Type} {F : α → β → Prop} {xs : List α} {ys : List β} (p : Paired F xs ys) : ∀ {i : Nat} {x : α} {y : β}, F x y → Paired F (xs.set i x) (ys.set i y) := by
  induction p with
  | nil => exact fun _ => .nil
  | cons r t ih =>
    intro i x y h
    cases i with
    | zero => exact .cons h t
    | succ i => exact .cons r (ih h)
theorem paired_at {α β : Type} {F : α → β → Prop} {xs : List α} {ys : List β} (p : Paired F xs ys) : ∀ {i : Nat} {y : β}, ys[i]? = some y → ∃ x, xs[i]? = some x ∧ F x y := by
  induction p with
  | nil => exact fun h => by simp at h
  | cons r t ih =>
    intro i y h
    cases i with
    | zero => cases h; exact ⟨_, rfl, r⟩
    | succ i => exact ih (by simpa using h)

/-! ### sorted of a list of any data -/
def rSortD (K : PySem.W.Frag) : List V → Hp → VK → Prop := fun vs H Q => ∃ (a : Addr) (bs : List (V × PyData)), vs = [V.ref a] ∧ SqL K H a (bs.map fun b => b.1) ∧ (∀ b ∈ bs, Dp K H b.1 b.2 ∧ b.2.depth ≤ 60) ∧ PySem.W.AllAlike (bs.map fun b => b.2) ∧ PySem.W.Sortable (bs.map fun b => b.2) ∧
  ∀ p, H p = none → Q (.ref p) (upd H p (.lst ((bs.mergeSort (PySem.W.dataLe false fun b => b.2)).map fun b => b.1)))
section
variable {X : Cx} {K : PySem.W.Frag}
theorem each_vals : ∀ {bs : List (V × PyData)} {us : List Value}, Vals (bs.map fun b => b.1) us → PySem.W.EachIs (fun v (b : V × PyData) => RelV b.1 v) us bs
  | [], us, r => by
    cases r
    exact .nil
  | b :: bs, us, r => by
    cases r with
    | cons h t => exact .cons h (each_vals t)
theorem vals_each : ∀ {bs : List (V × PyData)} {us : List Value}, PySem.W.EachIs (fun v (b : V × PyData) => RelV b.1 v) us bs → Vals (bs.map fun b => b.1) us
  | _, _, .nil => .nil
  | _, _, .cons h t => .cons h (vals_each t)
theorem call_sortD (hu : X.A.units + 64 < cLine) (hK : X.K = K := by rfl) : CallR X (.builtin "sorted") (rSortD K) := by
  subst hK
  intro pins s σ H vs us Q I r h
  obtain ⟨a, bs, rfl, hs, hd, hal, hk, q⟩ := h
  obtain ⟨its, rv, hl, hz⟩ := I.list hs
  rw [Vals.ref1 r]
  have e := each_vals rv
  have hbl : bs.length ≤ sizeLine := by
    rw [List.length_map] at hz
    exact hz
  have er : PySem.W.EachIs (fun v (b : V × PyData) => ∃ as, Reads s.heap v b.2 as) its bs := by
    have : ∀ {bs : List (V × PyData)} {us : List Value}, (∀ b ∈ bs, Dp X.K H b.1 b.2 ∧ b.2.depth ≤ 60) → PySem.W.EachIs (fun v (b : V × PyData) => RelV b.1 v) us bs → PySem.W.EachIs (fun v (b : V × PyData) => ∃ as, Reads s.heap v b.2 as) us bs := fun {bs us} hd e => by
      induction e with
      | nil => exact .nil
      | cons h t ih => exact .cons (Dp.reads I _ _ _ (hd _ List.mem_cons_self).1 h) (ih fun b hb => hd b (List.mem_cons_of_mem _ hb))
    exact this hd e
  refine PySem.W.sorted_data (enc := fun b : V × PyData => b.2) hl.isList e er hal hk hbl (fun b hb => by have := (hd b hb).2; omega) fun out ho eo => ?_
  obtain ⟨ep, he'⟩ := PyProof.Rows.sortedAll_at s.heap its out.toArray
  have hlen : ((bs.mergeSort (PySem.W.dataLe false fun b => b.2)).map fun b => b.1).length ≤ sizeLine := by
    rw [List.length_map, List.length_mergeSort]
    exact hbl
  exact ⟨.ref _, upd H (s.heap.objs.size + 1) (.lst _), I.laid (t' := s.toks) (fun _ _ => PyProof.Rows.sortedAll_old) (Nat.le_succ _) ⟨hlen, out, ep, vals_each eo, he'⟩, rfl, q _ (I.hok.fresh (Nat.le_succ _))⟩
end

/-! ### name = {k: v for ..} on one line -/
section
variable {X : Cx}
theorem swd_true {kx vx : Expr} {gs : List Comprehension} {scope : Scope} {pos py : Pos} {y : Str} {l : Nat} {env : Env} (hk : env.scope.kind = .function) (hy : env.scope.names.lookup y = some .local) (hl : (py.line == pos.line) = true)
    (ha : (scope.names.any fun (n, k) => n == y && (k == .local || k == .cell)) = false) : swapsWith (.DictComp kx vx gs scope pos) (some (.Name y py)) l env = pure true := by
  have k1 : env.kindOf y = some .local := hy
  have k2 : env.blockKind = .function := by
    unfold Env.blockKind
    rw [hk]
    rfl
  unfold swapsWith
  simp only [k2, k1, ha, Expr.pos, hl]
  rfl
theorem ps_setDc {i : Nat} {y : Str} {py : Pos} {kx vx tg iter : Expr} {ifs : List Expr} {scope : Scope} {own : List (Str × Nat)} {pos sp : Pos} {wi : TI} {g : TG} {tt : TT} {tk tv : TE} (hc : X.calm = true) (hN : X.N.Nodup) (hy : X.N[i]? = some y)
    (hyl : X.env.scope.names.lookup y = some .local) (hsw : swapsWith (.DictComp kx vx [⟨tg, iter, ifs, 0⟩] scope pos) (some (.Name y py)) sp.line X.env = pure true) (hi : PI X tg iter wi) (ok : BlkOk X.N X.env.scope scope own)
    (hg : ∀ (s : Shared) (H : Hp) (C : Addr) (cl : List (Str × Addr)) (fp : List Addr), PG (X.blk s H scope (compEnvC scope cl C X.env) fp) tg g)
    (ht : ∀ (s : Shared) (H : Hp) (C : Addr) (cl : List (Str × Addr)) (fp : List Addr), PTs (X.blk s H scope (compEnvC scope cl C X.env) fp) ifs tt)
    (hk : ∀ (s : Shared) (H : Hp) (C : Addr) (cl : List (Str × Addr)) (fp : List Addr), PE (X.blk s H scope (compEnvC scope cl C X.env) fp) kx tk) (he : ∀ (s : Shared) (H : Hp) (C : Addr) (cl : List (Str × Addr)) (fp : List Addr), PE (X.blk s H scope (compEnvC scope cl C X.env) fp) vx tv)
    (hs : ∀ x, foldedSetIterable iter X.env x = pure x := by intro _; rfl) : PS X (.Assign [.Name y py] (.DictComp kx vx [⟨tg, iter, ifs, 0⟩] scope pos) sp) (tAsg (tDc wi g tt tk tv (own.map (·.2))) (gName i)) := by
  refine ⟨fun pins s σ H D I h0 => ?_⟩
  rw [exec_Assign_Name_used _ _ _ _ hsw]
  refine wpAny_bind (wpAny_standAt (wpAny_bind ?_))
  show wpAny _ X.A (do let _ ← comprehension (.DictComp kx vx [⟨tg, iter, ifs, 0⟩] scope pos) scope X.env (firstIterPos [⟨tg, iter, ifs, 0⟩] pos) newDict false (eval iter X.env) (some (assign (.Name y py) X.env))) _ _ s
  have h1 : tDc wi g tt tk tv (own.map (·.2)) σ H (fun x H1 => gName i x σ H1 D.nx) := h0
  refine wpAny_bind (thn (dc_core (Qf := fun _ s' => SP X pins D .next s') hc hN I hi ok hg ht hk he hs h1 fun L C s' m H' I' q hn f => ?_) fun _ s' hq => wpAny_pure (wpAny_pure hq))
  show wpAny _ _ (assign (.Name y py) X.env (.ref L)) _ _ _
  obtain ⟨f0, f1, f2, f3, f4, f5⟩ := f
  refine wpAny_assign_Name (store_ok2 (v := V.ref L) I' hN hy (.inl hyl) rfl (fun s2 I2 ⟨c, sb, hc'⟩ => ?_) (.inr hyl))
  have ne : C ≠ c := by
    rcases hc' with z | z
    · rw [z]
      exact f1
    · exact fun e => f4 y c z e.symm
  exact ⟨m, hn.sameBut sb ne, fun h3 sb3 => ⟨_, H', I2.turned (t' := s2.toks) (fun b o hb e => (sb3.2 b hb).trans e) f0 f1 f3 f4 f5, q⟩⟩
end
/-- a dict made over a list -/
theorem dc_list {K : PySem.W.Frag} {a : Addr} {xs : List V} {g : TG} {tt : TT} {tk tv : TE} {vs : List Nat} {σ : L2.St} {H1 : Hp} {D : Addr} {Qd : Hp → Prop} (Pv : Nat → Hp → Prop) (h0 : Pv 0 (upd H1 D (.dK []))) (hl : ∀ i H, i ≤ xs.length → Pv i H → SqL K H a xs)
    (hs : ∀ i x H, xs[i]? = some x → Pv i H → g x (wipe σ vs) H fun σ2 H2 => wipe σ2 vs = wipe σ vs ∧ tt σ2 H2 fun b H3 => if b = true then tk σ2 H3 fun y H4 => tv σ2 H4 fun z H5 => ∃ kvs k, y = kV k ∧ H5 D = some (.dK kvs) ∧ kvs.length < sizeLine ∧ Pv (i + 1) (upd H5 D (.dK (putK kvs k z))) else Pv (i + 1) H3)
    (hd : ∀ H, Pv xs.length H → Qd H) :
    ∃ W : Nat → Nat → Hp → Prop, (∃ m, W 0 m (upd H1 D (.dK []))) ∧ ∀ i m H, W i m H →
      ((Itl K a).stop i H ∧ Qd H) ∨ ((Itl K a).go i H ∧ ∃ Nx : Hp → Prop, (∀ H', Nx H' → ∃ m', m' < m ∧ W (i + 1) m' H') ∧ ∀ x H', (Itl K a).yld i H x H' → g x (wipe σ vs) H' fun σ2 H2 => wipe σ2 vs = wipe σ vs ∧ tt σ2 H2 fun b H3 =>
        if b = true then tk σ2 H3 fun y H4 => tv σ2 H4 fun z H5 => ∃ kvs k, y = kV k ∧ H5 D = some (.dK kvs) ∧ kvs.length < sizeLine ∧ Nx (upd H5 D (.dK (putK kvs k z))) else Nx H3) := by
  refine ⟨fun i m H => m = xs.length - i ∧ i ≤ xs.length ∧ Pv i H, ⟨xs.length, by simp, Nat.zero_le _, h0⟩, ?_⟩
  rintro i m H ⟨rfl, hi, p⟩
  have q := hl i H hi p
  rcases Nat.lt_or_ge i xs.length with lt | ge
  · exact .inr ⟨⟨xs, xs[i], q, by simp [lt]⟩, Pv (i + 1), fun H' p' => ⟨xs.length - (i + 1), by omega, rfl, lt, p'⟩, fun x H' ⟨e, y⟩ => by subst e; exact hs i x _ (y xs q) p⟩
  · have e : i = xs.length := by omega
    subst e
    exact .inl ⟨⟨xs, q, Nat.le_refl _⟩, hd H p⟩

end
section
open PySem PySem.Spec PyProof.Rows L2
variable {P : Program} {w : World} {K : PySem.W.Frag} {mg : Str → Option Value} {base : Heap}
/-! ### defs, methods, constructors that may raise; fields by the name of the class -/
theorem FnG.lift {P : Program} {w : World} {K : PySem.W.Frag} {mg : Str → Option Value} {base : Heap} {k : Nat} {f : Addr} {fd : FuncData} {ps : List Str} {sp : Sp} (F : FnG P w K mg base CX0 k f fd ps sp) : FnG P w K mg base (L2.CX P w) k f fd ps sp :=
  ⟨F.len, fun A out s H args us vs Q E g e0 b r h => codeAny_mono (F.run A out s H args us vs Q E g e0 b r h) fun res s' hq => by
    match res, hq with
    | .error e, hq => exact (show False from hq).elim
    | .ok (.ret u), hq => exact hq
    | .ok .next, hq => exact hq
    | .ok .brk, hq => exact hq
    | .ok .cont, hq => exact hq⟩
/-- a promise that tells of exceptions too -/
def SpE {α : Type} (args : α → List V) (R : α → Hp → VK → XK → Prop) : Sp := fun vs H Q E => ∃ p : α, vs = args p ∧ R p H Q E
structure DefX (P : Program) (w : World) (K : PySem.W.Frag) (mg : Str → Option Value) (base : Heap) (x : Str) (k : Nat) (ps : List Str) (sp : Sp) : Prop where
  ex : ∃ (f : Addr) (fd : FuncData), mg x = some (.ref f) ∧ PySem.W.keepIn K (.ref f) = true ∧ Binds K fd ps [] ∧ FnG P w K mg base (L2.CX P w) k f fd ps sp
theorem DefOk.toX {P : Program} {w : World} {K : PySem.W.Frag} {mg : Str → Option Value} {base : Heap} {x : Str} {k : Nat} {ps : List Str} {sp : Sp} (D : DefOk P w K mg base x k ps sp) : DefX P w K mg base x k ps sp := by
  obtain ⟨f, fd, h1, h2, h3, F, _⟩ := D.ex
  exact ⟨f, fd, h1, h2, h3, F.lift⟩
/-- a class by its name, the attributes that no class of it has -/
structure ClsAt (K : PySem.W.Frag) (mg : Str → Option Value) (cls : Str) (fs : List Str) : Prop where
  ex : ∃ C : Addr, mg cls = some (.ref C) ∧ Cls K C ∧ ∀ f ∈ fs, NoAttr K C f
structure MethAt (K : PySem.W.Frag) (mg : Str → Option Value) (cls m qual : Str) (st : Stmt) : Prop where
  ex : ∃ (C f : Addr) (fd : FuncData), mg cls = some (.ref C) ∧ Cls K C ∧ Meth K C m f ∧ Fun K m qual st f fd
structure InitAt (K : PySem.W.Frag) (mg : Str → Option Value) (cls qual : Str) (st : Stmt) : Prop where
  ex : ∃ (C f : Addr) (fd : FuncData), mg cls = some (.ref C) ∧ Mk K C f ∧ Fun K "__init__" qual st f fd
structure MethX (P : Program) (w : World) (K : PySem.W.Frag) (mg : Str → Option Value) (base : Heap) (cls m : Str) (k : Nat) (ps : List Str) (sp : Sp) : Prop where
  ex : ∃ (C f : Addr) (fd : FuncData), mg cls = some (.ref C) ∧ Cls K C ∧ Meth K C m f ∧ Binds K fd ps [] ∧ FnG P w K mg base (L2.CX P w) k f fd ps sp
structure InitX (P : Program) (w : World) (K : PySem.W.Frag) (mg : Str → Option Value) (base : Heap) (cls : Str) (k : Nat) (ps : List Str) (sp : Sp) : Prop where
  ex : ∃ (C f : Addr) (fd : FuncData), mg cls = some (.ref C) ∧ Mk K C f ∧ Binds K fd ps [] ∧ FnG P w K mg base (L2.CX P w) k f fd ps sp
/-- an instance of a class, its attributes -/
def Ob (mg : Str → Option Value) (H : Hp) (a : Addr) (cls : Str) (fs : List (Str × V)) : Prop := ∃ C dx : Addr, mg cls = some (.ref C) ∧ H a = some (.ins C dx fs)
/-- what a body is asked for: its term and the reading of it -/
def BodyX (P : Program) (w : World) (K : PySem.W.Frag) (mg : Str → Option Value) (base : Heap) (N : List Str) (qual : Str) (st : Stmt) (k : Nat) (sp : Sp) : Prop :=
  ∀ (cdv : Value) (f : Addr) (A : Around) (outer : List Env) (s : Shared) (H : Hp) (vs : List V) (Q : VK) (E : XK), RoomG k (A.deeper (envOfC qual (defScope st) s.heap.objs.size f cdv)) →
    Takes (cxOf (L2.CX P w) P w K mg base N qual (defScope st) f cdv A outer s H E) (fun cls d _ H => E cls d H) →
    PassesOwn (model P w) (cxOf (L2.CX P w) P w K mg base N qual (defScope st) f cdv A outer s H E).A (cxOf (L2.CX P w) P w K mg base N qual (defScope st) f cdv A outer s H E).env (cxOf (L2.CX P w) P w K mg base N qual (defScope st) f cdv A outer s H E).xe → sp vs H Q E →
      ∃ t, PSs (cxOf (L2.CX P w) P w K mg base N qual (defScope st) f cdv A outer s H E) (defBody st) t ∧ t { nx := fun _ H' => Q .non H', rt := Q } (start N vs) H
section
variable {P : Program} {w : World} {K : PySem.W.Frag} {mg : Str → Option Value} {base : Heap}
theorem BodyX.fn {x qual : Str} {st : Stmt} {f : Addr} {fd : FuncData} {N ps : List Str} {k : Nat} {sp : Sp} (F : Fun K x qual st f fd) (S : FnScope N ps (defScope st)) (len : ∀ vs H Q E, sp vs H Q E → vs.length = ps.length) (b : BodyX P w K mg base N qual st k sp) :
    FnG P w K mg base (L2.CX P w) (k + 1) f fd ps sp :=
  Fun.okG F S len fun cdv A outer s H vs Q E hr h => b cdv f A outer s H vs Q E hr (takes_of rfl rfl rfl rfl) (passes_of rfl) h
theorem SpE.len {α : Type} {args : α → List V} {R : α → Hp → VK → XK → Prop} {ps : List Str} (hl : ∀ p : α, (args p).length = ps.length) : ∀ vs H Q E, SpE args R vs H Q E → vs.length = ps.length := fun vs H Q E ⟨p, e, _⟩ => by rw [e]; exact hl p
theorem DefX.mk' {x : Str} {st : Stmt} {N ps : List Str} {k : Nat} {α : Type} {args : α → List V} {R : α → Hp → VK → XK → Prop} (D : DefAt K mg x st) (S : FnScope N ps (defScope st))
    (hb : ∀ (kV doc pm : Value) (an : Option Addr) (cdv ct : Value) (us : List Value), us.length = ps.length → bindArgs (PySem.W.fnOf x x (defArgs st) (defBody st) (defScope st) .none kV doc pm an cdv ct) ⟨us, []⟩ = pure (ps.zip us))
    (hl : ∀ p : α, (args p).length = ps.length) (body : BodyX P w K mg base N x st k (SpE args R)) : DefX P w K mg base x (k + 1) ps (SpE args R) := by
  obtain ⟨f, fd, hm, F⟩ := D.ex
  exact ⟨f, fd, hm, F.kp, F.binds hb, body.fn F S (SpE.len hl)⟩
theorem MethX.mk' {cls m qual : Str} {st : Stmt} {N ps : List Str} {k : Nat} {α : Type} {args : α → List V} {R : α → Hp → VK → XK → Prop} (D : MethAt K mg cls m qual st) (S : FnScope N ps (defScope st))
    (hb : ∀ (kV doc pm : Value) (an : Option Addr) (cdv ct : Value) (us : List Value), us.length = ps.length → bindArgs (PySem.W.fnOf m qual (defArgs st) (defBody st) (defScope st) .none kV doc pm an cdv ct) ⟨us, []⟩ = pure (ps.zip us))
    (hl : ∀ p : α, (args p).length = ps.length) (body : BodyX P w K mg base N qual st k (SpE args R)) : MethX P w K mg base cls m (k + 1) ps (SpE args R) := by
  obtain ⟨C, f, fd, hm, hc, hmt, F⟩ := D.ex
  exact ⟨C, f, fd, hm, hc, hmt, F.binds hb, body.fn F S (SpE.len hl)⟩
theorem InitX.mk' {cls qual : Str} {st : Stmt} {N ps : List Str} {k : Nat} {α : Type} {args : α → List V} {R : α → Hp → VK → XK → Prop} (D : InitAt K mg cls qual st) (S : FnScope N ps (defScope st))
    (hb : ∀ (kV doc pm : Value) (an : Option Addr) (cdv ct : Value) (us : List Value), us.length = ps.length → bindArgs (PySem.W.fnOf "__init__" qual (defArgs st) (defBody st) (defScope st) .none kV doc pm an cdv ct) ⟨us, []⟩ = pure (ps.zip us))
    (hl : ∀ p : α, (args p).length = ps.length) (body : BodyX P w K mg base N qual st k (SpE args R)) : InitX P w K mg base cls (k + 1) ps (SpE args R) := by
  obtain ⟨C, f, fd, hm, M, F⟩ := D.ex
  exact ⟨C, f, fd, hm, M, F.binds hb, body.fn F S (SpE.len hl)⟩
end
/-! ### calls -/
section
variable {X : Cx} {k : Nat} {f C : Addr} {fd : FuncData} {ps : List Str} {sp : Sp} {E : L2.St → XK} {cls x m : Str} {p pos apos : Pos} {e o : Expr} {es : List Expr} {ta : TE} {t : TA}
theorem passN : ∀ σ, PassesAt (L2.CX X.prog X.w) X σ (fun _ _ _ => False) := fun σ pins H s e s' I h => by
  obtain ⟨a, B, H', cls, d, _, _, _, _, _, _, _, q⟩ := h
  exact q.elim
theorem runX {pins : List (Addr × Obj)} {σ : L2.St} {H : Hp} {s : Shared} {Q : VK} {us : List Value} {vs : List V} {E : XK} (F : FnG X.prog X.w X.K X.mg X.base (L2.CX X.prog X.w) k f fd ps sp) (g : RoomG k X.A) (b : Binds X.K fd ps []) (px : PassesAt (L2.CX X.prog X.w) X σ E)
    (I : Inv X pins σ H s) (r : Vals vs us) (h : sp vs H Q E) : wpAny (model X.prog X.w) X.A (call (.ref f) us) (EP X pins σ Q) X.xe s := by
  have n1 : (us ++ []).length = ps.length := by rw [List.append_nil, ← r.length]; exact F.len _ _ _ _ h
  have bs := b s us I.kIn n1
  rw [List.append_nil] at bs
  refine wpAny_call (codeAny_mono (F.run X.A X.stack s H ⟨us, []⟩ us vs Q E g I.env0 bs r h) fun res s' hq => ?_)
  match res, hq with
  | .error e, hq => exact px pins H s e s' I hq
  | .ok (.ret u), hq => exact I.after hq
  | .ok .next, hq => exact hq.elim
  | .ok .brk, hq => exact hq.elim
  | .ok .cont, hq => exact hq.elim
/-- f(e, ..), E by the slots -/
def tCallX (sp : Sp) (E : L2.St → XK) (t : TA) : TE := fun σ H Q => t σ H fun vs H1 => sp vs H1 Q (E σ)
theorem pe_callX (D : DefX X.prog X.w X.K X.mg X.base x k ps sp) (g : RoomG k X.A) (px : ∀ σ, PassesAt (L2.CX X.prog X.w) X σ (E σ)) (hg : Gl X x) (ha : PA X (e :: es) t) (hdb : (x == ("__debug__" : Str)) = false := by decide)
    (he : starEach (e :: es) X.env = (false, eval e X.env) :: starEach es X.env := by rfl) (hpl : (backTo pos (starEach es X.env)).any (·.1) = false := by rfl) : PE X (.Call (.Name x p) (e :: es) [] pos) (tCallX sp E t) := by
  obtain ⟨f, fd, hm, hk, hb, F⟩ := D.ex
  constructor
  intro pins s σ H Q I h
  refine wpAny_Call_Name_kw (ld_glob I hg hm ?_ hdb)
  exact PySem.W.callWith_K (h₀ := X.base) I.ok.mod.kin hk (thn (ha.run pos pins s σ H _ I h) fun us s1 ⟨vs, H1, I1, r, q⟩ => ⟨I1.kIn, runX F g hb (px σ) I1 r q⟩) he hpl
theorem pe_callX0 (D : DefX X.prog X.w X.K X.mg X.base x k ps sp) (g : RoomG k X.A) (px : ∀ σ, PassesAt (L2.CX X.prog X.w) X σ (E σ)) (hg : Gl X x) (hdb : (x == ("__debug__" : Str)) = false := by decide) : PE X (.Call (.Name x p) [] [] pos) (tCallX sp E tNil) := by
  obtain ⟨f, fd, hm, hk, hb, F⟩ := D.ex
  constructor
  intro pins s σ H Q I h
  exact wpAny_Call_Name_kw (ld_glob I hg hm (PySem.W.callWith_K0 I.kIn hk (runX (us := []) F g hb (px σ) I .nil h)) hdb)
/-- o.m(e, ..) of an instance of cls -/
def tMethX (mg : Str → Option Value) (cls m : Str) (sp : Sp) (E : L2.St → XK) (ta : TE) (t : TA) : TE := fun σ H Q => ta σ H fun x H1 => ∃ a fs, x = .ref a ∧ Ob mg H1 a cls fs ∧ fs.lookup m = none ∧ t σ H1 fun vs H2 => sp (x :: vs) H2 Q (E σ)
theorem pe_methX {mg : Str → Option Value} {pl : Sem Bool} (M : MethX X.prog X.w X.K X.mg X.base cls m k ps sp) (g : RoomG k X.A) (px : ∀ σ, PassesAt (L2.CX X.prog X.w) X σ (E σ)) (he : PE X o ta) (ha : PA X (e :: es) t) (hmg : X.mg = mg := by rfl)
    (hst : starEach (e :: es) X.env = (false, eval e X.env) :: starEach es X.env := by rfl) (hpl : (backTo pos (starEach es X.env)).any (·.1) = false := by rfl)
    (ht : eval (.Call (.Attribute o m apos) (e :: es) [] pos) X.env = (do
      let ov ← eval o X.env
      standAt apos.atName
      let (f, first) ← holding [ov] (getMethod ov m pl)
      callWith pos f first (backTo pos (starEach (e :: es) X.env)) (backToKw pos (keywordEach [] X.env))) := by rfl) : PE X (.Call (.Attribute o m apos) (e :: es) [] pos) (tMethX mg cls m sp E ta t) := by
  subst hmg
  obtain ⟨C, f, fd, hC, c, hm, hb, F⟩ := M.ex
  constructor
  intro pins s σ H Q I h
  refine PySem.W.methodCall_KW (pl := pl) (thn (he.run pins s σ H _ I h) fun u s1 ⟨x, H1, I1, rx, a, fs, ex, ⟨C', dx, hC', ea⟩, l, q⟩ => ?_) ht
  subst ex
  cases hC.symm.trans hC'
  obtain rfl : u = Value.ref a := rx
  refine getmeth_ok I1 ea c hm l ?_
  exact PySem.W.callWith_K (first := [.ref a]) (h₀ := X.base) I.ok.mod.kin hm.kp (thn (ha.run pos pins s1 σ H1 _ I1 q) fun us s2 ⟨vs, H2, I2, r, q2⟩ => ⟨I2.kIn, runX (us := .ref a :: us) (vs := .ref a :: vs) F g hb (px σ) I2 (.cons rfl r) q2⟩) hst hpl
theorem pe_methX0 {mg : Str → Option Value} {pl : Sem Bool} (M : MethX X.prog X.w X.K X.mg X.base cls m k ps sp) (g : RoomG k X.A) (px : ∀ σ, PassesAt (L2.CX X.prog X.w) X σ (E σ)) (he : PE X o ta) (hmg : X.mg = mg := by rfl)
    (ht : eval (.Call (.Attribute o m apos) [] [] pos) X.env = (do
      let ov ← eval o X.env
      standAt apos.atName
      let (f, first) ← holding [ov] (getMethod ov m pl)
      callWith pos f first (backTo pos (starEach [] X.env)) (backToKw pos (keywordEach [] X.env))) := by rfl) : PE X (.Call (.Attribute o m apos) [] [] pos) (tMethX mg cls m sp E ta tNil) := by
  subst hmg
  obtain ⟨C, f, fd, hC, c, hm, hb, F⟩ := M.ex
  constructor
  intro pins s σ H Q I h
  refine PySem.W.methodCall_KW (pl := pl) (thn (he.run pins s σ H _ I h) fun u s1 ⟨x, H1, I1, rx, a, fs, ex, ⟨C', dx, hC', ea⟩, l, q⟩ => ?_) ht
  subst ex
  cases hC.symm.trans hC'
  obtain rfl : u = Value.ref a := rx
  refine getmeth_ok I1 ea c hm l ?_
  exact PySem.W.callWith_K0 (first := [.ref a]) I1.kIn hm.kp (runX (us := [.ref a]) (vs := [.ref a]) F g hb (px σ) I1 (.cons rfl .nil) q)
/-- a new instance -/
def tMakeX (mg : Str → Option Value) (cls : Str) (sp : Sp) (E : L2.St → XK) (t : TA) : TE := fun σ H Q => t σ H fun vs H1 => ∀ x dx C, mg cls = some (.ref C) → H1 x = none → H1 dx = none → dx ≠ x →
  sp (.ref x :: vs) (upd (upd H1 dx (.own x)) x (.ins C dx [])) (fun v H2 => v = .non ∧ Q (.ref x) H2) (fun c d H2 => E σ c d H2)
theorem RoomG.make {k : Nat} {A : Around} (r : RoomG (k + 1) A) (C : Addr) (us : List Value) (kw : List (Str × Value)) : RoomG k (A.under (.builtin "type.__call__" ⟨.ref C :: us, kw⟩)) := ⟨r.room.make C us kw, r.gd⟩
theorem runMk {pins : List (Addr × Obj)} {σ : L2.St} {H : Hp} {s : Shared} {Q : VK} {us : List Value} {vs : List V} {E : XK} (M : Mk X.K C f) (F : FnG X.prog X.w X.K X.mg X.base (L2.CX X.prog X.w) k f fd ps sp) (g : RoomG (k + 1) X.A) (b : Binds X.K fd ps [])
    (px : ∀ (H' : Hp) (s' : Shared), Inv X pins σ H' s' → ∀ e s'', L2.CX X.prog X.w X.stack H' s' E e s'' → X.xe e s'') (I : Inv X pins σ H s) (r : Vals vs us)
    (h : ∀ x dx, H x = none → H dx = none → dx ≠ x → sp (.ref x :: vs) (upd (upd H dx (.own x)) x (.ins C dx [])) (fun v H2 => v = .non ∧ Q (.ref x) H2) E) : wpAny (model X.prog X.w) X.A (call (.ref C) us) (EP X pins σ Q) X.xe s := by
  have hq := h (s.heap.objs.size + 1) s.heap.objs.size (I.hok.fresh (Nat.le_succ _)) (I.hok.fresh (Nat.le_refl _)) (Nat.ne_of_lt (Nat.lt_succ_self _))
  have I2 := Inv.made (C := C) I
  have r2 : Vals (V.ref (s.heap.objs.size + 1) :: vs) (Value.ref (s.heap.objs.size + 1) :: us) := .cons rfl r
  have hl : ((Value.ref (s.heap.objs.size + 1) :: us) ++ []).length = ps.length := by
    rw [List.append_nil, ← r2.length]
    exact F.len _ _ _ _ hq
  have bs := b _ (Value.ref (s.heap.objs.size + 1) :: us) I2.kIn hl
  rw [List.append_nil] at bs
  refine wpAny_call (make_map (f := f) I.kIn M.makes M.init (beq_iff_eq.mp M.fn) (codeAny_mono (F.run _ X.stack _ _ ⟨Value.ref (s.heap.objs.size + 1) :: us, []⟩ (Value.ref (s.heap.objs.size + 1) :: us) _ _ E (g.make C us []) (I2.env0.make C us []) bs r2 hq) fun res s' hq' => ?_))
  match res, hq' with
  | .error e, hq' => exact px _ _ I2 e s' hq'
  | .ok (.ret u), hq' =>
    obtain ⟨v, H', I3, rv, ev, q3⟩ := I2.after hq'
    subst ev
    exact ⟨rv, ⟨V.ref (s.heap.objs.size + 1), H', I3, rfl, q3⟩⟩
  | .ok .next, hq' => exact hq'.elim
  | .ok .brk, hq' => exact hq'.elim
  | .ok .cont, hq' => exact hq'.elim
theorem pe_makeX {mg : Str → Option Value} (D : InitX X.prog X.w X.K X.mg X.base cls k ps sp) (g : RoomG (k + 1) X.A) (px : ∀ σ, PassesAt (L2.CX X.prog X.w) X σ (E σ)) (hg : Gl X cls) (ha : PA X (e :: es) t) (hmg : X.mg = mg := by rfl) (hdb : (cls == ("__debug__" : Str)) = false := by decide)
    (he : starEach (e :: es) X.env = (false, eval e X.env) :: starEach es X.env := by rfl) (hpl : (backTo pos (starEach es X.env)).any (·.1) = false := by rfl) : PE X (.Call (.Name cls p) (e :: es) [] pos) (tMakeX mg cls sp E t) := by
  subst hmg
  obtain ⟨C, f, fd, hm, M, hb, F⟩ := D.ex
  constructor
  intro pins s σ H Q I h
  refine wpAny_Call_Name_kw (ld_glob I hg hm ?_ hdb)
  exact PySem.W.callWith_K (h₀ := X.base) I.ok.mod.kin M.kp (thn (ha.run pos pins s σ H _ I h) fun us s1 ⟨vs, H1, I1, r, q⟩ => ⟨I1.kIn, runMk M F g hb (fun H' s' J e s'' c => px σ pins H' s' e s'' J c) I1 r fun x dx h1 h2 h3 => q x dx C hm h1 h2 h3⟩) he hpl
/-! ### fields -/
def tFldO (mg : Str → Option Value) (cls : Str) (ta : TE) (n : Str) : TE := fun σ H Q => ta σ H fun x H1 => ∃ a fs v, x = .ref a ∧ Ob mg H1 a cls fs ∧ fs.lookup n = some v ∧ Q v H1
def sFldO (mg : Str → Option Value) (cls : Str) (ta tv : TE) (n : Str) : TS := fun D σ H => tv σ H fun y H1 => ta σ H1 fun x H2 => ∃ a fs, x = .ref a ∧ Ob mg H2 a cls fs ∧ fs.length < 1000 ∧ ∀ C dx, mg cls = some (.ref C) → H2 a = some (.ins C dx fs) → D.nx σ (upd H2 a (.ins C dx (putF n y fs)))
theorem pe_fldO {mg : Str → Option Value} {fl : List Str} {n : Str} (T : ClsAt X.K X.mg cls fl) (hn : n ∈ fl) (he : PE X e ta) (hb : attributeBase e n X.env (eval e X.env) = eval e X.env := by rfl) (hmg : X.mg = mg := by rfl) : PE X (.Attribute e n pos) (tFldO mg cls ta n) := by
  subst hmg
  obtain ⟨C, hC, c, na⟩ := T.ex
  constructor
  intro pins s σ H Q I h
  refine attr_of hb (thn (he.run pins s σ H _ I h) fun u s1 ⟨x, H1, I1, rx, a, fs, v, ex, ⟨C', dx, hC', ea⟩, l, q⟩ => ?_)
  subst ex
  cases hC.symm.trans hC'
  obtain rfl : u = Value.ref a := rx
  exact getattr_ok I1 ea c (na n hn) l fun u' s2 I2 ru => ⟨v, H1, I2, ru, q⟩
theorem ps_fldO {mg : Str → Option Value} {fl : List Str} {n : Str} {value : Expr} {pos' : Pos} {tv : TE} (T : ClsAt X.K X.mg cls fl) (hn : n ∈ fl) (ho : PE X o ta) (hv : PE X value tv) (hs : swapsWith value (some (.Attribute o n pos')) pos.line X.env = pure false := by rfl) (hmg : X.mg = mg := by rfl) :
    PS X (.Assign [.Attribute o n pos'] value pos) (sFldO mg cls ta tv n) := by
  subst hmg
  obtain ⟨C, hC, c, na⟩ := T.ex
  constructor
  intro pins s σ H D I h
  refine plainObj_wpAny_Assign_Attribute (thn (hv.run pins s σ H _ I h) fun u s1 ⟨y, H1, I1, ry, q⟩ => thn (ho.run pins s1 σ H1 _ I1 q) fun ov s2 ⟨x, H2, I2, rx, a, fs, ex, ⟨C', dx, hC', ea⟩, l, q2⟩ => ?_) hs
  subst ex
  cases hC.symm.trans hC'
  obtain rfl : ov = Value.ref a := rx
  exact setattr_ok I2 ea c (na n hn) l ry fun s3 I3 => ⟨σ, _, I3, q2 C dx hC ea⟩
end
/-! ### own exceptions -/
/-- an own exception class whose __init__ stores its one argument -/
structure ExcAt (K : PySem.W.Frag) (mg : Str → Option Value) (cls fld qual : Str) (st : Stmt) : Prop where
  ex : ∃ (C f : Addr) (fd : FuncData), mg cls = some (.ref C) ∧ OexC K C ∧ NoAttr K C fld ∧ XfC K C ∧ PySem.W.findIn K (.ref C) "__init__" = some (some (.ref f)) ∧ PySem.W.typeIn K (.ref f) = some (.type "function") ∧ Fun K "__init__" qual st f fd
/-- one without own __init__ -/
structure ExcPlain (K : PySem.W.Frag) (mg : Str → Option Value) (cls : Str) : Prop where
  ex : ∃ C : Addr, mg cls = some (.ref C) ∧ PySem.W.excIn K C PySem.HandSPX.veTail "ValueError.__new__" = true ∧ PySem.W.keepIn K (.ref C) = true ∧ PySem.W.subIn K (.ref C) (.type "BaseException") = some true ∧ PySem.W.typeIn K (.ref C) = some (.type "type")
/-- whether an except clause of b takes an exception of a -/
def ExM (K : PySem.W.Frag) (mg : Str → Option Value) (a b : Str) (r : Bool) : Prop := ∃ C D : Addr, mg a = some (.ref C) ∧ mg b = some (.ref D) ∧ PySem.W.exmOne K (.ref C) (.ref D) = some r
structure ExcMk (P : Program) (w : World) (K : PySem.W.Frag) (mg : Str → Option Value) (base : Heap) (cls fld : Str) : Prop where
  ex : ∃ (C f : Addr) (fd : FuncData), mg cls = some (.ref C) ∧ OexC K C ∧ NoAttr K C fld ∧ PySem.W.findIn K (.ref C) "__init__" = some (some (.ref f)) ∧ PySem.W.typeIn K (.ref f) = some (.type "function") ∧ Binds K fd ["self", fld] [] ∧
    FnOk P w K mg base CX0 1 f fd ["self", fld] (SpOf (fun ((a, v) : Addr × V) => [.ref a, v]) fun (a, v) H Q => H a = some (exo a C none) ∧ ∀ dx, H dx = none → dx ≠ a → Q .non (upd (upd H dx (exd dx [(fld, v)])) a (exo a C (some dx))))

/-! ### try with several except clauses, each with or without a name -/
structure Caught (X : Cx) (pins : List (Addr × Obj)) (σ : L2.St) (H : Hp) (a : Addr) (cls : Value) (d : Option Addr) (B : Heap) (sI s1 : Shared) : Prop where
  inv : Inv X pins σ H sI
  nb : ∀ b o, sI.heap.get? b = some o → b ∉ frs X.stack → B.get? b = some o
  up : sI.heap.UpToSlots s1.heap
  fly : HandSPX.FlyingZ B (X.env :: X.outer) a (Zc cls d) s1.heap
  na : H a = none
  os : s1.os = sI.os
  ag : AllBare s1.gens
section
variable {X : Cx} {pins : List (Addr × Obj)} {σ : L2.St} {H : Hp} {a : Addr} {cls : Value} {d : Option Addr} {B : Heap} {sI s1 : Shared}
theorem Caught.on (c : Caught X pins σ H a cls d B sI s1) : Inv X pins σ H s1 := c.inv.landed c.nb c.fly.1 c.up c.os c.ag
theorem Caught.off (c : Caught X pins σ H a cls d B sI s1) (hs : X.stack = X.env :: X.outer) (hf : X.env.frame = some X.env.locals) : a ≠ X.env.locals ∧ a ∉ X.fs := by
  obtain ⟨oe, vs, he, hz, hd⟩ := c.fly.there
  have nfr : a ∉ frs (X.env :: X.outer) := fun hm => by
    obtain ⟨_, o2, e2, hnf⟩ := c.fly.2.2.1.mem hm
    cases he.symm.trans e2
    exact hnf _ hd
  exact ⟨fun z => nfr (List.mem_filterMap.mpr ⟨X.env, List.mem_cons_self, by rw [hf, z]⟩), fun hm => by
    obtain ⟨e, m1, m2⟩ := List.mem_filterMap.mp hm
    exact nfr (List.mem_filterMap.mpr ⟨e, List.mem_cons_of_mem _ m1, m2⟩)⟩
theorem Caught.suite (c : Caught X pins σ H a cls d B sI s1) (hs : X.stack = X.env :: X.outer) (hf : X.env.frame = some X.env.locals) : ∃ oe, Zc cls d oe ∧ (∃ vs, oe.data = .fields vs) ∧ s1.heap.get? a = some oe ∧ Inv (X.suite a ((a, oe) :: (X.pn ++ pins))) [] σ H s1 := by
  obtain ⟨oe, vs, he, hz, hd⟩ := c.fly.there
  obtain ⟨n1, n2⟩ := c.off hs hf
  exact ⟨oe, hz, ⟨vs, hd⟩, he, c.on.suite he hd c.na n1 n2⟩
theorem Caught.moved (c : Caught X pins σ H a cls d B sI s1) {h2 : Heap} (f2 : HandSPX.FlyingZ B (X.env :: X.outer) a (Zc cls d) h2) (u2 : s1.heap.UpToSlots h2) : Caught X pins σ H a cls d B sI { s1 with heap := h2 } := ⟨c.inv, c.nb, c.up.trans u2, f2, c.na, c.os, c.ag⟩
/-- no clause takes it -/
theorem Caught.nobody {Wout : WX} {D : Ends} (c : Caught X pins σ H a cls d B sI s1) (hs : X.stack = X.env :: X.outer) (hf : X.env.frame = some X.env.locals) (tk : Takes X Wout) (w : Wout cls d σ H) : wpAny (model X.prog X.w) X.A (handleBy (.ref a) X.env []) (SP X pins D) X.xe s1 := by
  refine wpAny_handleBy_nil ?_
  have fly := c.fly
  obtain ⟨_, _, _, oe, vs, tb, _, _, he, _, hd, h1, _⟩ := c.fly
  unfold PySem.passOn
  refine wpAny_bind (wpAny_field he hd h1 ?_)
  rw [if_neg (show ¬ ((Value.ref tb == Value.none) = true) by simp)]
  have last : wpAny (model X.prog X.w) X.A (setFlight (.ref a) X.env.frame) (fun _ s4 => wpAny (model X.prog X.w) X.A (throw (.ref a) : Sem Flow) (SP X pins D) X.xe s4) X.xe s1 := by
    rw [hf]
    exact HandSPX.setFlight_upZ fly fun h4 hh u4 => wpAny_throw (tk _ _ ⟨a, B, sI, pins, σ, H, cls, d, rfl, c.inv, c.nb, c.up.trans u4, .inr (.inr (by rw [hs]; exact hh)), c.na, c.os, c.ag, w⟩)
  first
    | exact wpAny_bind (wpAny_pure (wpAny_bind last))
    | exact wpAny_bind last
/-- the class that a clause names, looked up -/
theorem Caught.named {x : Str} {np : Pos} {v : Value} {Q : Value → Shared → Prop} {E : Value → Shared → Prop} (c : Caught X pins σ H a cls d B sI s1) (hs : X.stack = X.env :: X.outer) (hf : X.env.frame = some X.env.locals) (hc : Names X x v) (q : Q v s1) :
    wpAny (model X.prog X.w) (X.A.mark (some (.ref a))) (eval (.Name x np) X.env) Q E s1 := by
  obtain ⟨oe, _, _, _, S⟩ := c.suite hs hf
  obtain ⟨hg, hdb, hm | ⟨hm, hv, hn⟩⟩ := hc
  · exact ld_glob (X := X.suite a ((a, oe) :: (X.pn ++ pins))) S hg hm q hdb
  · exact ld_blt (X := X.suite a ((a, oe) :: (X.pn ++ pins))) S hg hm hv q hn hdb
theorem Caught.tests (c : Caught X pins σ H a cls d B sI s1) {v : Value} {r : Bool} (h : PySem.W.exmOne X.K cls v = some r) : PySem.W.Looks (model X.prog X.w) s1.heap (excMatches (.ref a) v) r := by
  obtain ⟨oe, vs, he, hz, hd⟩ := c.fly.there
  exact PySem.W.exm_one c.on.kIn (fun A Q E s k q => wpAny_typeOf_ref (k _ _ he) (by rw [hz.1]; exact q)) h
end
/-- a clause's suite: with a name in slot i, or without -/
def wClause (D : Ends) (i : Option Nat) (ts : TS) : L2.St → Hp → Addr → Prop := fun σ H a => match i with
  | none => ts D σ H
  | some i => ts { nx := fun σ' H' => D.nx (σ'.set i none) H', rt := D.rt, bk := fun σ' H' => D.bk (σ'.set i none) H', ct := fun σ' H' => D.ct (σ'.set i none) H' } (σ.set i (some (.ref a))) H
def wTry (K : PySem.W.Frag) (Wout : WX) (D : Ends) : List (Value × Option Nat × (Addr → Value → Option Addr → TS)) → WX
  | [] => Wout
  | (c, i, ts) :: r => fun cls d σ H => ∃ b, PySem.W.exmOne K cls c = some b ∧ (b = true → ∀ a, H a = none → wClause D i (ts a cls d) σ H a) ∧ (b = false → wTry K Wout D r cls d σ H)
inductive HdsG (X : Cx) : List ExceptHandler → List (Value × Option Nat × (Addr → Value → Option Addr → TS)) → Prop
  | nil : HdsG X [] []
  | plain {x : Str} {c : Value} {ts : Addr → Value → Option Addr → TS} {b₀ : Stmt} {suite : List Stmt} {np pos' : Pos} {hds : List ExceptHandler} {l : List (Value × Option Nat × (Addr → Value → Option Addr → TS))} (hc : Names X x c)
      (hsu : ∀ (a : Addr) (oe : Obj) (cls : Value) (d : Option Addr) (pn : List (Addr × Obj)), Zc cls d oe → (∃ vs, oe.data = .fields vs) → PSs (X.suite a ((a, oe) :: pn)) (b₀ :: suite) (ts a cls d)) (r : HdsG X hds l) :
      HdsG X (.ExceptHandler (some (.Name x np)) none (b₀ :: suite) pos' :: hds) ((c, none, ts) :: l)
  | named {x n : Str} {i : Nat} {c : Value} {ts : Addr → Value → Option Addr → TS} {b₀ : Stmt} {suite : List Stmt} {np pos' : Pos} {hds : List ExceptHandler} {l : List (Value × Option Nat × (Addr → Value → Option Addr → TS))} (hi : X.N[i]? = some n) (hl : X.env.kindOf n = some .local) (hc : Names X x c)
      (hsu : ∀ (a : Addr) (oe : Obj) (cls : Value) (d : Option Addr) (pn : List (Addr × Obj)), Zc cls d oe → (∃ vs, oe.data = .fields vs) → PSs (X.suite a ((a, oe) :: pn)) (b₀ :: suite) (ts a cls d)) (r : HdsG X hds l) :
      HdsG X (.ExceptHandler (some (.Name x np)) (some n) (b₀ :: suite) pos' :: hds) ((c, some i, ts) :: l)
section
variable {X : Cx}
theorem Caught.goes {pins : List (Addr × Obj)} {σ : L2.St} {H : Hp} {a : Addr} {cls : Value} {d : Option Addr} {B : Heap} {sI : Shared} {Wout : WX} {D : Ends} (hs : X.stack = X.env :: X.outer) (hf : X.env.frame = some X.env.locals) (hN : X.N.Nodup) (tk : Takes X Wout)
    {hds : List ExceptHandler} {l : List (Value × Option Nat × (Addr → Value → Option Addr → TS))} (hk : HdsG X hds l) : ∀ {s1 : Shared}, Caught X pins σ H a cls d B sI s1 → wTry X.K Wout D l cls d σ H → wpAny (model X.prog X.w) X.A (handleBy (.ref a) X.env hds) (SP X pins D) X.xe s1 := by
  induction hk with
  | nil => exact fun c w => c.nobody hs hf tk w
  | @plain x c ts b₀ suite np pos' hds l hc hsu r ih =>
    rintro s1 ca ⟨b, h1, hy, hn⟩
    refine wpAny_handleBy_cons (codeAny_handlers_test ?_) (by intro q; cases q)
    refine ca.named hs hf hc ((ca.tests h1).here ?_)
    match b, hy, hn with
    | true, hy, _ =>
      refine codeAny_handlers_suite ?_
      refine HandSPX.lands_againZ ca.fly fun h4 f4 u4 => ?_
      have c4 := ca.moved f4 u4
      obtain ⟨oe, hz, hd, he, S⟩ := c4.suite hs hf
      refine wpAny_mono ((hsu a oe cls d (X.pn ++ pins) hz hd).run [] _ _ H _ S (hy rfl a ca.na)) (fun fl s6 hq => ?_) fun _ _ z => z.elim
      match fl, hq with
      | .next, ⟨σ6, H6, S6, q6⟩ => exact ⟨_, _, S6.unsuite ca.inv.ok, q6⟩
      | .brk, ⟨σ6, H6, S6, q6⟩ => exact ⟨_, _, S6.unsuite ca.inv.ok, q6⟩
      | .cont, ⟨σ6, H6, S6, q6⟩ => exact ⟨_, _, S6.unsuite ca.inv.ok, q6⟩
      | .ret u, ⟨v6, σ6, H6, S6, r6, q6⟩ => exact ⟨_, _, _, S6.unsuite ca.inv.ok, r6, q6⟩
    | false, _, hn => exact ih ca (hn rfl)
  | @named x n i c ts b₀ suite np pos' hds l hi hl hc hsu r ih =>
    rintro s1 ca ⟨b, h1, hy, hn⟩
    refine wpAny_handleBy_cons (codeAny_handlers_test ?_) (by intro q; cases q)
    refine ca.named hs hf hc ((ca.tests h1).here ?_)
    match b, hy, hn with
    | true, hy, _ =>
      refine codeAny_handlers_suite_as ?_
      refine HandSPX.lands_againZ ca.fly fun h4 f4 u4 => ?_
      have c4 := ca.moved f4 u4
      obtain ⟨oe, hz, hd, he, S⟩ := c4.suite hs hf
      refine store_ok (X := X.suite a ((a, oe) :: (X.pn ++ pins))) (v := .ref a) S hN hi (.inl hl) rfl (fun s5 S5 => ?_) (.inr hl)
      refine wpAny_mono ((hsu a oe cls d (X.pn ++ pins) hz hd).run [] s5 _ H _ S5 (hy rfl a ca.na)) (fun fl s6 hq => ?_) fun _ _ z => z.elim
      have fin : ∀ {σ6 : L2.St} {H6 : Hp} {Q : Shared → Prop}, Inv (X.suite a ((a, oe) :: (X.pn ++ pins))) [] σ6 H6 s6 → (∀ s7, Inv X pins (σ6.set i none) H6 s7 → Q s7) → wpAny (model X.prog X.w) X.A (do bindName X.env n .none; unbindBehindTheSuite X.env n pos') (fun _ s7 => Q s7) X.xe s6 :=
        fun {σ6 H6 Q} S6 hq => gone_ok (S6.unsuite ca.inv.ok) hN hi hl hq
      match fl, hq with
      | .next, ⟨σ6, H6, S6, q6⟩ => exact fin S6 fun s7 J7 => ⟨_, _, J7, q6⟩
      | .brk, ⟨σ6, H6, S6, q6⟩ => exact fin S6 fun s7 J7 => ⟨_, _, J7, q6⟩
      | .cont, ⟨σ6, H6, S6, q6⟩ => exact fin S6 fun s7 J7 => ⟨_, _, J7, q6⟩
      | .ret u, ⟨v6, σ6, H6, S6, r6, q6⟩ => exact fin S6 fun s7 J7 => ⟨_, _, _, J7, r6, q6⟩
    | false, _, hn => exact ih ca (hn rfl)
theorem ps_tryG {body : List Stmt} {h₀ : ExceptHandler} {hds : List ExceptHandler} {l : List (Value × Option Nat × (Addr → Value → Option Addr → TS))} {pos : Pos} {tb : WX → TS} {Wout : WX} (hs : X.stack = X.env :: X.outer) (hf : X.env.frame = some X.env.locals) (hN : X.N.Nodup) (tk : Takes X Wout)
    (hb : ∀ (W : WX) (pn : List (Addr × Obj)) (xe : Value → Shared → Prop), Takes (X.tr pn xe) W → PassesOwn (model X.prog X.w) X.A X.env xe → PSs (X.tr pn xe) body (tb W)) (hh : HdsG X (h₀ :: hds) l) :
    PS X (.Try body (h₀ :: hds) [] [] pos) (fun D σ H => tb (wTry X.K Wout D l) D σ H) := by
  constructor
  intro pins s σ H D I h
  have ok := I.ok
  have hfr : X.A.frames = some (X.env :: X.outer) := by rw [ok.frames, hs]
  refine wpAny_Try_except ?_
  refine wpAny_mono ((hb (wTry X.K Wout D l) (X.pn ++ pins) (fun e s₁ => wpAny (model X.prog X.w) X.A (noteFrame e X.env) (fun _ s₂ => wpAny (model X.prog X.w) X.A (setFlight e none) (fun _ s₃ => wpAny (model X.prog X.w) X.A (handleBy e X.env (h₀ :: hds)) (SP X pins D) X.xe s₃) X.xe s₂) X.xe s₁)
    (fun u s' xx => ?_) PassesOwn.looking).run [] s σ H D (I.toTry _) h) (fun fl s1 hq => ?_) fun _ _ z => z
  · obtain ⟨a, B, sI, pins', σ', H', cls, d, rfl, J, nb, up, sky, na, os, ag, w⟩ := xx
    rw [hs] at sky
    show wpAny (model X.prog X.w) X.A (noteFrame (.ref a) X.env) _ _ _
    exact Sky.land Zc.steady hfr hf sky fun h3 f3 u3 => Caught.goes hs hf hN tk hh ⟨J.ofTry ok, nb, up.trans u3, f3, na, os, ag⟩ w
  · match fl, hq with
    | .next, ⟨σ', H', J, q⟩ => exact wpAny_execs_nil ⟨σ', H', J.ofTry ok, q⟩
    | .brk, ⟨σ', H', J, q⟩ => exact ⟨σ', H', J.ofTry ok, q⟩
    | .cont, ⟨σ', H', J, q⟩ => exact ⟨σ', H', J.ofTry ok, q⟩
    | .ret u, ⟨v, σ', H', J, r, q⟩ => exact ⟨v, σ', H', J.ofTry ok, r, q⟩
end

/-! ### own exceptions made, their fields read -/
def MonoE (te : TE) : Prop := ∀ (σ : L2.St) (H : Hp) (Q Q' : VK), (∀ v H1, Q v H1 → Q' v H1) → te σ H Q → te σ H Q'
theorem mono_c {v : V} : MonoE (tC v) := fun _ _ _ _ h q => h _ _ q
theorem mono_v {i : Nat} : MonoE (tVar i) := fun _ _ _ _ h ⟨v, e, q⟩ => ⟨v, e, h _ _ q⟩
section
variable {P : Program} {w : World} {K : PySem.W.Frag} {mg : Str → Option Value} {base : Heap}
theorem ExcMk.mk' {cls fld qual : Str} {st : Stmt} {N : List Str} (D : ExcAt K mg cls fld qual st) (S : FnScope N ["self", fld] (defScope st))
    (hb : ∀ (kV doc pm : Value) (an : Option Addr) (cdv ct : Value) (us : List Value), us.length = 2 → bindArgs (PySem.W.fnOf "__init__" qual (defArgs st) (defBody st) (defScope st) .none kV doc pm an cdv ct) ⟨us, []⟩ = pure ((["self", fld] : List Str).zip us))
    (hn : 2 ≤ N.length)
    (body : ∀ (cdv : Value) (f : Addr) (A : Around) (outer : List Env) (s : Shared) (H : Hp) (E : XK), PSs (cxOf CX0 P w K mg base N qual (defScope st) f cdv A outer s H E).nox (defBody st) (tOst K fld (tVar 0) (tVar 1))) : ExcMk P w K mg base cls fld := by
  obtain ⟨C, f, fd, hC, hO, hA, hX, hI, hT, F⟩ := D.ex
  refine ⟨C, f, fd, hC, hO, hA, hI, hT, F.binds hb, Fun.ok F S (fun vs H Q E ⟨p, e, _⟩ => by rw [e]; rfl) fun cdv A outer s H vs Q E hr hsp => ?_⟩
  obtain ⟨⟨a, v⟩, rfl, ha, q⟩ := hsp
  refine ⟨_, body cdv f A outer s H E, ?_⟩
  have s0 : (start N [V.ref a, v])[0]? = some (some (V.ref a)) := by
    match N, hn with
    | _ :: _ :: _, _ => rfl
  have s1 : (start N [V.ref a, v])[1]? = some (some v) := by
    match N, hn with
    | _ :: _ :: _, _ => rfl
  exact ⟨_, s1, _, s0, a, C, rfl, hO, hA, .inl ⟨ha, fun dx h1 h2 => q dx h1 h2⟩⟩
end
/-- cls(e), an own exception with one field -/
def tMkX (mg : Str → Option Value) (cls fld : Str) (te : TE) : L2.St → Hp → XK → Prop := fun σ H Q => te σ H fun v H1 => ∀ C d, mg cls = some (.ref C) → H1 d = none → Q (.ref C) (some d) (upd H1 d (.xd [(fld, v)]))
section
variable {X : Cx}
theorem pmk_excX {mg : Str → Option Value} {cls fld : Str} {e : Expr} {te : TE} {p pos : Pos} (M : ExcMk X.prog X.w X.K X.mg X.base cls fld) (g : RoomG 2 X.A) (hm : MonoE te) (hg : Gl X cls) (he : PE X e te) (hmg : X.mg = mg := by rfl) (hdb : (cls == ("__debug__" : Str)) = false := by decide)
    (hst : starEach (e :: []) X.env = (false, eval e X.env) :: starEach [] X.env := by rfl) (hpl : (backTo pos (starEach [] X.env)).any (·.1) = false := by rfl) : PMk X (.Call (.Name cls p) [e] [] pos) (tMkX mg cls fld te) := by
  subst hmg
  obtain ⟨C, f, fd, hC, hO, hA, hI, hT, hb, F⟩ := M.ex
  have mk := pmk_oex (e := e) (es := []) (pos := pos) (p := p) (ds := []) (dvs := []) hO hI hT F g.room hb .nil pass0 hg hC (pa_cons (hs := hst) he pa_nil) hdb hst hpl
  intro pins s σ H Q I h
  refine mk pins s σ H Q I ?_
  show te σ H _
  refine hm σ H _ _ (fun v H1 q => ⟨by show 1 ≤ 1000; decide, fun a na => ⟨(a, v), rfl, upd_same, fun dx ndx ne => ⟨rfl, dx, [(fld, v)], upd_same, ?_, ?_, ?_⟩⟩⟩) h
  · rw [upd_ne ne]
    exact upd_same
  · rw [upd_ne ne] at ndx
    exact ndx
  · have ndx' : H1 dx = none := by
      rw [upd_ne ne] at ndx
      exact ndx
    have : upd (del (upd (upd (upd H1 a (exo a C none)) dx (exd dx [(fld, v)])) a (exo a C (some dx))) a) dx (.xd [(fld, v)]) = upd H1 dx (.xd [(fld, v)]) := by
      funext b
      by_cases hb : b = dx
      · subst hb
        rw [upd_same, upd_same]
      · rw [upd_ne hb, upd_ne hb]
        by_cases ha : b = a
        · subst ha
          rw [del_same]
          exact na.symm
        · rw [del_ne ha, upd_ne ha, upd_ne hb, upd_ne ha]
    rw [this]
    exact q C dx hC ndx'
/-- cls('m'), a plain one -/
def tMkP (mg : Str → Option Value) (cls : Str) : L2.St → Hp → XK → Prop := fun _ H Q => ∀ C, mg cls = some (.ref C) → Q (.ref C) none H
theorem pmk_plainX {mg : Str → Option Value} {cls m : Str} {j : Nat} {p p2 pos : Pos} (M : ExcPlain X.K X.mg cls) (hg : Gl X cls) (hmg : X.mg = mg := by rfl) (hdb : (cls == ("__debug__" : Str)) = false := by decide) : PMk X (.Call (.Name cls p) [.Constant (.str m) j p2] [] pos) (tMkP mg cls) := by
  subst hmg
  obtain ⟨C, hC, q, kC, h1, h2⟩ := M.ex
  intro pins s σ H Q I h
  exact pmk_own F.excBase_ValueError q hC kC (raises_own h1 h2) hg hdb pins s σ H Q I (h C hC)
/-- e.f in an except suite -/
def tXfO (mg : Str → Option Value) (a : Addr) (cls : Value) (d : Option Addr) (clsn n : Str) (te : TE) : TE := fun σ H Q => te σ H fun x H1 => x = .ref a ∧ ∃ (C dd : Addr) (fs : List (Str × V)) (v : V), mg clsn = some (.ref C) ∧ cls = .ref C ∧ d = some dd ∧ H1 dd = some (.xd fs) ∧ fs.lookup n = some v ∧ Q v H1
theorem pe_xfO {mg : Str → Option Value} {clsn n qual : Str} {st : Stmt} {a : Addr} {oe : Obj} {cls : Value} {d : Option Addr} {pn : List (Addr × Obj)} {e : Expr} {te : TE} {pos : Pos} (D : ExcAt X.K X.mg clsn n qual st) (hm : MonoE te) (hz : Zc cls d oe) (hf : ∃ vs, oe.data = .fields vs)
    (he : PE (X.suite a ((a, oe) :: pn)) e te) (hmg : X.mg = mg := by rfl) (hb : attributeBase e n X.env (eval e X.env) = eval e X.env := by rfl) : PE (X.suite a ((a, oe) :: pn)) (.Attribute e n pos) (tXfO mg a cls d clsn n te) := by
  subst hmg
  obtain ⟨C, f, fd, hC, hO, hA, hX, _⟩ := D.ex
  constructor
  intro pins s σ H Q I h
  refine (pe_xf (C := C) hX hA hz hf he hb).run pins s σ H Q I ?_
  exact hm σ H _ _ (fun x H1 ⟨e1, C', dd, fs, v, h1, h2, h3, h4, h5, q⟩ => ⟨e1, by rw [h2]; cases hC.symm.trans h1; rfl, dd, fs, v, h3, h4, h5, q⟩) h
end

/-! ### isinstance of the exception that a suite holds -/
/-- whether isinstance of an exception of class a says b -/
def IsM (K : PySem.W.Frag) (mg : Str → Option Value) (a b : Str) (r : Bool) : Prop := ∃ C D : Addr, mg a = some (.ref C) ∧ mg b = some (.ref D) ∧ ExcC K C ∧ PySem.W.kitOne K (.ref C) (.ref D) = some r
theorem kitOne_ref {K : PySem.W.Frag} {A B : Addr} {b : Bool} (hd : PySem.W.hasDictIn K B = true) (ht : PySem.W.typeIn K (.ref B) = some (.type "type")) (hs : PySem.W.subIn K (.ref A) (.ref B) = some b) (hself : PySem.W.subIn K (.ref B) (.ref B) = some true) : PySem.W.kitOne K (.ref A) (.ref B) = some b := by
  obtain ⟨cd, hc, _⟩ := PySem.W.any_some hd
  unfold PySem.W.kitOne
  by_cases e : (Value.ref A == Value.ref B) = true
  · rw [if_pos e]
    have e2 : A = B := Value.ref.inj (beq_iff_eq.mp e)
    subst e2
    exact hself.symm.trans hs
  · rw [if_neg e]
    have e2 : ((PySem.W.clsIn K B).isSome && PySem.W.typeIn K (.ref B) == some (.type "type")) = true := by rw [hc, ht] <;> rfl
    show (if ((PySem.W.clsIn K B).isSome && PySem.W.typeIn K (.ref B) == some (.type "type")) = true then PySem.W.subIn K (.ref A) (.ref B) else none) = some b
    rw [if_pos e2]
    exact hs
/-- a class of one's own, by its name -/
def tOwn (mg : Str → Option Value) (x : Str) : TE := fun _ H Q => ∀ C, mg x = some (.ref C) → Q (.ref C) H
def rIsX (K : PySem.W.Frag) (a : Addr) (cls : Value) (d : Option Addr) : List V → Hp → VK → Prop := fun xs H Q => ∃ (D : Addr) (c : V) (cv : Value) (b : Bool), cls = .ref D ∧ d = none ∧ ExcC K D ∧ xs = [.ref a, c] ∧ (∀ u, RelV c u → u = cv) ∧ PySem.W.kitOne K (.ref D) cv = some b ∧ Q (.bl b) H
section
variable {X : Cx}
theorem pe_own {mg : Str → Option Value} {x : Str} {pos : Pos} (h : ∃ C, X.mg x = some (.ref C)) (hg : Gl X x) (hmg : X.mg = mg := by rfl) (hd : (x == ("__debug__" : Str)) = false := by decide) : PE X (.Name x pos) (tOwn mg x) := by
  subst hmg
  obtain ⟨C, e⟩ := h
  constructor
  intro pins s σ H Q I q
  exact (pe_glob (v := .ref C) hg e rfl hd).run pins s σ H Q I (q C e)
theorem call_isX {a : Addr} {oe : Obj} {cls : Value} {d : Option Addr} {pn : List (Addr × Obj)} {K : PySem.W.Frag} (hz : Zc cls d oe) (hf : ∃ vs, oe.data = .fields vs) (hK : X.K = K := by rfl) : CallR (X.suite a ((a, oe) :: pn)) (.builtin "isinstance") (rIsX K a cls d) := by
  subst hK
  intro pins s σ H xs us Q I r h
  obtain ⟨D, c, cv, b, rfl, rfl, C, q⟩ := h
  exact call_isE C hz hf pins s σ H xs us Q I r ⟨c, cv, b, q⟩
end

/-! ### a def called where an exception is held; isinstance of that exception there -/
/-- list.count of plain values -/
def rCountF (K : PySem.W.Frag) : V → List V → Hp → VK → Prop := fun x xs H Q => ∃ (a : Addr) (ys : List V) (y : V), x = .ref a ∧ xs = [y] ∧ SqL K H a ys ∧ flatV y = true ∧ ys.all flatV = true ∧ Q (.int (ys.countP fun z => eqV z y : Nat)) H
theorem countP_eqU {y : V} : ∀ {ys : List V} {us : List Value}, Vals ys us → ys.all flatV = true → us.countP (eqU y) = ys.countP fun z => eqV z y
  | _, _, .nil, _ => rfl
  | _, _, .cons r t, f => by
    rw [List.all_cons, Bool.and_eq_true] at f
    rw [List.countP_cons, List.countP_cons, countP_eqU t f.2, eqU_of r f.1]
section
variable {X : Cx} {K : PySem.W.Frag}
theorem mt_countB (hK : X.K = K := by rfl) : MtR X "list.count" (rCountF K) := by
  subst hK
  intro pins s σ H x xs v us Q I rx rxs h
  obtain ⟨a, ys, y, rfl, rfl, hs, fy, fys, q⟩ := h
  cases rx
  obtain ⟨u, rfl, ru⟩ := rxs.one
  obtain ⟨its, rv, ⟨ob, n, hget, hcl, hdn, hdt⟩, hlen⟩ := I.list hs
  obtain ⟨ocls, odict, odata, oslots⟩ := ob
  dsimp only at hcl hdt
  subst hcl hdt
  have count := SeqAt.list_countAt a its.toArray n odict oslots u (eqU y)
  refine call_meets PySem.F.slot_list_count ⟨_, hget, rfl⟩ PySem.F.entry_list_count (PySem.F.args_list_count_2 _ _) count ⟨hget, fun z hz => mem_eqAt ru fy rv fys z (by simpa using hz), ?_⟩
  rw [show its.toArray.toList.countP (eqU y) = ys.countP fun z => eqV z y from countP_eqU rv fys]
  exact ⟨.int (ys.countP fun z => eqV z y : Nat), H, I.tok _, ⟨s.toks, rfl⟩, q⟩
theorem mt_indexK (hK : X.K = K := by rfl) : MtR X "list.index" (rIndex K) := by
  subst hK
  exact mt_index
/-- an expression that is not reached -/
theorem pe_never {e : Expr} : PE X e (fun _ _ _ => False) := ⟨fun _ _ _ _ _ _ h => False.elim h⟩
end
/-- the held exception: its class, and that its dict, if it has one, is tracked -/
def HeldAt (H : Hp) (p : Addr × Obj) (D : Addr) : Prop := ∃ d : Option Addr, Zc (.ref D) d p.2 ∧ ∀ dd, d = some dd → ∃ fs, H dd = some (.xd fs)
theorem HeldAt.plain {H : Hp} {p : Addr × Obj} {D : Addr} (z : Zc (.ref D) none p.2) : HeldAt H p D := ⟨none, z, fun _ h => nomatch h⟩
/-- isinstance of the held exception p: its class by a name, the class that is asked for -/
def rIsP (K : PySem.W.Frag) (mg : Str → Option Value) (p : Addr × Obj) : List V → Hp → VK → Prop := fun xs H Q => ∃ (c b : Str) (D C : Addr) (r : Bool), xs = [.ref p.1, .ref C] ∧ mg c = some (.ref D) ∧ HeldAt H p D ∧ (∃ vs, p.2.data = .fields vs) ∧ mg b = some (.ref C) ∧ IsM K mg c b r ∧ Q (.bl r) H
theorem call_isP {X : Cx} {K : PySem.W.Frag} {mg : Str → Option Value} {p : Addr × Obj} (hp : p ∈ X.pn) (hK : X.K = K := by rfl) : CallR X (.builtin "isinstance") (rIsP K mg p) := by
  subst hK
  intro pins s σ H xs us Q I r h
  obtain ⟨c, b, D, C, rr, rfl, hc, ⟨d, hz, hdd⟩, ⟨fs, hfs⟩, hb, ⟨D', C', h1, h2, ex, kit⟩, q⟩ := h
  cases hc.symm.trans h1
  cases hb.symm.trans h2
  have two : us = [.ref p.1, .ref C] := by
    cases r with
    | cons ra rt =>
      cases rt with
      | cons rb rn =>
        cases rn
        cases ra
        cases rb
        rfl
  subst two
  have there := (I.pin p (List.mem_append_left _ hp)).1
  have no : PySem.W.notCls p.2 = true := by unfold PySem.W.notCls; rw [hfs] <;> rfl
  have inst : ∃ od, PySem.W.InstAt s.heap p.1 p.2 D od := by
    cases d with
    | none => exact ⟨none, there, hz.1, no, by rw [hz.2]; trivial⟩
    | some dd =>
      obtain ⟨es, hd⟩ := hdd dd rfl
      have hx : ObjOk X.prog X.w H s.heap dd (.xd es) := I.hok dd _ hd
      obtain ⟨mA, hns, hr⟩ := hx
      obtain ⟨od, ho, hl⟩ := lookIn_ns hns
      exact ⟨some od, there, hz.1, no, by rw [hz.2]; exact ho⟩
  obtain ⟨od, inst⟩ := inst
  have hcl : (PySem.W.clsIn X.K D).isSome = true := by
    obtain ⟨cd, hcd, _⟩ := PySem.W.any_some ex.hd
    rw [hcd]
    rfl
  have kx := PySem.W.kitx_exc (x := p.1) (ox := p.2) (od := od) hcl ex.hg ex.hk ex.hs ex.ha ex.hn ex.ht ex.hm
  exact PySem.W.kia_one kx I.kIn inst kit (fun z => nomatch z) fun tk => ⟨.bl rr, H, I.kept (t' := tk) fun _ _ z => z, rfl, q⟩
/-- p.f of the held exception -/
def tXfP (mg : Str → Option Value) (p : Addr × Obj) (clsn n : Str) (te : TE) : TE := fun σ H Q => te σ H fun x H1 => x = .ref p.1 ∧ ∃ (C dd : Addr) (fs : List (Str × V)) (v : V), mg clsn = some (.ref C) ∧ Zc (.ref C) (some dd) p.2 ∧ (∃ vs, p.2.data = .fields vs) ∧ H1 dd = some (.xd fs) ∧ fs.lookup n = some v ∧ Q v H1
theorem pe_xfP {X : Cx} {mg : Str → Option Value} {clsn n qual : Str} {st : Stmt} {p : Addr × Obj} {e : Expr} {te : TE} {pos : Pos} (D : ExcAt X.K X.mg clsn n qual st) (hp : p ∈ X.pn) (he : PE X e te) (hmg : X.mg = mg := by rfl) (hb : attributeBase e n X.env (eval e X.env) = eval e X.env := by rfl) : PE X (.Attribute e n pos) (tXfP mg p clsn n te) := by
  subst hmg
  obtain ⟨C0, f, fd, hC, hO, hA, T, _⟩ := D.ex
  refine ⟨fun pins s σ H Q I h => ?_⟩
  refine attr_of hb (thn (he.run pins s σ H _ I h) fun u s1 hh => ?_)
  obtain ⟨x, H1, I1, rx, ex, C, dd, fs, v, hc, hz, ⟨vs, hd⟩, ea, l, q⟩ := hh
  subst ex
  cases hC.symm.trans hc
  obtain rfl : u = Value.ref p.1 := rx
  obtain ⟨ha, _⟩ := I1.pin p (List.mem_append_left _ hp)
  have hx : ObjOk X.prog X.w H1 s1.heap dd (.xd fs) := I1.hok dd _ ea
  obtain ⟨mA, hns, hr⟩ := hx
  obtain ⟨od, ho, hl⟩ := lookIn_ns hns
  obtain ⟨u, hu, ru⟩ := RelO.some_of (v := v) (o := mA n) (by rw [← l]; exact hr n)
  have J : PySem.W.InstAt s1.heap p.1 p.2 C0 (some od) := ⟨ha, hz.1, by unfold PySem.W.notCls; rw [hd] <;> rfl, by rw [hz.2]; exact ho⟩
  exact HandSPX.exc_get I1.kIn J T.ga T.gg T.exC (PySem.W.findObj_own T.hdC hA rfl (by rw [hl, hu])) (handed_of ru) ⟨v, H1, I1.tok _, ru, q⟩
/-- what a def promises there; its promise may speak of the held exception -/
structure FnS (P : Program) (w : World) (K : PySem.W.Frag) (mg : Str → Option Value) (base : Heap) (k : Nat) (f : Addr) (fd : FuncData) (ps : List Str) (sp : Addr × Obj → Sp) : Prop where
  len : ∀ p vs H Q E, sp p vs H Q E → vs.length = ps.length
  run : ∀ (A : Around) (out : List Env) (s : Shared) (H : Hp) (args : Args) (us : List Value) (vs : List V) (Q : VK) (E : XK) (p : Addr × Obj), L2H.RoomH k A → L2H.PinOk out H s p → Env0 P w K mg base A out s H →
    BindsTo s fd args (ps.zip us) → Vals vs us → sp p vs H Q E → codeAny (model P w) A (.call (.ref f) args) (CR CX0 out P w H s Q E) s
structure DefS (P : Program) (w : World) (K : PySem.W.Frag) (mg : Str → Option Value) (base : Heap) (x : Str) (k : Nat) (ps : List Str) (sp : Addr × Obj → Sp) : Prop where
  ex : ∃ (f : Addr) (fd : FuncData), mg x = some (.ref f) ∧ PySem.W.keepIn K (.ref f) = true ∧ Binds K fd ps [] ∧ FnS P w K mg base k f fd ps sp
theorem DefS.mk' {P : Program} {w : World} {K : PySem.W.Frag} {mg : Str → Option Value} {base : Heap} {x : Str} {st : Stmt} {N ps : List Str} {k : Nat} {sp : Addr × Obj → Sp} (D : DefAt K mg x st) (S : FnScope N ps (defScope st))
    (hb : ∀ (kV doc pm : Value) (an : Option Addr) (cdv ct : Value) (us : List Value), us.length = ps.length → bindArgs (PySem.W.fnOf x x (defArgs st) (defBody st) (defScope st) .none kV doc pm an cdv ct) ⟨us, []⟩ = pure (ps.zip us))
    (len : ∀ p vs H Q E, sp p vs H Q E → vs.length = ps.length)
    (body : ∀ (cv : Value) (f : Addr) (A : Around) (out : List Env) (s : Shared) (H : Hp) (vs : List V) (Q : VK) (E : XK) (p : Addr × Obj), L2H.RoomH k (A.deeper (envOfC x (defScope st) s.heap.objs.size f cv)) → sp p vs H Q E →
      ∃ t, PSs (L2H.cxH CX0 P w K mg base N x (defScope st) f cv A out s H E p) (defBody st) t ∧ t { nx := fun _ H' => Q .non H', rt := Q } (start N vs) H) : DefS P w K mg base x (k + 1) ps sp := by
  obtain ⟨f, fd, hm, F⟩ := D.ex
  refine ⟨f, fd, hm, F.kp, F.binds hb, ?_⟩
  obtain ⟨oc, od, kV, doc, pm, an, cv, ct, osl, rfl, lk, hcd⟩ := F.ex
  refine ⟨len, fun A out s H args us vs Q E p room pin e0 bnd rel hsp => ?_⟩
  have old : ∀ b o, base.get? b = some o → s.heap.get? b = some o := fun b o e => (e0.bs b o e).1
  have kinds : ∀ y ∈ ps.zip us, (defScope st).names.lookup y.1 = some .local ∨ ((defScope st).names.lookup y.1 = some .cell ∧
      ((cellsFrom (s.heap.objs.size + 1) (defScope st).names []).lookup y.1).isSome = true) := by
    rintro ⟨n, v⟩ m
    rcases S.par n (List.of_mem_zip m).1 with q | q
    · exact Or.inl q
    · exact Or.inr ⟨q, PySem.W.cellsFrom_some _ _ _ (Or.inl q)⟩
  have inK : K.In s.heap := e0.mod.kin.keeps old
  refine codeAny_call_function room.depth (inK _ _ lk) rfl S.co S.gen rfl (PySem.W.codeRec_of inK hcd) (bnd _ _ _ _ ?_)
  refine wpAny_newFunctionEnv_cells S.kind kinds fun env ev s1 ic => ?_
  subst ev
  refine ⟨(e0.mod.nolimit.keeps old).keeps ic.toInCall.keep, codeAny_func ?_⟩
  obtain ⟨t, pss, tq⟩ := body cv f A out s H vs Q E p (room.deeper _) hsp
  have I0 := L2H.inv_startH (CX := CX0) (qual := x) (f := f) (cd := cv) (E := E) S pin e0 (len _ _ _ _ _ hsp) rel ic
  have done : ∀ {s' : Shared} {σ' : L2.St} {H' : Hp} {v : V} {u : Value}, Inv (L2H.cxH CX0 P w K mg base N x (defScope st) f cv A out s H E p) [] σ' H' s' → RelV v u → Q v H' → CE out P w H s Q u s' :=
    fun {s' σ' H' v u} J rv q => ⟨v, H', J.os, J.bare, J.base, J.hok, rv, q⟩
  refine wpAny_mono (pss.run [] s1 (start N vs) H _ I0 tq) (fun fl s' e => ?_) fun _ _ e => e
  match fl, e with
  | .ret u, ⟨v, σ', H', J, rv, q⟩ => exact done J rv q
  | .next, ⟨σ', H', J, q⟩ => exact done (v := .non) (u := .none) J rfl q
  | .brk, ⟨_, _, _, q⟩ => exact q.elim
  | .cont, ⟨_, _, _, q⟩ => exact q.elim
def SpS {α : Type} (args : Addr × Obj → α → List V) (R : Addr × Obj → α → Hp → VK → Prop) : Addr × Obj → Sp := fun p vs H Q _ => ∃ q : α, vs = args p q ∧ R p q H Q
section
variable {X : Cx} {k : Nat} {ps : List Str} {sp : Addr × Obj → Sp} {x : Str} {q pos : Pos} {e : Expr} {es : List Expr} {t : TA} {p : Addr × Obj}
/-- f(e, ..) in a suite -/
def tCallP (sp : Addr × Obj → Sp) (p : Addr × Obj) (t : TA) : TE := fun σ H Q => t σ H fun vs H1 => sp p vs H1 Q fun _ _ _ => False
theorem pe_callP (D : DefS X.prog X.w X.K X.mg X.base x k ps sp) (hp : p ∈ X.pn) (room : L2H.RoomH k X.A) (hg : Gl X x) (ha : PA X (e :: es) t) (hdb : (x == ("__debug__" : Str)) = false := by decide)
    (he : starEach (e :: es) X.env = (false, eval e X.env) :: starEach es X.env := by rfl) (hpl : (backTo pos (starEach es X.env)).any (·.1) = false := by rfl) : PE X (.Call (.Name x q) (e :: es) [] pos) (tCallP sp p t) := by
  obtain ⟨f, fd, hm, hk, hb, F⟩ := D.ex
  constructor
  intro pins s σ H Q I h
  refine wpAny_Call_Name_kw (ld_glob I hg hm ?_ hdb)
  refine PySem.W.callWith_K (h₀ := X.base) I.ok.mod.kin hk (thn (ha.run pos pins s σ H _ I h) fun us s1 ⟨vs, H1, I1, rel, sat⟩ => ⟨I1.kIn, ?_⟩) he hpl
  have n1 : us.length = ps.length := by rw [← rel.length]; exact F.len _ _ _ _ _ sat
  have bs := hb s1 us I1.kIn (by rw [List.append_nil]; exact n1)
  rw [List.append_nil] at bs
  obtain ⟨c1, c2, c3, c4, c5⟩ := I1.pin p (List.mem_append_left _ hp)
  have pin : L2H.PinOk X.stack H1 s1 p := ⟨c1, c2, fun m => (List.mem_cons.mp (I1.stkSub p.1 m)).elim c3 c4, c5⟩
  refine wpAny_call (codeAny_mono (F.run X.A X.stack s1 H1 ⟨us, []⟩ us vs Q _ p room pin I1.env0 bs rel sat) fun res s' hq => ?_)
  match res, hq with
  | .error _, hq => exact (show False from hq).elim
  | .ok (.ret u), hq => exact I1.after hq
  | .ok .next, hq => exact hq.elim
  | .ok .brk, hq => exact hq.elim
  | .ok .cont, hq => exact hq.elim
end
/-- the same in a suite, whatever the held object is besides its class -/
def tCallE (sp : Addr × Obj → Sp) (a : Addr) (cls : Value) (d : Option Addr) (t : TA) : TE := fun σ H Q => t σ H fun vs H1 => ∀ oe, Zc cls d oe → (∃ fs, oe.data = .fields fs) → sp (a, oe) vs H1 Q fun _ _ _ => False
theorem pe_callE {X : Cx} {k : Nat} {ps : List Str} {sp : Addr × Obj → Sp} {x : Str} {q pos : Pos} {e : Expr} {es : List Expr} {t : TA} {a : Addr} {oe : Obj} {cls : Value} {d : Option Addr} {pn : List (Addr × Obj)} (D : DefS X.prog X.w X.K X.mg X.base x k ps sp) (room : L2H.RoomH k (X.suite a ((a, oe) :: pn)).A) (hz : Zc cls d oe) (hf : ∃ fs, oe.data = .fields fs)
    (mono : ∀ (σ : L2.St) (H : Hp) (R R' : List V → Hp → Prop), (∀ vs H1, R vs H1 → R' vs H1) → t σ H R → t σ H R') (hg : Gl (X.suite a ((a, oe) :: pn)) x) (ha : PA (X.suite a ((a, oe) :: pn)) (e :: es) t) (hdb : (x == ("__debug__" : Str)) = false := by decide)
    (he : starEach (e :: es) X.env = (false, eval e X.env) :: starEach es X.env := by rfl) (hpl : (backTo pos (starEach es X.env)).any (·.1) = false := by rfl) : PE (X.suite a ((a, oe) :: pn)) (.Call (.Name x q) (e :: es) [] pos) (tCallE sp a cls d t) := by
  have main := pe_callP (X := X.suite a ((a, oe) :: pn)) (p := (a, oe)) (q := q) (pos := pos) D List.mem_cons_self room hg ha hdb he hpl
  exact ⟨fun pins s σ H Q I h => main.run pins s σ H Q I (mono σ H _ _ (fun vs H1 z => z oe hz hf) h)⟩
theorem mono_one {i : Nat} (σ : L2.St) (H : Hp) (R R' : List V → Hp → Prop) (h : ∀ vs H1, R vs H1 → R' vs H1) (q : tCons (tVar i) tNil σ H R) : tCons (tVar i) tNil σ H R' := by
  obtain ⟨v, e, q⟩ := q
  exact ⟨v, e, h _ _ q⟩
theorem RoomG.hot {k : Nat} {A : Around} (r : RoomG k A) (h : Option Value) : L2H.RoomH k (A.mark h) := ⟨r.room.dp, r.room.un⟩

/-! ### a def that a name of the text holds beside its own -/
structure DefAl (K : PySem.W.Frag) (mg : Str → Option Value) (g x : Str) (st : Stmt) : Prop where
  ex : ∃ (f : Addr) (fd : FuncData), mg g = some (.ref f) ∧ Fun K x x st f fd
section
variable {P : Program} {w : World} {K : PySem.W.Frag} {mg : Str → Option Value} {base : Heap}
theorem DefX.mkA {g x : Str} {st : Stmt} {N ps : List Str} {k : Nat} {α : Type} {args : α → List V} {R : α → Hp → VK → XK → Prop} (D : DefAl K mg g x st) (S : FnScope N ps (defScope st))
    (hb : ∀ (kV doc pm : Value) (an : Option Addr) (cdv ct : Value) (us : List Value), us.length = ps.length → bindArgs (PySem.W.fnOf x x (defArgs st) (defBody st) (defScope st) .none kV doc pm an cdv ct) ⟨us, []⟩ = pure (ps.zip us))
    (hl : ∀ p : α, (args p).length = ps.length) (body : BodyX P w K mg base N x st k (SpE args R)) : DefX P w K mg base g (k + 1) ps (SpE args R) := by
  obtain ⟨f, fd, hm, F⟩ := D.ex
  exact ⟨f, fd, hm, F.kp, F.binds hb, body.fn F S (SpE.len hl)⟩
end

end
section
open PySem PySem.Spec PyProof.Rows L2
variable {P : Program} {w : World} {K : PySem.W.Frag} {mg : Str → Option Value} {base : Heap}
/-! ### dicts whose keys are tuples: pop of a key that is there; a walk over the values -/
section
variable {P : Program} {w : World} {K : PySem.W.Frag} {X : Cx}
/-- the values of a dict with tuples as keys -/
def ItdT (d : Addr) (o : Obj) (kvs : List (List L2.Key × V)) : It :=
  { go := fun j G => G d = some (.frz o (.dT kvs)) ∧ j < kvs.length, yld := fun j G y G' => G' = G ∧ ∃ q, kvs[j]? = some (q, y), stop := fun j G => G d = some (.frz o (.dT kvs)) ∧ kvs.length ≤ j }
theorem frzT_vals {pins : List (Addr × Obj)} {σ : L2.St} {H : Hp} {s : Shared} {d : Addr} {o : Obj} {kvs : List (List L2.Key × V)} (I : Inv X pins σ H s) (h : H d = some (.frz o (.dT kvs))) :
    (d == sysModules) = false ∧ ∃ (es : Array DictEntry) (ep : Nat), o.data = .dict es ep ∧ s.heap.DictRaw d es ep ∧ es.size = kvs.length ∧ ∀ (i : Nat) (k : List L2.Key) (v : V), kvs[i]? = some (k, v) → ∃ en : DictEntry, es[i]? = some en ∧ RelV v en.val := by
  obtain ⟨hget, _, hlow, ents, prd, ob, es, ep, hob, hex, hdata, hel, _⟩ := I.hok d _ h
  cases hget.symm.trans hob
  have hsz : es.size = ents.length := by
    have := congrArg List.length hel
    rw [Array.length_toList, List.length_map] at this
    exact this
  refine ⟨hlow, es, ep, hdata, ⟨_, hget, hex, hdata⟩, by rw [hsz]; exact (Paired.length prd).symm, fun i k v e => ?_⟩
  obtain ⟨q, hq, _, _, rv⟩ := pairedGet prd e
  have e3 : es.toList[i]? = some (entryOfKey (tupleKind (mixKind X.prog X.w)) q) := by rw [hel, List.getElem?_map, hq]; rfl
  rw [Array.getElem?_toList] at e3
  exact ⟨_, e3, rv⟩
theorem turn_valsT {tg : Expr} {d : Addr} {o : Obj} {es : Array DictEntry} {ep : Nat} {kvs : List (List L2.Key × V)} (a : Addr) (hod : o.data = .dict es ep) : Turn P w K tg (ItdT d o kvs) [a] a (fun j h => h.IsValIter a d j kvs.length ep) where
  mem := List.mem_singleton.mpr rfl
  obj := fun j h st b hb => by
    rw [List.mem_singleton.mp hb]
    obtain ⟨ob, e, _, hdat⟩ := st
    exact ⟨ob, e, fun u z => by rw [hdat] at z; cases z⟩
  keep := fun j h h' st kp => st.at fun ob e => kp a List.mem_cons_self ob e
  item := by
    intro Y eP ew eK hcalm j pins s σ H E J hf st hg
    subst eP ew eK
    obtain ⟨hd, hj⟩ := hg
    obtain ⟨z0, z1, z2, z3, z4, z5⟩ := hf a List.mem_cons_self
    obtain ⟨_, es2, ep2, hdt, raw, hsz, ent⟩ := frzT_vals J hd
    obtain ⟨rfl, rfl⟩ := dict_ep hod hdt
    obtain ⟨en, hen, rv⟩ := ent j _ _ (show kvs[j]? = some (kvs[j].1, kvs[j].2) by rw [List.getElem?_eq_getElem hj])
    obtain ⟨hlt, een⟩ := Array.getElem?_eq_some_iff.mp hen
    rw [← hsz] at st
    refine PySem.wpAny_pyNext_values_item_raw st raw hlt fun h2 st2 sb => ?_
    have J2 : Inv Y pins σ H { s with heap := h2 } := J.turned (t' := s.toks) (fun b ob hb e => (sb.2 b hb).trans e) z0 z1 z3 z4 z5
    obtain ⟨oi, e, c, dd⟩ := id st2
    rw [een]
    refine ⟨en.val, rfl, go_of (s := { s with heap := h2 }) e c dd (by decide) ⟨kvs[j].2, H, J2, rv, ⟨rfl, kvs[j].1, by rw [List.getElem?_eq_getElem hj]⟩, ?_, fun b hb => (hf b hb).1⟩⟩
    show Heap.IsValIter h2 a d (j + 1) kvs.length _
    rw [← hsz]
    exact st2
  done := by
    intro Y eP ew eK hcalm j pins s σ H E J hf st hg
    subst eP ew eK
    obtain ⟨hd, hj⟩ := hg
    obtain ⟨z0, z1, z2, z3, z4, z5⟩ := hf a List.mem_cons_self
    obtain ⟨_, es2, ep2, hdt, raw, hsz, _⟩ := frzT_vals J hd
    obtain ⟨rfl, rfl⟩ := dict_ep hod hdt
    rw [← hsz] at st
    exact PySem.wpAny_pyNext_values_end_raw (J.ok.hd hcalm) st raw (by omega) fun h2 eb => ⟨rfl, J.turned (t' := s.toks) (fun b ob hb e => eb b ob hb e) z0 z1 z3 z4 z5⟩
  self := fun B j s Q E st h => wpAny_pyIter_valiter st h
end
section
variable {P : Program} {w : World}
theorem meets_valsRaw {a : Addr} {es : Array DictEntry} {ep : Nat} (low : (a == sysModules) = false) :
    MeetsIn P w (Builtin.«dict.values» ⟨[.ref a], []⟩) (fun _ R s => s.heap.DictRaw a es ep ∧ R (.ok (.ret (.ref s.heap.objs.size))) { s with heap := s.heap.push { cls := .type "dict_values", data := .fields #[.ref a] } }) := by
  refine .of_wp fun B R s h => ?_
  obtain ⟨raw, q⟩ := h
  have nosys : ¬ (a == sysModules) = true := by rw [low]; exact Bool.false_ne_true
  refine wpAny_bind ?_
  unfold Builtin.Dict.noArgs
  refine wpAny_bind (wpAny_notOrdered_dict raw.typeIs (wpAny_pure (a := a) ?_))
  refine wpAny_bind ?_
  unfold Builtin.Dict.showsAll
  rw [if_neg nosys]
  exact wpAny_pure (wpAny_bind (wpAny_newObj_type (wpAny_pure ⟨_, rfl, q⟩)))
end
section
variable {X : Cx} {K : PySem.W.Frag}
/-- for x in d.values(), the keys of d tuples -/
def iValsT (td : TE) : TI := fun σ H R => td σ H fun x G => ∃ a ob kvs, x = .ref a ∧ G a = some (.frz ob (.dT kvs)) ∧ R (ItdT a ob kvs) G
theorem pi_valuesT {tg e : Expr} {td : TE} {apos cpos : Pos} (he : PE X e td) (hb : attributeBase e "values" X.env (eval e X.env) = eval e X.env := by rfl) (hl : (apos.endLine == cpos.line) = true := by rfl) : PI X tg (.Call (.Attribute e "values" apos) [] [] cpos) (iValsT td) := by
  refine ⟨fun pins s σ H R J hyp => ?_⟩
  refine wpAny_Call_method (T := "dict") (id := "dict.values") hb rfl hl PySem.F.plainAttrs_dict PySem.F.slot_dict_values PySem.F.type_dict_values (thn (he.run pins s σ H _ J hyp) fun u s2 ⟨x, G, J1, rx, a, ob, kvs, ex, ha, q⟩ => ?_)
  subst ex
  cases rx
  obtain ⟨low, es, ep, hdata, raw, hsz, _⟩ := frzT_vals J1 ha
  refine ⟨raw.typeIs, ?_, ?_⟩
  · intro b eb
    cases eb
    obtain ⟨o2, h1, h2, _⟩ := raw
    exact ⟨o2, h1, h2.2.1⟩
  have J2 : Inv X pins σ G { s2 with heap := s2.heap.push { cls := .type "dict_values", data := .fields #[.ref a] } } := J1.kept (t' := s2.toks) fun b o2 h => Heap.get?_push_of_some _ h
  have fin : wpAny (model X.prog X.w) X.A (pyIter (.ref s2.heap.objs.size)) (PIE X pins σ tg R) X.xe { s2 with heap := s2.heap.push { cls := .type "dict_values", data := .fields #[.ref a] } } := by
    refine PySem.wpAny_pyIter_values_raw (d := a) ⟨_, Heap.get?_push_size _ rfl, rfl, rfl⟩ (raw.at fun o2 h => Heap.get?_push_of_some _ h) (pi_one (tk := s2.toks) J2 _ (turn_valsT _ hdata) ⟨_, Heap.get?_push_size _ rfl, rfl, ?_⟩ q)
    rw [hsz] <;> rfl
  show wpAny _ _ (callWith cpos (.builtin "dict.values") [.ref a] [] []) _ X.xe s2
  exact method_meetsIn PySem.F.slot_dict_values PySem.F.entry_dict_values rfl (PySem.evalArgs_none ⟨rfl, raw.typeIs, PySem.F.args_dict_values_1 _, _, meets_valsRaw low, ⟨raw, fin⟩⟩)
/-- d.pop(k), k a tuple that is there -/
def rPopT1 : V → List V → Hp → VK → Prop := fun x xs H Q => ∃ (a : Addr) (kvs : List (List L2.Key × V)) (k : List L2.Key) (b : Addr) (v : V), x = .ref a ∧ xs = [.ref b] ∧ H a = some (.dT kvs) ∧ H b = some (.tup (k.map kV)) ∧ valV kvs k = some v ∧ Q v (upd H a (.dT (dropK kvs k)))
end
section
variable {P : Program} {w : World} {κ : Type} [DecidableEq κ] {knd : HeapKind P w κ}
theorem meets_popT1 {a b : Addr} {k : κ} (low : (a == sysModules) = false) :
    MeetsIn P w (Builtin.«dict.pop» ⟨[.ref a, .ref b], []⟩) (fun A R s => ∃ (xs : List (κ × Addr × Value)) (p : Addr × Value), knd.room A.in1 ∧ knd.is s.heap k b ∧ s.heap.DictOfH knd a xs ∧ xs.length ≤ sizeLine ∧ atKey xs k = some p ∧
      ∀ h2 tk, h2.DictOfH knd a (DT.dropH xs k) → Heap.SameBut a s.heap h2 → R (.ok (.ret p.2)) { s with heap := h2, toks := tk }) := by
  refine .of_wp fun B R s h => ?_
  obtain ⟨xs, p, room, isk, dict, small, there, q⟩ := h
  obtain ⟨ob, es, ep, hob, hex, hdata, hel, _, _⟩ := id dict
  have hsz : es.size = xs.length := by
    have := congrArg List.length hel
    rw [Array.length_toList, List.length_map] at this
    exact this
  have full : es.isEmpty = false := by
    cases xs with
    | nil => cases there
    | cons x r =>
      have : es.size ≠ 0 := by rw [hsz]; simp
      simpa using this
  have plain : (keyPart (Value.ref b)).isSome = false := rfl
  unfold Builtin.«dict.pop»
  refine wpAny_bind ?_
  unfold Builtin.Dict.keyAndDefault
  refine wpAny_bind (wpAny_notOrdered_dict dict.typeIs (wpAny_pure (a := (a, Value.ref b, (none : Option Value))) ?_))
  simp only [plain, Bool.false_eq_true, if_false]
  refine wpAny_bind (wpAny_dictEntries hob hdata (wpAny_bind (wpAny_pure ?_)))
  rw [full]
  simp only [Bool.false_eq_true, if_false]
  refine wpAny_bind (DT.takeH room isk dict small (fun no => by rw [there] at no; cases no) fun p2 e hp2 ev h2 hd2 sb => ?_)
  cases there.symm.trans hp2
  simp only [Option.isNone_some, Bool.false_eq_true, if_false]
  refine wpAny_bind (wpAny_letGo (wpAny_pure ⟨e.val, rfl, ?_⟩))
  rw [ev]
  exact q h2 _ hd2 sb
end
section
variable {X : Cx}
theorem mt_popT1 (hu : X.A.units + 1 < cLine) : MtR X "dict.pop" rPopT1 := by
  intro pins s σ H x xs u us Q J rx rxs h
  obtain ⟨a, kvs, k, b, v, rfl, rfl, ha, hb, hv, q⟩ := h
  cases rx
  obtain ⟨u2, rfl, r2⟩ := vals1 rxs
  cases r2
  obtain ⟨small, low, ents, rel, dd⟩ := dt_of J.hok ha
  have r := rel.val k
  rw [hv] at r
  obtain ⟨p, hp, rv⟩ : ∃ p : Addr × Value, atKey ents k = some p ∧ RelV v p.2 := by
    cases e : atKey ents k with
    | none =>
      rw [e] at r
      exact (show False from r).elim
    | some p =>
      rw [e] at r
      exact ⟨p, rfl, r⟩
  refine call_meetsIn PySem.F.slot_dict_pop dd.typeIs PySem.F.entry_dict_pop (PySem.F.args_dict_pop_2 _ _) (meets_popT1 (knd := tupleKind (mixKind X.prog X.w)) (k := k) low)
    ⟨ents, p, tupleKind_room_in1 hu, key_of J.hok hb, dd, by rw [← Paired.length rel]; exact small, hp, fun h2 tk d2 sb => ?_⟩
  obtain ⟨ob, es, ep, hob, e2, e3, e4, _, e5⟩ := d2
  have kept := (L2.DX.KT_drop k rel).keeps (H' := upd H a (.dT (dropK kvs k))) (fun c ys ec => by rw [upd_ne (ne_of ec ha (fun z => nomatch z))]; exact ec)
  have J2 : Inv X pins σ (upd H a (.dT (dropK kvs k))) { s with heap := h2, toks := tk } :=
    d_write J (by rw [ha]; exact True.intro) sb ⟨ob, hob⟩ ⟨Nat.le_trans (dropK_le kvs k) small, low, _, kept, ob, es, ep, hob, e2, e3, e4, e5⟩
  exact ⟨v, _, J2, rv, q⟩
end
/-! ### list(d.values()) -/
section
variable {X : Cx} {e : Expr} {te : TE} {p apos cpos pos : Pos}
def tListVals (te : TE) : TE := fun σ H Q => te σ H fun x G => ∃ (a : Addr) (kvs : List (L2.Key × V)), x = .ref a ∧ G a = some (.dK kvs) ∧ ∀ q, G q = none → Q (.ref q) (upd G q (.lst (kvs.map fun kv => kv.2)))
theorem pe_listValues (hc : X.calm = true) (he : PE X e te) (hg : Gl X "list") (hm : X.mg "list" = none) (hv : bootBuiltins "list" = some (.type "list")) (hb : attributeBase e "values" X.env (eval e X.env) = eval e X.env := by rfl) (hl : (apos.endLine == cpos.line) = true := by rfl)
    (hs : starEach [.Call (.Attribute e "values" apos) [] [] cpos] X.env = (false, eval (.Call (.Attribute e "values" apos) [] [] cpos) X.env) :: starEach [] X.env := by rfl) :
    PE X (.Call (.Name "list" p) [.Call (.Attribute e "values" apos) [] [] cpos] [] pos) (tListVals te) := by
  refine ⟨fun pins s σ H Q J hq => wpAny_Call_Name_kw (ld_blt J hg hm hv (PyProof.Rows.callWith_type1 ?_ hs rfl))⟩
  rw [hs]
  show wpAny _ _ (spliced ((false, eval (.Call (.Attribute e "values" apos) [] [] cpos) X.env) :: backTo pos (starEach [] X.env))) _ _ s
  refine Calls.spliced_cons (wpAny_Call_method (T := "dict") (id := "dict.values") hb rfl hl PySem.F.plainAttrs_dict PySem.F.slot_dict_values PySem.F.type_dict_values (thn (he.run pins s σ H _ J hq) fun u s2 ⟨x, G, J1, rx, a, kvs, ex, ha, q⟩ => ?_))
  subst ex
  cases rx
  obtain ⟨small, low, ws, rel, dict⟩ := J1.hok a _ ha
  obtain ⟨ep, hat⟩ := dict.dictAt
  have len : kvs.length = ws.length := Paired.length rel
  have J2 : Inv X pins σ G { s2 with heap := s2.heap.push { cls := .type "dict_values", data := .fields #[.ref a] } } := J1.kept (t' := s2.toks) fun b o2 h => Heap.get?_push_of_some _ h
  refine ⟨dict.typeIs, dict.mapOf.noDict, ?_⟩
  show wpAny _ _ (callWith cpos (.builtin "dict.values") [.ref a] [] []) _ X.xe s2
  refine method_meetsIn PySem.F.slot_dict_values PySem.F.entry_dict_values rfl (PySem.evalArgs_none ⟨rfl, dict.typeIs, PySem.F.args_dict_values_1 _, _, meets_dict_values (mixKind X.prog X.w) a low, ⟨ws, dict⟩, ?_⟩)
  refine Calls.spliced_nil ?_
  refine PySem.W.kdl_call (PySem.W.kdl_values (knd := mixKind X.prog X.w) (d := a) (kvs := ws) (ep := ep)) (J2.ok.hd hc) ⟨⟨_, Heap.get?_push_size _ rfl, rfl, rfl⟩, hat.push _⟩ (by omega) fun h2 tk acc c kept hS hacc => ?_
  refine ⟨.ref (s2.heap.push { cls := .type "dict_values", data := .fields #[.ref a] }).objs.size, upd G (s2.heap.push { cls := .type "dict_values", data := .fields #[.ref a] }).objs.size (.lst (kvs.map fun kv => kv.2)), J2.laid kept (Nat.le_refl _) (show ObjOk X.prog X.w _ _ _ (.lst (kvs.map fun kv => kv.2)) from ⟨?_, acc.toList, c, ?_, ?_⟩), rfl, q _ (J2.hok.fresh (Nat.le_refl _))⟩
  · rw [List.length_map]
    exact small
  · have el : acc.toList.length = acc.size := Array.length_toList
    refine vals_of_at (by rw [List.length_map, el, hacc.1, len]) fun j y z h1 h3 => ?_
    obtain ⟨k, hk⟩ := hacc.2 j z (by rw [← Array.getElem?_toList]; exact h3)
    rw [List.getElem?_map] at h1
    obtain ⟨kv, hkv, rfl⟩ := Option.map_eq_some_iff.mp h1
    obtain ⟨w', hw', _, r⟩ := pairedGet rel hkv
    rw [hk] at hw'
    cases hw'
    exact r
  · rw [Array.toArray_toList]
    exact hS
end

/-! ### (None,) * n -/
section
open PySem.AutoSeq1 (wpAny_loadPart')
theorem tup_mul0 (l : Addr) (x : Value) (n : Nat) (dd : Option Addr) (sl : Array (Option Value)) (u : Tok) :
    Meets (Builtin.«tuple.__mul__» ⟨[.ref l, .int 0 u], []⟩) (fun _ R s => s.heap.get? l = some { cls := .type "tuple", dict := dd, data := .seq #[x] n, slots := sl } ∧
      R (.ok (.ret (Value.ref s.heap.objs.size))) { s with heap := s.heap.push { cls := Value.type "tuple", data := Data.seq #[] }, toks := s.toks }) := by
  refine .of_wp fun prog w B R s h => ?_
  obtain ⟨hp, g, d, tk, os⟩ := s
  obtain ⟨hl, h⟩ := h
  have f1 := AutoSeq1.idx_int
  wp_walk using wpAny_loadPart' hl
  exact ⟨_, rfl, h⟩
theorem tup_mul1 (l : Addr) (x : Value) (n : Nat) (dd : Option Addr) (sl : Array (Option Value)) (u : Tok) :
    Meets (Builtin.«tuple.__mul__» ⟨[.ref l, .int 1 u], []⟩) (fun _ R s => s.heap.get? l = some { cls := .type "tuple", dict := dd, data := .seq #[x] n, slots := sl } ∧ R (.ok (.ret (Value.ref l))) s) := by
  refine .of_wp fun prog w B R s h => ?_
  obtain ⟨hp, g, d, tk, os⟩ := s
  obtain ⟨hl, h⟩ := h
  have f1 := AutoSeq1.idx_int
  wp_walk using wpAny_loadPart' hl
  exact ⟨_, rfl, h⟩
end
def rRepN : R2 := fun x y H Q => ∃ (l : Addr) (k : Int), x = .ref l ∧ y = .int k ∧ H l = some (.tup [.non]) ∧ 0 ≤ k ∧ k ≤ 1000 ∧ ∀ (p : Addr) (H' : Hp), Same H H' → H' p = some (.tup (List.replicate k.toNat .non)) → Q (.ref p) H'
theorem flat_one {α : Type} (x : α) (n : Nat) : (List.replicate n [x]).flatten = List.replicate n x := by
  induction n with
  | zero => rfl
  | succ n ih => rw [List.replicate_succ, List.flatten_cons, ih]; rfl
section
variable {X : Cx}
theorem op_repN : OpR X (binaryOp .Mult) rRepN := by
  intro pins s σ H x y v u Q J rx ry h
  obtain ⟨l, k, rfl, rfl, hl, h0, h1, q⟩ := h
  by_cases h2 : 2 ≤ k
  · refine op_repT pins s σ H _ _ v u Q J rx ry ⟨l, k, [.non], rfl, rfl, SqT.of hl, by simp, h2, h1, by show 1 ≤ 1000; decide, fun p np => q p _ (nws np (Same.refl H)) ?_⟩
    rw [upd_same, flat_one]
  cases rx
  obtain ⟨t, rfl⟩ := ry
  obtain ⟨its, r, ⟨⟨cls, dd, data, sl⟩, ho, hc, n, hd⟩, hs⟩ := J.tuple (SqT.of (K := X.K) hl)
  simp only at hc hd
  subst hc hd
  obtain ⟨x, rfl, _⟩ := vals1 r
  have hk : k = 0 ∨ k = 1 := by omega
  rcases hk with rfl | rfl
  · refine wpAny_binaryOp_repeat_ref (T := "tuple") (U := "int") (by decide) ⟨_, ho, rfl⟩ (fun s' => typeIs_int s' 0 t) noFill_tuple_mul PySem.F.fills_int_mul PySem.F.slot_int_rmul repeat_tuple PySem.F.slot_int_index.lookup
      (call_meets PySem.F.slot_int_rmul (typeIs_int s 0 t) PySem.F.entry_int_rmul (PySem.F.args_int_rmul_2 _ _) (int_rmul_tuple 0 t l [x].toArray n dd sl)
        ⟨ho, rfl, ⟨_, ho, rfl⟩, call_meets PySem.F.slot_tuple_mul ⟨_, ho, rfl⟩ PySem.F.entry_tuple_mul (PySem.F.args_tuple_mul_2 _ _) (tup_mul0 l x n dd sl t) ⟨ho, ?_⟩⟩)
    have np : H s.heap.objs.size = none := J.hok.fresh (Nat.le_refl _)
    refine ⟨.ref s.heap.objs.size, upd H s.heap.objs.size (.tup []), J.laid (t' := s.toks) (o := .tup []) (fun b ob q => Heap.get?_push_of_some _ q) (Nat.le_refl _) ⟨Nat.zero_le _, [], .nil, IsTup.new _ _⟩, rfl, q _ _ (nws np (Same.refl H)) upd_same⟩
  · refine wpAny_binaryOp_repeat_ref (T := "tuple") (U := "int") (by decide) ⟨_, ho, rfl⟩ (fun s' => typeIs_int s' 1 t) noFill_tuple_mul PySem.F.fills_int_mul PySem.F.slot_int_rmul repeat_tuple PySem.F.slot_int_index.lookup
      (call_meets PySem.F.slot_int_rmul (typeIs_int s 1 t) PySem.F.entry_int_rmul (PySem.F.args_int_rmul_2 _ _) (int_rmul_tuple 1 t l [x].toArray n dd sl)
        ⟨ho, rfl, ⟨_, ho, rfl⟩, call_meets PySem.F.slot_tuple_mul ⟨_, ho, rfl⟩ PySem.F.entry_tuple_mul (PySem.F.args_tuple_mul_2 _ _) (tup_mul1 l x n dd sl t) ⟨ho, ?_⟩⟩)
    exact ⟨.ref l, H, J, rfl, q _ _ (Same.refl H) hl⟩
end

end
section
open PySem PySem.Spec PyProof.Rows L2
variable {P : Program} {w : World} {K : PySem.W.Frag} {mg : Str → Option Value} {base : Heap}
/-! ### heaps in parts: what stands apart, and what never changes -/
def isFix : HO → Bool
  | .tup _ => true
  | .frz _ _ => true
  | _ => false
/-- what can't change is as it was -/
def Imm (H H' : Hp) : Prop := ∀ a o, H a = some o → isFix o = true → H' a = some o
theorem Imm.refl (H : Hp) : Imm H H := fun _ _ h _ => h
theorem Imm.trans {H H1 H2 : Hp} (a : Imm H H1) (b : Imm H1 H2) : Imm H H2 := fun x o h f => b x o (a x o h f) f
theorem Imm.same {H H' : Hp} (s : Same H H') : Imm H H' := fun x o h _ => s x o h
theorem Imm.wr {H : Hp} {a : Addr} {o u : HO} (h : H a = some u) (f : isFix u = false) : Imm H (upd H a o) := fun x v e g => by
  rw [upd_ne]
  · exact e
  · rintro rfl
    rw [h] at e
    cases e
    rw [f] at g
    cases g
theorem Imm.new {H : Hp} {a : Addr} {o : HO} (h : H a = none) : Imm H (upd H a o) := Imm.same (nws h (Same.refl H))
/-- an assertion: its places, what is said of them -/
structure Asr where
  p : (Addr → Prop) → Hp → Prop
  loc : ∀ {S : Addr → Prop} {H H' : Hp}, p S H → (∀ a, S a → H' a = H a) → Imm H H' → p S H'
  dom : ∀ {S : Addr → Prop} {H : Hp} {a : Addr}, p S H → S a → H a ≠ none
/-- assertions side by side -/
def Sat : List Asr → (Addr → Prop) → Hp → Prop
  | [], S, _ => ∀ a, ¬ S a
  | A :: l, S, H => ∃ S1 S2 : Addr → Prop, A.p S1 H ∧ Sat l S2 H ∧ (∀ a, S1 a → ¬ S2 a) ∧ ∀ a, S a ↔ (S1 a ∨ S2 a)
def Holds (l : List Asr) (H : Hp) : Prop := ∃ S, Sat l S H
theorem Sat.loc : ∀ {l : List Asr} {S : Addr → Prop} {H H' : Hp}, Sat l S H → (∀ a, S a → H' a = H a) → Imm H H' → Sat l S H'
  | [], _, _, _, h, _, _ => h
  | _ :: _, _, _, _, ⟨S1, S2, h1, h2, d, u⟩, k, i => ⟨S1, S2, Asr.loc _ h1 (fun a m => k a ((u a).mpr (.inl m))) i, Sat.loc h2 (fun a m => k a ((u a).mpr (.inr m))) i, d, u⟩
theorem Sat.dom : ∀ {l : List Asr} {S : Addr → Prop} {H : Hp} {a : Addr}, Sat l S H → S a → H a ≠ none
  | [], _, _, a, h, m => (h a m).elim
  | _ :: _, _, _, a, ⟨_, _, h1, h2, _, u⟩, m => ((u a).mp m).elim (Asr.dom _ h1) (Sat.dom h2)
theorem Sat.app : ∀ {l m : List Asr} {S : Addr → Prop} {H : Hp}, Sat (l ++ m) S H ↔ ∃ S1 S2 : Addr → Prop, Sat l S1 H ∧ Sat m S2 H ∧ (∀ a, S1 a → ¬ S2 a) ∧ ∀ a, S a ↔ (S1 a ∨ S2 a)
  | [], m, S, H => ⟨fun h => ⟨fun _ => False, S, fun _ z => z, h, fun _ z => z.elim, fun a => ⟨.inr, fun z => z.elim False.elim id⟩⟩, fun ⟨S1, S2, h1, h2, _, u⟩ => by
      have : S2 = S := funext fun a => propext ⟨fun z => (u a).mpr (.inr z), fun z => ((u a).mp z).elim (fun q => (h1 a q).elim) id⟩
      rw [← this]
      exact h2⟩
  | A :: l, m, S, H => by
    constructor
    · rintro ⟨S1, S2, h1, h2, d, u⟩
      obtain ⟨T1, T2, k1, k2, e, v⟩ := Sat.app.mp h2
      exact ⟨fun a => S1 a ∨ T1 a, T2, ⟨S1, T1, h1, k1, fun a z q => d a z ((v a).mpr (.inl q)), fun a => Iff.rfl⟩, k2, fun a z q => z.elim (fun z => d a z ((v a).mpr (.inr q))) fun z => e a z q, fun a => by rw [u a, v a, or_assoc]⟩
    · rintro ⟨S1, S2, ⟨T1, T2, k1, k2, e, v⟩, h2, d, u⟩
      exact ⟨T1, fun a => T2 a ∨ S2 a, k1, Sat.app.mpr ⟨T2, S2, k2, h2, fun a z q => d a ((v a).mpr (.inr z)) q, fun a => Iff.rfl⟩, fun a z q => q.elim (e a z) fun q => d a ((v a).mpr (.inl z)) q, fun a => by rw [u a, v a, or_assoc]⟩
theorem Sat.perm {l m : List Asr} (p : l.Perm m) : ∀ {S : Addr → Prop} {H : Hp}, Sat l S H → Sat m S H := by
  induction p with
  | nil => exact fun h => h
  | cons A _ ih => exact fun ⟨S1, S2, h1, h2, d, u⟩ => ⟨S1, S2, h1, ih h2, d, u⟩
  | swap A B l =>
    rintro S H ⟨S1, S2, h1, ⟨T1, T2, k1, k2, e, v⟩, d, u⟩
    exact ⟨T1, fun a => S1 a ∨ T2 a, k1, ⟨S1, T2, h1, k2, fun a z q => d a z ((v a).mpr (.inr q)), fun a => Iff.rfl⟩, fun a z q => q.elim (fun q => d a q ((v a).mpr (.inl z))) (e a z), fun a => by rw [u a, v a]; exact or_left_comm⟩
  | trans _ _ ih1 ih2 => exact fun h => ih2 (ih1 h)
theorem Holds.perm {l m : List Asr} {H : Hp} (h : Holds l H) (p : l.Perm m) : Holds m H := h.imp fun _ => Sat.perm p
/-- the i-th ahead -/
def pick (i : Nat) (l : List Asr) : List Asr := (l.drop i).take 1 ++ (l.take i ++ l.drop (i + 1))
theorem pick_perm (i : Nat) (l : List Asr) : l.Perm (pick i l) := by
  have e : l = l.take i ++ ((l.drop i).take 1 ++ l.drop (i + 1)) := by
    have : l.drop (i + 1) = (l.drop i).drop 1 := by rw [List.drop_drop]
    rw [this, List.take_append_drop, List.take_append_drop]
  have q : (l.take i ++ ((l.drop i).take 1 ++ l.drop (i + 1))).Perm (pick i l) := by
    unfold pick
    rw [← List.append_assoc, ← List.append_assoc]
    exact List.perm_append_comm.append_right _
  exact (List.Perm.of_eq e).trans q
theorem Holds.pick {l : List Asr} {H : Hp} (h : Holds l H) (i : Nat) : Holds (KW.pick i l) H := h.perm (pick_perm i l)
theorem pick_cons (A : Asr) (l : List Asr) : pick 0 (A :: l) = A :: l := rfl
/-- the first goes to the i-th place -/
def back (i : Nat) : List Asr → List Asr
  | [] => []
  | A :: l => l.take i ++ A :: l.drop i
theorem Holds.back {l : List Asr} {H : Hp} (h : Holds l H) (i : Nat) : Holds (KW.back i l) H := by
  cases l with
  | nil => exact h
  | cons A l =>
    refine h.perm ?_
    show (A :: l).Perm (l.take i ++ A :: l.drop i)
    refine .trans ?_ List.perm_middle.symm
    rw [List.take_append_drop]
theorem Holds.tail {A : Asr} {l : List Asr} {H : Hp} (h : Holds (A :: l) H) : Holds l H := by
  obtain ⟨S, S1, S2, _, h2, _⟩ := h
  exact ⟨S2, h2⟩
theorem Holds.drop {l : List Asr} {H : Hp} (h : Holds l H) : ∀ n, Holds (l.drop n) H := fun n => by
  induction n generalizing l with
  | zero => exact h
  | succ n ih =>
    cases l with
    | nil => exact h
    | cons A l => exact ih h.tail
theorem Holds.same {l : List Asr} {H H' : Hp} (h : Holds l H) (s : Same H H') : Holds l H' := by
  obtain ⟨S, h⟩ := h
  refine ⟨S, h.loc (fun a m => ?_) (Imm.same s)⟩
  cases e : H a with
  | none => exact absurd e (h.dom m)
  | some o => exact s a o e
theorem Holds.newI {l : List Asr} {H : Hp} {p : Addr} {o : HO} (h : Holds l H) (n : H p = none) : Holds l (upd H p o) := h.same (nws n (Same.refl H))
/-- two assertions that say the same -/
def Asr.Le (A B : Asr) : Prop := ∀ S H, A.p S H → B.p S H
theorem Holds.le {A B : Asr} {l : List Asr} {H : Hp} (h : Holds (A :: l) H) (e : A.Le B) : Holds (B :: l) H := by
  obtain ⟨S, S1, S2, h1, r⟩ := h
  exact ⟨S, S1, S2, e _ _ h1, r⟩
/-- one place -/
def cell (a : Addr) (φ : HO → Hp → Prop) (mono : ∀ (o : HO) (H H' : Hp), φ o H → Imm H H' → φ o H') : Asr where
  p S H := (∀ x, S x ↔ x = a) ∧ ∃ o, H a = some o ∧ isFix o = false ∧ φ o H
  loc := fun ⟨h1, o, h2, h3, h4⟩ k i => ⟨h1, o, (k _ ((h1 _).mpr rfl)).trans h2, h3, mono _ _ _ h4 i⟩
  dom := fun ⟨h1, o, h2, _⟩ m e => by rw [(h1 _).mp m, h2] at e; cases e
section
variable {a : Addr} {φ ψ : HO → Hp → Prop} {m : ∀ (o : HO) (H H' : Hp), φ o H → Imm H H' → φ o H'} {m' : ∀ (o : HO) (H H' : Hp), ψ o H → Imm H H' → ψ o H'} {l : List Asr} {H : Hp} {o : HO}
theorem Holds.cell (h : Holds (KW.cell a φ m :: l) H) : ∃ o, H a = some o ∧ isFix o = false ∧ φ o H := by
  obtain ⟨S, S1, S2, h1, _⟩ := h
  exact h1.2
theorem Holds.put (h : Holds (KW.cell a φ m :: l) H) (f : isFix o = false) (q : ψ o H) : Holds (KW.cell a ψ m' :: l) (upd H a o) := by
  obtain ⟨S, S1, S2, ⟨h1, u, h2, h3, h4⟩, h5, d, e⟩ := h
  have i : Imm H (upd H a o) := Imm.wr h2 h3
  refine ⟨S, S1, S2, ⟨h1, o, upd_same, f, m' _ _ _ q i⟩, h5.loc (fun x hx => upd_ne fun z => ?_) i, d, e⟩
  exact d x ((h1 x).mpr z) hx
theorem Holds.imm (h : Holds (KW.cell a φ m :: l) H) {o : HO} : Imm H (upd H a o) := by
  obtain ⟨u, h2, h3, _⟩ := h.cell
  exact Imm.wr h2 h3
theorem Holds.new (h : Holds l H) (n : H a = none) (f : isFix o = false) (q : ψ o H) : Holds (KW.cell a ψ m' :: l) (upd H a o) := by
  obtain ⟨S, h⟩ := h
  have i : Imm H (upd H a o) := Imm.new n
  exact ⟨fun x => x = a ∨ S x, fun x => x = a, S, ⟨fun _ => Iff.rfl, o, upd_same, f, m' _ _ _ q i⟩, h.loc (fun x hx => upd_ne fun z => h.dom hx (by rw [z]; exact n)) i, fun x z hx => h.dom hx (by rw [z]; exact n), fun _ => Iff.rfl⟩
/-- a cell may be seen otherwise -/
theorem Holds.see (h : Holds (KW.cell a φ m :: l) H) (q : ∀ o, H a = some o → φ o H → ψ o H) : Holds (KW.cell a ψ m' :: l) H := by
  obtain ⟨S, S1, S2, ⟨h1, u, h2, h3, h4⟩, r⟩ := h
  exact ⟨S, S1, S2, ⟨h1, u, h2, h3, q u h2 h4⟩, r⟩
/-- what is owned is not elsewhere -/
theorem Holds.ne {b : Addr} (h : Holds (KW.cell a φ m :: KW.cell b ψ m' :: l) H) : a ≠ b := by
  obtain ⟨S, S1, S2, ⟨h1, _⟩, ⟨T1, T2, ⟨k1, _⟩, _, _, v⟩, d, _⟩ := h
  intro e
  exact d a ((h1 a).mpr rfl) ((v a).mpr (.inl ((k1 a).mpr e)))
end
/-- a known object at a place -/
def pt (a : Addr) (o : HO) : Asr := cell a (fun u _ => u = o) fun _ _ _ h _ => h
section
variable {a : Addr} {o o' : HO} {l : List Asr} {H : Hp}
theorem Holds.at (h : Holds (pt a o :: l) H) : H a = some o := by
  obtain ⟨u, h1, _, rfl⟩ := Holds.cell h
  exact h1
theorem Holds.set (h : Holds (pt a o :: l) H) (f : isFix o' = false := by rfl) : Holds (pt a o' :: l) (upd H a o') := Holds.put h f rfl
theorem Holds.mk (h : Holds l H) (n : H a = none) (f : isFix o = false := by rfl) : Holds (pt a o :: l) (upd H a o) := Holds.new h n f rfl
theorem Holds.rd {i : Nat} (h : Holds l H) (hi : l[i]? = some (pt a o)) : H a = some o := by
  have h := h.drop i
  rw [List.drop_eq_getElem?_toList_append, hi] at h
  exact h.at
end
/-- facts that nothing changes -/
def fact (φ : Hp → Prop) (mono : ∀ (H H' : Hp), φ H → Imm H H' → φ H') : Asr where
  p S H := (∀ x, ¬ S x) ∧ φ H
  loc := fun ⟨h1, h2⟩ _ i => ⟨h1, mono _ _ h2 i⟩
  dom := fun ⟨h1, _⟩ m => (h1 _ m).elim
def prop (P : Prop) : Asr := fact (fun _ => P) fun _ _ h _ => h
def exA {α : Type} (f : α → Asr) : Asr where
  p S H := ∃ x, (f x).p S H
  loc := fun ⟨x, h⟩ k i => ⟨x, (f x).loc h k i⟩
  dom := fun ⟨x, h⟩ m => (f x).dom h m
def star (m : List Asr) : Asr where
  p S H := Sat m S H
  loc := Sat.loc
  dom := Sat.dom
section
variable {l m : List Asr} {H : Hp}
theorem holds_fact {φ : Hp → Prop} {mono : ∀ (H H' : Hp), φ H → Imm H H' → φ H'} : Holds (fact φ mono :: l) H ↔ φ H ∧ Holds l H := by
  constructor
  · rintro ⟨S, S1, S2, ⟨h1, h2⟩, h3, d, u⟩
    exact ⟨h2, S2, h3⟩
  · rintro ⟨h2, S, h⟩
    exact ⟨S, fun _ => False, S, ⟨fun _ z => z, h2⟩, h, fun _ z => z.elim, fun a => ⟨.inr, fun z => z.elim False.elim id⟩⟩
theorem holds_prop {P : Prop} : Holds (prop P :: l) H ↔ P ∧ Holds l H := holds_fact
theorem holds_ex {α : Type} {f : α → Asr} : Holds (exA f :: l) H ↔ ∃ x, Holds (f x :: l) H := by
  constructor
  · rintro ⟨S, S1, S2, ⟨x, h1⟩, r⟩
    exact ⟨x, S, S1, S2, h1, r⟩
  · rintro ⟨x, S, S1, S2, h1, r⟩
    exact ⟨S, S1, S2, ⟨x, h1⟩, r⟩
theorem holds_star : Holds (star m :: l) H ↔ Holds (m ++ l) H := by
  constructor
  · rintro ⟨S, S1, S2, h1, h2, d, u⟩
    exact ⟨S, Sat.app.mpr ⟨S1, S2, h1, h2, d, u⟩⟩
  · rintro ⟨S, h⟩
    obtain ⟨S1, S2, h1, h2, d, u⟩ := Sat.app.mp h
    exact ⟨S, S1, S2, h1, h2, d, u⟩
end
/-- one assertion for each of a list -/
def big {α : Type} (f : α → Asr) (xs : List α) : Asr := star (xs.map f)
section
variable {α : Type} {f : α → Asr} {xs : List α} {l : List Asr} {H : Hp}
theorem big_nil : Holds (big f [] :: l) H ↔ Holds l H := holds_star
theorem big_cons {x : α} : Holds (big f (x :: xs) :: l) H ↔ Holds (f x :: big f xs :: l) H := by
  constructor
  · intro h
    have h2 : Holds (f x :: (xs.map f ++ l)) H := holds_star.mp h
    obtain ⟨S, S1, S2, h1, h3, r⟩ := h2
    obtain ⟨T1, T2, k1, k2, d, u⟩ := Sat.app.mp h3
    exact ⟨S, S1, S2, h1, ⟨T1, T2, k1, k2, d, u⟩, r⟩
  · rintro ⟨S, S1, S2, h1, ⟨T1, T2, k1, k2, d, u⟩, r⟩
    refine holds_star.mpr ?_
    exact ⟨S, S1, S2, h1, Sat.app.mpr ⟨T1, T2, k1, k2, d, u⟩, r⟩
theorem big_perm {ys : List α} (p : xs.Perm ys) (h : Holds (big f xs :: l) H) : Holds (big f ys :: l) H :=
  holds_star.mpr ((holds_star.mp h).perm ((p.map f).append_right l))
theorem perm_erase {α : Type} : ∀ {xs : List α} {i : Nat} {x : α}, xs[i]? = some x → xs.Perm (x :: xs.eraseIdx i)
  | [], _, _, h => by simp at h
  | y :: ys, 0, x, h => by
    cases h
    exact .refl _
  | y :: ys, i + 1, x, h => (List.Perm.cons y (perm_erase (xs := ys) (i := i) (by simpa using h))).trans (List.Perm.swap _ _ _)
theorem big_at {i : Nat} {x : α} (hx : xs[i]? = some x) : Holds (big f xs :: l) H ↔ Holds (f x :: big f (xs.eraseIdx i) :: l) H := by
  have p := perm_erase hx
  exact ⟨fun h => big_cons.mp (big_perm p h), fun h => big_perm p.symm (big_cons.mpr h)⟩
theorem big_set {i : Nat} {y : α} (hi : i < xs.length) : Holds (big f (xs.set i y) :: l) H ↔ Holds (f y :: big f (xs.eraseIdx i) :: l) H := by
  rw [big_at (i := i) (x := y) (by rw [List.getElem?_set_self hi]), List.eraseIdx_set_eq]
theorem big_snoc {x : α} : Holds (big f (xs ++ [x]) :: l) H ↔ Holds (f x :: big f xs :: l) H := by
  have p : (xs ++ [x]).Perm (x :: xs) := List.perm_append_comm
  exact ⟨fun h => big_cons.mp (big_perm p h), fun h => big_perm p.symm (big_cons.mpr h)⟩
end
section
variable {a : Addr} {φ ψ : HO → Hp → Prop} {m : ∀ (o : HO) (H H' : Hp), φ o H → Imm H H' → φ o H'} {m' : ∀ (o : HO) (H H' : Hp), ψ o H → Imm H H' → ψ o H'} {l : List Asr} {H : Hp} {o : HO}
theorem set_perm {α : Type} : ∀ {l : List α} {i : Nat} {x y : α}, l[i]? = some y → (l.set i x).Perm (x :: l.eraseIdx i)
  | [], _, _, _, h => by simp at h
  | z :: zs, 0, _, _, h => .refl _
  | z :: zs, i + 1, x, y, h => (List.Perm.cons z (set_perm (l := zs) (i := i) (x := x) (y := y) (by simpa using h))).trans (List.Perm.swap _ _ _)
theorem Asr.perm_erase : ∀ {xs : List Asr} {i : Nat} {x : Asr}, xs[i]? = some x → xs.Perm (x :: xs.eraseIdx i)
  | [], _, _, h => by simp at h
  | y :: ys, 0, x, h => by
    cases h
    exact .refl _
  | y :: ys, i + 1, x, h => (List.Perm.cons y (Asr.perm_erase (xs := ys) (i := i) (by simpa using h))).trans (List.Perm.swap _ _ _)
theorem Asr.set_perm : ∀ {l : List Asr} {i : Nat} {x y : Asr}, l[i]? = some y → (l.set i x).Perm (x :: l.eraseIdx i)
  | [], _, _, _, h => by simp at h
  | z :: zs, 0, _, _, h => .refl _
  | z :: zs, i + 1, x, y, h => (List.Perm.cons z (Asr.set_perm (l := zs) (i := i) (x := x) (y := y) (by simpa using h))).trans (List.Perm.swap _ _ _)
/-- the i-th is a cell -/
theorem Holds.nth {i : Nat} (h : Holds l H) (hi : l[i]? = some (KW.cell a φ m)) : ∃ o, H a = some o ∧ isFix o = false ∧ φ o H := (h.perm (Asr.perm_erase hi)).cell
/-- the i-th cell is written -/
theorem Holds.mod (i : Nat) (h : Holds l H) (hi : l[i]? = some (KW.cell a φ m)) (f : isFix o = false) (q : ψ o H) : Holds (l.set i (KW.cell a ψ m')) (upd H a o) :=
  ((h.perm (Asr.perm_erase hi)).put (m' := m') f q).perm (Asr.set_perm hi).symm
theorem Holds.modI {i : Nat} (h : Holds l H) (hi : l[i]? = some (KW.cell a φ m)) (o : HO) : Imm H (upd H a o) := (h.perm (Asr.perm_erase hi)).imm
/-- the i-th opened, one put in its place -/
theorem Holds.swap (i : Nat) {A B : Asr} (h : Holds l H) (hi : l[i]? = some A) (q : ∀ R H, Holds (A :: R) H → Holds (B :: R) H) : Holds (l.set i B) H := (q _ _ (h.perm (Asr.perm_erase hi))).perm (Asr.set_perm hi).symm
/-- the i-th ahead, and back -/
theorem Holds.out (i : Nat) {A : Asr} (h : Holds l H) (hi : l[i]? = some A) : Holds (A :: l.eraseIdx i) H := h.perm (Asr.perm_erase hi)
theorem Holds.into (i : Nat) {A B : Asr} {H : Hp} (hi : l[i]? = some A) (h : Holds (B :: l.eraseIdx i) H) : Holds (l.set i B) H := h.perm (Asr.set_perm hi).symm
end
theorem Imm.tups {H H' : Hp} (i : Imm H H') : ∀ a xs, H a = some (.tup xs) → H' a = some (.tup xs) := fun a xs h => i a _ h rfl
theorem sqT_imm {K : PySem.W.Frag} {H H' : Hp} (i : Imm H H') {a : Addr} {xs : List V} (h : SqT K H a xs) : SqT K H' a xs := by
  rcases h with (h | ⟨o, h⟩) | h
  · exact .inl (.inl (i _ _ h rfl))
  · exact .inl (.inr ⟨o, i _ _ h rfl⟩)
  · exact .inr h
section
variable {a : Addr} {o o' : HO} {l : List Asr} {H : Hp}
theorem Holds.modP (i : Nat) (h : Holds l H) (hi : l[i]? = some (pt a o)) (f : isFix o' = false := by rfl) : Holds (l.set i (pt a o')) (upd H a o') := h.mod (φ := fun u _ => u = o) (m := fun _ _ _ h _ => h) i hi f rfl
theorem Holds.modPI {i : Nat} (h : Holds l H) (hi : l[i]? = some (pt a o)) (u : HO) : Imm H (upd H a u) := h.modI (φ := fun u _ => u = o) (m := fun _ _ _ h _ => h) hi u
end
theorem big_filter {α : Type} {f : α → Asr} {p : α → Bool} {H : Hp} : ∀ {xs : List α} {l : List Asr}, Holds (big f xs :: l) H → Holds (big f (xs.filter p) :: l) H
  | [], _, h => h
  | x :: xs, l, h => by
    have h1 := big_cons.mp h
    by_cases q : p x = true
    · rw [List.filter_cons_of_pos q]
      have h2 : Holds (big f xs :: f x :: l) H := h1.pick 1
      exact big_cons.mpr ((big_filter h2).pick 1)
    · rw [List.filter_cons_of_neg q]
      exact big_filter h1.tail
/-- a new object that stayed is owned -/
theorem Holds.own {l : List Asr} {H H' : Hp} {a : Addr} {o : HO} (h : Holds l H) (n : H a = none) (s : Same H H') (e : H' a = some o) (f : isFix o = false := by rfl) : Holds (pt a o :: l) H' := by
  obtain ⟨S, hS⟩ := h
  refine ⟨fun x => x = a ∨ S x, fun x => x = a, S, ⟨fun _ => Iff.rfl, o, e, f, rfl⟩, hS.loc (fun x hx => ?_) (Imm.same s), fun x z hx => hS.dom hx (by rw [z]; exact n), fun _ => Iff.rfl⟩
  cases q : H x with
  | none => exact absurd q (hS.dom hx)
  | some u => exact s x u q

end
section
open PySem PySem.Spec PyProof.Rows L2
variable {P : Program} {w : World} {K : PySem.W.Frag} {mg : Str → Option Value} {base : Heap}
/-! ### references, heaps, what leads where -/
inductive Rf where
  | obj (i : Int) | imp (o e : Int)
  deriving DecidableEq
abbrev HeapM := List (Int × List (Option Rf))
def fieldsOf (h : HeapM) (i : Int) : List (Option Rf) := (h.lookup i).getD []
inductive Reach (h : HeapM) (st : List (Option Rf)) : Rf → Prop
  | base {r : Rf} : some r ∈ st → Reach h st r
  | step {i : Int} {r : Rf} : Reach h st (.obj i) → some r ∈ fieldsOf h i → Reach h st r
/-- the objects that are referred to are there -/
structure ValidH (h : HeapM) (st : List (Option Rf)) : Prop where
  st : ∀ i, some (Rf.obj i) ∈ st → i ∈ h.map (·.1)
  fl : ∀ j i, some (Rf.obj i) ∈ fieldsOf h j → i ∈ h.map (·.1)
theorem Reach.there {h : HeapM} {st : List (Option Rf)} (v : ValidH h st) {i : Int} (r : Reach h st (.obj i)) : i ∈ h.map (·.1) := by
  generalize e : Rf.obj i = x at r
  cases r with
  | base m => subst e; exact v.st i m
  | step _ m => subst e; exact v.fl _ i m
/-! ### sorted lists without repeats -/
section
variable {α : Type} {lt : α → α → Prop}
structure Slo (lt : α → α → Prop) : Prop where
  irr : ∀ x, ¬ lt x x
  tr : ∀ x y z, lt x y → lt y z → lt x z
  tot : ∀ x y, lt x y ∨ x = y ∨ lt y x
theorem sorted_uniq (O : Slo lt) : ∀ {l m : List α}, l.Pairwise lt → m.Pairwise lt → (∀ x, x ∈ l ↔ x ∈ m) → l = m
  | [], [], _, _, _ => rfl
  | [], y :: m, _, _, h => absurd ((h y).mpr List.mem_cons_self) (by simp)
  | x :: l, [], _, _, h => absurd ((h x).mp List.mem_cons_self) (by simp)
  | x :: l, y :: m, p, q, h => by
    obtain ⟨p1, p2⟩ := List.pairwise_cons.mp p
    obtain ⟨q1, q2⟩ := List.pairwise_cons.mp q
    have e : x = y := by
      rcases List.mem_cons.mp ((h x).mp List.mem_cons_self) with e | hx
      · exact e
      · rcases List.mem_cons.mp ((h y).mpr List.mem_cons_self) with e | hy
        · exact e.symm
        · exact absurd (O.tr _ _ _ (p1 y hy) (q1 x hx)) (O.irr x)
    subst e
    have : ∀ z, z ∈ l ↔ z ∈ m := fun z => by
      constructor
      · intro hz
        rcases List.mem_cons.mp ((h z).mp (List.mem_cons_of_mem _ hz)) with e | hm
        · subst e; exact absurd (p1 z hz) (O.irr z)
        · exact hm
      · intro hz
        rcases List.mem_cons.mp ((h z).mpr (List.mem_cons_of_mem _ hz)) with e | hm
        · subst e; exact absurd (q1 z hz) (O.irr z)
        · exact hm
    rw [sorted_uniq O p2 q2 this]
variable [DecidableRel lt]
def insS (lt : α → α → Prop) [DecidableRel lt] (x : α) : List α → List α
  | [] => [x]
  | y :: r => if lt x y then x :: y :: r else if lt y x then y :: insS lt x r else y :: r
theorem mem_insS (O : Slo lt) {x z : α} : ∀ {l : List α}, z ∈ insS lt x l ↔ z = x ∨ z ∈ l
  | [] => by simp [insS]
  | y :: r => by
    unfold insS
    split
    · exact List.mem_cons
    · rename_i h1
      split
      · rw [List.mem_cons, mem_insS O (l := r), List.mem_cons]
        constructor <;> (intro h; rcases h with h | h | h <;> simp [h])
      · rename_i h2
        rcases O.tot x y with h | h | h
        · exact absurd h h1
        · subst h; simp
        · exact absurd h h2
theorem insS_sorted (O : Slo lt) {x : α} : ∀ {l : List α}, l.Pairwise lt → (insS lt x l).Pairwise lt
  | [], _ => by simp [insS]
  | y :: r, p => by
    obtain ⟨p1, p2⟩ := List.pairwise_cons.mp p
    unfold insS
    split
    · rename_i h
      refine List.pairwise_cons.mpr ⟨fun z hz => ?_, p⟩
      rcases List.mem_cons.mp hz with e | hz
      · subst e; exact h
      · exact O.tr _ _ _ h (p1 z hz)
    · split
      · rename_i h
        refine List.pairwise_cons.mpr ⟨fun z hz => ?_, insS_sorted O p2⟩
        rcases (mem_insS O).mp hz with e | hz
        · subst e; exact h
        · exact p1 z hz
      · exact p
def sortS (lt : α → α → Prop) [DecidableRel lt] (l : List α) : List α := l.foldr (insS lt) []
theorem mem_sortS (O : Slo lt) {z : α} : ∀ {l : List α}, z ∈ sortS lt l ↔ z ∈ l
  | [] => Iff.rfl
  | x :: r => by
    show z ∈ insS lt x (sortS lt r) ↔ _
    rw [mem_insS O, mem_sortS O (l := r), List.mem_cons]
theorem sortS_sorted (O : Slo lt) : ∀ l : List α, (sortS lt l).Pairwise lt
  | [] => List.Pairwise.nil
  | _ :: r => insS_sorted O (sortS_sorted O r)
theorem sortS_eq (O : Slo lt) {l m : List α} (p : m.Pairwise lt) (h : ∀ x, x ∈ m ↔ x ∈ l) : m = sortS lt l := sorted_uniq O p (sortS_sorted O l) fun x => (h x).trans (mem_sortS O).symm
theorem sortS_len (O : Slo lt) : ∀ l : List α, (sortS lt l).length ≤ l.length
  | [] => Nat.le_refl _
  | x :: r => by
    have : ∀ l : List α, (insS lt x l).length ≤ l.length + 1 := fun l => by
      induction l with
      | nil => exact Nat.le_refl _
      | cons y r ih =>
        unfold insS
        split
        · exact Nat.le_refl _
        · split
          · exact Nat.succ_le_succ ih
          · exact Nat.le_succ _
    exact Nat.le_trans (this _) (Nat.succ_le_succ (sortS_len O r))
end
def ltI (a b : Int) : Prop := a < b
instance : DecidableRel ltI := fun a b => inferInstanceAs (Decidable (a < b))
def ltP2 (a b : Int × Int) : Prop := a.1 < b.1 ∨ a.1 = b.1 ∧ a.2 < b.2
instance : DecidableRel ltP2 := fun a b => inferInstanceAs (Decidable (a.1 < b.1 ∨ a.1 = b.1 ∧ a.2 < b.2))
theorem sloI : Slo ltI := ⟨fun x => Int.lt_irrefl x, fun _ _ _ => Int.lt_trans, fun x y => by unfold ltI; omega⟩
theorem sloP : Slo ltP2 := ⟨fun x => by unfold ltP2; omega, fun x y z => by unfold ltP2; omega, fun x y => by
  unfold ltP2
  rcases x with ⟨a, b⟩
  rcases y with ⟨c, d⟩
  by_cases h : a = c ∧ b = d
  · exact .inr (.inl (by rw [h.1, h.2]))
  · dsimp only
    omega⟩
open Classical in
/-- the objects, the imports, to which references lead, rising -/
noncomputable def ledO (h : HeapM) (st : List (Option Rf)) : List Int := sortS ltI ((h.map (·.1)).filter fun i => decide (Reach h st (.obj i)))
def impsOf (l : List (Option Rf)) : List (Int × Int) := l.filterMap fun r => match r with
  | some (.imp o e) => some (o, e)
  | _ => none
theorem mem_impsOf {l : List (Option Rf)} {o e : Int} : (o, e) ∈ impsOf l ↔ some (Rf.imp o e) ∈ l := by
  unfold impsOf
  rw [List.mem_filterMap]
  constructor
  · rintro ⟨r, hr, h⟩
    match r, h with
    | some (.imp o' e'), h =>
      cases h
      exact hr
  · intro h
    exact ⟨_, h, rfl⟩
open Classical in
noncomputable def ledI (h : HeapM) (st : List (Option Rf)) : List (Int × Int) := sortS ltP2 ((impsOf (st ++ (h.map (·.2)).flatten)).filter fun p => decide (Reach h st (.imp p.1 p.2)))
open Classical in
theorem mem_ledO {h : HeapM} {st : List (Option Rf)} (v : ValidH h st) {i : Int} : i ∈ ledO h st ↔ Reach h st (.obj i) := by
  unfold ledO
  rw [mem_sortS sloI, List.mem_filter]
  exact ⟨fun x => of_decide_eq_true x.2, fun r => ⟨r.there v, decide_eq_true r⟩⟩
theorem lookup_mem {h : HeapM} {i : Int} {fs : List (Option Rf)} (e : h.lookup i = some fs) : (i, fs) ∈ h := by
  induction h with
  | nil => cases e
  | cons p h ih =>
    obtain ⟨j, gs⟩ := p
    rw [List.lookup_cons] at e
    by_cases hj : i = j
    · subst hj
      simp at e
      subst e
      exact List.mem_cons_self
    · have : (i == j) = false := by simpa using hj
      rw [this] at e
      exact List.mem_cons_of_mem _ (ih e)
theorem mem_fields {h : HeapM} {i : Int} {r : Option Rf} (m : r ∈ fieldsOf h i) : r ∈ (h.map (·.2)).flatten := by
  unfold fieldsOf at m
  cases e : h.lookup i with
  | none => rw [e] at m; cases m
  | some fs =>
    rw [e] at m
    exact List.mem_flatten.mpr ⟨fs, List.mem_map.mpr ⟨_, lookup_mem e, rfl⟩, m⟩
open Classical in
theorem mem_ledI {h : HeapM} {st : List (Option Rf)} {o e : Int} : (o, e) ∈ ledI h st ↔ Reach h st (.imp o e) := by
  unfold ledI
  rw [mem_sortS sloP, List.mem_filter]
  refine ⟨fun x => of_decide_eq_true x.2, fun r => ⟨mem_impsOf.mpr ?_, decide_eq_true r⟩⟩
  cases r with
  | base m => exact List.mem_append_left _ m
  | step _ m => exact List.mem_append_right _ (mem_fields m)
theorem ledO_sorted (h : HeapM) (st : List (Option Rf)) : (ledO h st).Pairwise ltI := sortS_sorted sloI _
theorem ledI_sorted (h : HeapM) (st : List (Option Rf)) : (ledI h st).Pairwise ltP2 := sortS_sorted sloP _
theorem ledO_eq {h : HeapM} {st : List (Option Rf)} (v : ValidH h st) {l : List Int} (p : l.Pairwise ltI) (m : ∀ i, i ∈ l ↔ Reach h st (.obj i)) : l = ledO h st :=
  sorted_uniq sloI p (ledO_sorted h st) fun i => (m i).trans (mem_ledO v).symm
theorem ledI_eq {h : HeapM} {st : List (Option Rf)} {l : List (Int × Int)} (p : l.Pairwise ltP2) (m : ∀ o e, (o, e) ∈ l ↔ Reach h st (.imp o e)) : l = ledI h st :=
  sorted_uniq sloP p (ledI_sorted h st) fun ⟨o, e⟩ => (m o e).trans mem_ledI.symm
theorem ledO_len (h : HeapM) (st : List (Option Rf)) : (ledO h st).length ≤ h.length := by
  refine Nat.le_trans (sortS_len sloI _) (Nat.le_trans (List.length_filter_le _ _) ?_)
  rw [List.length_map]
  exact Nat.le_refl _

/-! ### heaps in the heap -/
def RfV (H : Hp) (v : V) (r : Option Rf) : Prop := match r with
  | none => v = .non
  | some (.obj i) => ∃ t, v = .ref t ∧ H t = some (.tup [.str "object", .int i])
  | some (.imp o e) => ∃ t, v = .ref t ∧ H t = some (.tup [.str "import", .int o, .int e])
theorem RfV.mono {H H' : Hp} (s : ∀ a xs, H a = some (.tup xs) → H' a = some (.tup xs)) {v : V} {r : Option Rf} (h : RfV H v r) : RfV H' v r := by
  match r, h with
  | none, h => exact h
  | some (.obj i), ⟨t, e, h⟩ => exact ⟨t, e, s _ _ h⟩
  | some (.imp o e), ⟨t, e', h⟩ => exact ⟨t, e', s _ _ h⟩
/-- one object of a heap: its key, its fields -/
def ObjV (H : Hp) (kv : Key × V) (e : Int × List (Option Rf)) : Prop := kv.1 = .inl e.1 ∧ ∃ t vs, kv.2 = .ref t ∧ H t = some (.tup vs) ∧ Paired (RfV H) vs e.2
theorem ObjV.mono {H H' : Hp} (s : ∀ a xs, H a = some (.tup xs) → H' a = some (.tup xs)) {kv : Key × V} {e : Int × List (Option Rf)} (h : ObjV H kv e) : ObjV H' kv e := by
  obtain ⟨h1, t, vs, h2, h3, h4⟩ := h
  exact ⟨h1, t, vs, h2, s _ _ h3, L2.Paired.mapP h4 fun _ _ => RfV.mono s⟩
def HeapAt (H : Hp) (d : Addr) (h : HeapM) : Prop := ∃ kvs, H d = some (.dK kvs) ∧ Paired (ObjV H) kvs h
theorem Same.tups {H H' : Hp} (s : Same H H') : ∀ a xs, H a = some (.tup xs) → H' a = some (.tup xs) := fun a xs h => s a _ h
theorem HeapAt.mono {H H' : Hp} {d : Addr} {h : HeapM} (A : HeapAt H d h) (s : Same H H') : HeapAt H' d h := by
  obtain ⟨kvs, e, p⟩ := A
  exact ⟨kvs, s _ _ e, L2.Paired.mapP p fun _ _ => ObjV.mono (Same.tups s)⟩
theorem valV_heap {H : Hp} : ∀ {kvs : List (Key × V)} {h : HeapM}, Paired (ObjV H) kvs h → ∀ i : Int, (h.lookup i = none → valV kvs (.inl i) = none) ∧
    ∀ fs, h.lookup i = some fs → ∃ t vs, valV kvs (.inl i) = some (.ref t) ∧ H t = some (.tup vs) ∧ Paired (RfV H) vs fs
  | [], [], .nil, i => ⟨fun _ => rfl, fun fs e => nomatch e⟩
  | kv :: kvs, (j, gs) :: h, .cons r t, i => by
    obtain ⟨h1, a, vs, h2, h3, h4⟩ := r
    by_cases e : i = j
    · subst e
      refine ⟨fun q => ?_, fun fs q => ?_⟩
      · simp at q
      · have q : gs = fs := by simpa using q
        subst q
        exact ⟨a, vs, by rw [valV_pos h1, h2], h3, h4⟩
    · have hne : ¬ kv.1 = (Sum.inl i : Key) := fun q => e (by rw [h1] at q; exact (Sum.inl.inj q).symm)
      have hl : List.lookup i ((j, gs) :: h) = List.lookup i h := by
        have : (i == j) = false := by simpa using e
        rw [List.lookup_cons, this]
      rw [valV_neg hne, hl]
      exact valV_heap t i
theorem lookup_of_mem : ∀ {h : HeapM} {i : Int}, i ∈ h.map (·.1) → ∃ fs, h.lookup i = some fs
  | [], _, m => nomatch m
  | (j, gs) :: h, i, m => by
    by_cases e : i = j
    · subst e
      exact ⟨gs, by simp⟩
    · rcases List.mem_cons.mp m with q | m
      · exact absurd q e
      · obtain ⟨fs, q⟩ := lookup_of_mem m
        have : (i == j) = false := by simpa using e
        exact ⟨fs, by rw [List.lookup_cons, this]; exact q⟩
/-- the search: what waits, the objects and the imports found -/
def found (os : List Int) (is : List (Int × Int)) : Rf → Prop
  | .obj i => i ∈ os
  | .imp o e => (o, e) ∈ is
structure Srch (h : HeapM) (st ws : List (Option Rf)) (os : List Int) (is : List (Int × Int)) : Prop where
  w : ∀ r, some r ∈ ws → Reach h st r
  o : ∀ i, i ∈ os → Reach h st (.obj i)
  i : ∀ o e, (o, e) ∈ is → Reach h st (.imp o e)
  all : ∀ r, (some r ∈ st ∨ ∃ i ∈ os, some r ∈ fieldsOf h i) → some r ∈ ws ∨ found os is r
  nd : os.Nodup
  ni : is.Nodup
theorem Srch.start (h : HeapM) (st : List (Option Rf)) : Srch h st st [] [] :=
  ⟨fun _ m => .base m, (fun _ m => nomatch m), (fun _ _ m => nomatch m), fun r q => by
    rcases q with q | ⟨_, m, _⟩
    · exact .inl q
    · exact (nomatch m), List.nodup_nil, List.nodup_nil⟩
theorem Srch.skip {h : HeapM} {st ws : List (Option Rf)} {os : List Int} {is : List (Int × Int)} {x : Option Rf} (S : Srch h st (ws ++ [x]) os is) (hx : ∀ r, x = some r → found os is r) : Srch h st ws os is :=
  ⟨fun r m => S.w r (List.mem_append_left _ m), S.o, S.i, fun r q => by
    rcases S.all r q with m | f
    · rcases List.mem_append.mp m with m | m
      · exact .inl m
      · exact .inr (hx r (List.mem_singleton.mp m).symm)
    · exact .inr f, S.nd, S.ni⟩
theorem Srch.imp {h : HeapM} {st ws : List (Option Rf)} {os : List Int} {is : List (Int × Int)} {o e : Int} (S : Srch h st (ws ++ [some (.imp o e)]) os is) (hn : (o, e) ∉ is) : Srch h st ws os (is ++ [(o, e)]) := by
  have S2 : Srch h st (ws ++ [some (.imp o e)]) os (is ++ [(o, e)]) := by
    refine ⟨S.w, S.o, fun o' e' m => ?_, fun r q => ?_, S.nd, ?_⟩
    · rcases List.mem_append.mp m with m | m
      · exact S.i _ _ m
      · cases List.mem_singleton.mp m
        exact S.w _ (List.mem_append_right _ (List.mem_singleton.mpr rfl))
    · rcases S.all r q with m | f
      · exact .inl m
      · refine .inr ?_
        cases r with
        | obj i => exact f
        | imp a b => exact List.mem_append_left _ f
    · rw [List.nodup_append]
      exact ⟨S.ni, by simp, fun a ha b hb => by rw [List.mem_singleton.mp hb]; exact fun q => hn (by rw [← q]; exact ha)⟩
  exact S2.skip fun r q => by
    cases q
    exact List.mem_append_right _ (List.mem_singleton.mpr rfl)
theorem Srch.obj {h : HeapM} {st ws : List (Option Rf)} {os : List Int} {is : List (Int × Int)} {i : Int} (S : Srch h st (ws ++ [some (.obj i)]) os is) (hn : i ∉ os) : Srch h st (ws ++ fieldsOf h i) (os ++ [i]) is := by
  have ri : Reach h st (.obj i) := S.w _ (List.mem_append_right _ (List.mem_singleton.mpr rfl))
  refine ⟨fun r m => ?_, fun j m => ?_, S.i, fun r q => ?_, ?_, S.ni⟩
  · rcases List.mem_append.mp m with m | m
    · exact S.w r (List.mem_append_left _ m)
    · exact .step ri m
  · rcases List.mem_append.mp m with m | m
    · exact S.o j m
    · rw [List.mem_singleton.mp m]
      exact ri
  · have lift : (some r ∈ ws ++ [some (.obj i)] ∨ found os is r) → (some r ∈ ws ++ fieldsOf h i ∨ found (os ++ [i]) is r) := fun z => by
      rcases z with m | f
      · rcases List.mem_append.mp m with m | m
        · exact .inl (List.mem_append_left _ m)
        · cases List.mem_singleton.mp m
          exact .inr (List.mem_append_right _ (List.mem_singleton.mpr rfl))
      · refine .inr ?_
        cases r with
        | obj j => exact List.mem_append_left _ f
        | imp a b => exact f
    rcases q with q | ⟨j, m, q⟩
    · exact lift (S.all r (.inl q))
    · rcases List.mem_append.mp m with m | m
      · exact lift (S.all r (.inr ⟨j, m, q⟩))
      · rw [List.mem_singleton.mp m] at q
        exact .inl (List.mem_append_right _ q)
  · rw [List.nodup_append]
    exact ⟨S.nd, by simp, fun a ha b hb => by rw [List.mem_singleton.mp hb]; exact fun q => hn (by rw [← q]; exact ha)⟩
theorem Srch.done {h : HeapM} {st : List (Option Rf)} {os : List Int} {is : List (Int × Int)} (S : Srch h st [] os is) : (∀ i, i ∈ os ↔ Reach h st (.obj i)) ∧ ∀ o e, (o, e) ∈ is ↔ Reach h st (.imp o e) := by
  have key : ∀ r, Reach h st r → found os is r := fun r q => by
    induction q with
    | base m => exact (S.all _ (.inl m)).resolve_left (fun z => nomatch z)
    | step _ m ih => exact (S.all _ (.inr ⟨_, ih, m⟩)).resolve_left (fun z => nomatch z)
  exact ⟨fun i => ⟨S.o i, key (.obj i)⟩, fun o e => ⟨S.i o e, key (.imp o e)⟩⟩
theorem nodup_le {α : Type} [DecidableEq α] : ∀ {l m : List α}, l.Nodup → (∀ x ∈ l, x ∈ m) → l.length ≤ m.length
  | [], _, _, _ => Nat.zero_le _
  | x :: l, m, nd, h => by
    obtain ⟨h1, h2⟩ := List.nodup_cons.mp nd
    have hx : x ∈ m := h x List.mem_cons_self
    have := nodup_le (l := l) (m := m.erase x) h2 fun y hy => (List.mem_erase_of_ne (fun q => h1 (by rw [← q]; exact hy))).mpr (h y (List.mem_cons_of_mem _ hy))
    rw [List.length_erase_of_mem hx] at this
    have : 0 < m.length := List.length_pos_of_mem hx
    simp only [List.length_cons]
    omega
theorem Srch.few {h : HeapM} {st ws : List (Option Rf)} {os : List Int} {is : List (Int × Int)} (S : Srch h st ws os is) (v : ValidH h st) : os.length ≤ h.length := by
  have := nodup_le S.nd (m := h.map (·.1)) fun i m => (S.o i m).there v
  rwa [List.length_map] at this

/-! ### more rules with the written part named -/
section
variable {X : Cx} {K : PySem.W.Frag}
theorem op_inDK (hu : X.A.units + 65 < cLine) (hK : X.K = K := by rfl) : OpR X (compareOp .In) (rInD K) := by subst hK; exact op_inD hu
theorem op_notInDK (hu : X.A.units + 65 < cLine) (hK : X.K = K := by rfl) : OpR X (compareOp .NotIn) (rNotInD K) := by subst hK; exact op_notInD hu
def rTupOfK (K : PySem.W.Frag) : List V → Hp → VK → Prop := fun xs H Q => ∃ p ys, xs = [.ref p] ∧ ((SqL K H p ys ∧ ∀ l, H l = none → Q (.ref l) (upd H l (.tup ys))) ∨ (SqT K H p ys ∧ Q (.ref p) H))
theorem call_tupleK (hK : X.K = K := by rfl) : CallR X (.type "tuple") (rTupOfK K) := by subst hK; exact call_tuple_of
theorem call_sortedPK (hK : X.K = K := by rfl) : CallR X (.builtin "sorted") (rSortedPO K) := by subst hK; exact cr_sortedPO
end
/-! ### dicts used as sets -/
theorem valV_set {κ : Type} [DecidableEq κ] {v : V} {k : κ} : ∀ {ks : List κ}, valV (ks.map fun x => (x, v)) k = if k ∈ ks then some v else none
  | [] => rfl
  | x :: ks => by
    by_cases e : x = k
    · subst e
      rw [if_pos List.mem_cons_self]
      exact valV_pos rfl
    · rw [List.map_cons, valV_neg e, valV_set (ks := ks)]
      by_cases m : k ∈ ks
      · rw [if_pos m, if_pos (List.mem_cons_of_mem _ m)]
      · rw [if_neg m, if_neg (fun z => by
          rcases List.mem_cons.mp z with z | z
          · exact e z.symm
          · exact m z)]
theorem putK_setNew {κ : Type} [DecidableEq κ] {v : V} {k : κ} {ks : List κ} (h : k ∉ ks) : putK (ks.map fun x => (x, v)) k v = (ks ++ [k]).map fun x => (x, v) := by
  rw [putK_new v (by rw [valV_set, if_neg h]), List.map_append]
  rfl
theorem putK_setOld {κ : Type} [DecidableEq κ] {v : V} {k : κ} {ks : List κ} (h : k ∈ ks) : putK (ks.map fun x => (x, v)) k v = ks.map fun x => (x, v) := by
  have hs : ((ks.map fun x => (x, v)).any fun kv => decide (kv.1 = k)) = true := by rw [valV_any, valV_set, if_pos h]; rfl
  unfold putK
  rw [if_pos hs]
  conv => rhs; rw [← List.map_id (ks.map fun x => (x, v))]
  refine List.map_congr_left fun kv hkv => ?_
  obtain ⟨x, _, rfl⟩ := List.mem_map.mp hkv
  dsimp only
  split <;> rfl
/-! ### a for over a list or a tuple; a dict compared with an empty one -/
def iSeqK (K : PySem.W.Frag) (tl : TE) : TI := fun σ H R => tl σ H fun x H1 => ∃ a, x = .ref a ∧ (((∃ xs, SqL K H1 a xs) ∧ R (Itl K a) H1) ∨ ((∃ xs, SqT K H1 a xs) ∧ R (Itt K a) H1))
section
variable {X : Cx} {K : PySem.W.Frag} {tg : Expr}
theorem iseqK {l : Expr} {tl : TE} (he : PE X l tl) (hK : X.K = K := by rfl) : PI X tg l (iSeqK K tl) := by
  subst hK
  refine ⟨fun pins s σ H R I h0 => ?_⟩
  refine thn (he.run pins s σ H _ I h0) fun v s1 ⟨x, H1, I1, r1, a, e, q1⟩ => ?_
  subst e
  cases r1
  have fresh : ∀ b ∈ [s1.heap.objs.size], FpOk X pins H1 b := fun b hb => by
    rw [List.mem_singleton.mp hb]
    exact I1.fpOk (Nat.le_refl _) (I1.hok.fresh (Nat.le_refl _))
  rcases q1 with ⟨⟨xs, hq⟩, q⟩ | ⟨⟨xs, hq⟩, q⟩
  · obtain ⟨its, rv, p, hz⟩ := I1.list hq
    exact wpAny_pyIter_list p.isList ⟨s1.heap.objs.size, [s1.heap.objs.size], _, _, H1, rfl, I1.kept (t' := s1.toks) fun b o e => Heap.get?_push_of_some _ e, turn_list a _, ⟨_, Heap.get?_push_size _ rfl, rfl, rfl⟩, fresh, q⟩
  · obtain ⟨its, rv, p, hz⟩ := I1.tuple hq
    exact wpAny_pyIter_tuple (show s1.heap.IsTuple a its.toArray from p) ⟨s1.heap.objs.size, [s1.heap.objs.size], _, _, H1, rfl, I1.kept (t' := s1.toks) fun b o e => Heap.get?_push_of_some _ e, turn_tuple a _, ⟨_, Heap.get?_push_size _ rfl, rfl, rfl⟩, fresh, q⟩
theorem for_seq {a : Addr} {xs : List V} {g : TG} {tb : TS} {D : Ends} {σ : L2.St} {H H0 : Hp} (hS : SqL K H0 a xs ∨ SqT K H0 a xs) (Pv : Nat → L2.St → Hp → Prop) (h0 : Pv 0 σ H) (hl : ∀ i σ H', Pv i σ H' → Same H0 H')
    (hs : ∀ i x σ H', xs[i]? = some x → Pv i σ H' → g x σ H' fun σ2 H2 => tb { D with nx := Pv (i + 1), ct := Pv (i + 1), bk := D.nx } σ2 H2) (hd : ∀ σ H', Pv xs.length σ H' → D.nx σ H') :
    ((∃ xs, SqL K H a xs) ∧ ∃ W : Nat → Nat → L2.St → Hp → Prop, (∃ m, W 0 m σ H) ∧ ∀ i m σ H, W i m σ H →
      ((Itl K a).stop i H ∧ D.nx σ H) ∨ ((Itl K a).go i H ∧ ∃ N : L2.St → Hp → Prop, (∀ σ' H', N σ' H' → ∃ m', m' < m ∧ W (i + 1) m' σ' H') ∧ ∀ x H', (Itl K a).yld i H x H' → g x σ H' fun σ2 H2 => tb { D with nx := N, ct := N, bk := D.nx } σ2 H2)) ∨
    ((∃ xs, SqT K H a xs) ∧ ∃ W : Nat → Nat → L2.St → Hp → Prop, (∃ m, W 0 m σ H) ∧ ∀ i m σ H, W i m σ H →
      ((Itt K a).stop i H ∧ D.nx σ H) ∨ ((Itt K a).go i H ∧ ∃ N : L2.St → Hp → Prop, (∀ σ' H', N σ' H' → ∃ m', m' < m ∧ W (i + 1) m' σ' H') ∧ ∀ x H', (Itt K a).yld i H x H' → g x σ H' fun σ2 H2 => tb { D with nx := N, ct := N, bk := D.nx } σ2 H2)) := by
  have s := hl _ _ _ h0
  rcases hS with q | q
  · exact .inl ⟨⟨_, s.seq q⟩, for_list (xs := xs) Pv h0 (fun i σ H' _ p => (hl i σ H' p).seq q) hs hd⟩
  · exact .inr ⟨⟨_, sqT_fr (W := []) (Fr.of s) (by simp) q⟩, for_tup (xs := xs) Pv h0 (fun i σ H' _ p => sqT_fr (W := []) (Fr.of (hl i σ H' p)) (by simp) q) hs hd⟩
def rEqDE : R2 := fun x y H Q => ∃ a b ks, x = .ref a ∧ y = .ref b ∧ H a = some (.dK ks) ∧ H b = some (.dK []) ∧ Q (.bl ks.isEmpty) H
theorem op_eqDE (hu : X.A.units < cLine) : OpR X (compareOp .Eq) rEqDE := by
  intro pins s σ H x y v u Q I rx ry h
  obtain ⟨a, b, ks, rfl, rfl, ea, eb, q⟩ := h
  obtain rfl : v = Value.ref a := rx
  obtain rfl : u = Value.ref b := ry
  obtain ⟨_, ya, va, ra, da⟩ := (show ObjOk X.prog X.w H s.heap a (.dK ks) from I.hok a _ ea)
  obtain ⟨_, yb, vb, rb, db⟩ := (show ObjOk X.prog X.w H s.heap b (.dK []) from I.hok b _ eb)
  cases rb
  refine PySem.W.keq_eq (knd := mixKind X.prog X.w) (r := true) ya yb da db hu (fun hl => ?_) (fin_bl I q ?_)
  · have : va = [] := List.eq_nil_of_length_eq_zero hl
    subst this
    exact .nil
  · have hl := ra.length
    cases ks with
    | nil => cases ra; rfl
    | cons k ks => cases ra; rfl
end

/-! ### sorted of a list of pairs: told by the pairs -/
def leP (a b : Int × Int) : Prop := ¬ ltP2 b a
def IsPrs (H : Hp) (bs : List (Addr × (Int × Int))) : Prop := ∀ x ∈ bs, H x.1 = some (.tup [.int x.2.1, .int x.2.2])
def rSortedPP (K : PySem.W.Frag) : List V → Hp → VK → Prop := fun vs H Q => ∃ (a : Addr) (bs : List (Addr × (Int × Int))), vs = [V.ref a] ∧ SqL K H a (bs.map fun x => V.ref x.1) ∧ IsPrs H bs ∧
  ∀ (cs : List (Addr × (Int × Int))) (p : Addr), cs.Perm bs → (cs.map (·.2)).Pairwise leP → H p = none → Q (.ref p) (upd H p (.lst (cs.map fun x => V.ref x.1)))
section
variable {X : Cx} {K : PySem.W.Frag}
theorem call_sortedPP (hK : X.K = K := by rfl) : CallR X (.builtin "sorted") (rSortedPP K) := by
  subst hK
  intro pins s σ H vs us Q I r h
  obtain ⟨a, bs, e, hs, hp, q⟩ := h
  let kf : V → Int × Int := fun v => match v with
    | .ref t => (match H t with | some (.tup [.int x, .int y]) => (x, y) | _ => (0, 0))
    | _ => (0, 0)
  let ad : V → Addr := fun v => match v with | .ref t => t | _ => 0
  have hk : ∀ x ∈ bs, kf (.ref x.1) = x.2 := fun x hx => by
    show (match H x.1 with | some (.tup [.int x, .int y]) => (x, y) | _ => (0, 0)) = _
    rw [hp x hx]
  refine cr_sortedPO pins s σ H vs us Q I r ⟨a, _, kf, e, hs, fun v hv => ?_, fun ys p h1 h2 np => ?_⟩
  · obtain ⟨x, hx, rfl⟩ := List.mem_map.mp hv
    exact ⟨x.1, rfl, by rw [hk x hx]; exact hp x hx⟩
  · have hm : ∀ v ∈ ys, ∃ x ∈ bs, v = V.ref x.1 := fun v hv => by
      obtain ⟨x, hx, e⟩ := List.mem_map.mp (h2.perm.mem_iff.mp hv)
      exact ⟨x, hx, e.symm⟩
    have e1 : (ys.map fun v => (ad v, kf v)).map (fun x => V.ref x.1) = ys := by
      rw [List.map_map]
      conv => rhs; rw [← List.map_id ys]
      refine List.map_congr_left fun v hv => ?_
      obtain ⟨x, _, rfl⟩ := hm v hv
      rfl
    have e2 : (bs.map fun x => V.ref x.1).map (fun v => (ad v, kf v)) = bs := by
      rw [List.map_map]
      conv => rhs; rw [← List.map_id bs]
      refine List.map_congr_left fun x hx => ?_
      show (x.1, kf (.ref x.1)) = x
      rw [hk x hx]
    have := q (ys.map fun v => (ad v, kf v)) p (by rw [← e2]; exact h2.perm.map _) (by
      rw [List.map_map, List.pairwise_map]
      exact h1.imp fun {x y} z => by
        have z := SrtO.lexB_no.mp z
        show ¬ ltP2 (kf y) (kf x)
        unfold ltP2
        omega) np
    rwa [e1] at this
end

/-- what the search has: its two dicts -/
def setI (os : List Int) : HO := .dK ((os.map (Sum.inl : Int → Key)).map fun k => (k, V.bl true))
theorem inl_mem {j : Int} {os : List Int} : (Sum.inl j : Key) ∈ os.map Sum.inl ↔ j ∈ os := by
  rw [List.mem_map]
  exact ⟨fun ⟨q, hq, e⟩ => by cases e; exact hq, fun h => ⟨j, h, rfl⟩⟩
def pairK (p : Int × Int) : List L2.Key := [.inl p.1, .inl p.2]
def setP (is : List (Int × Int)) : HO := .dT (((is.map pairK)).map fun k => (k, V.bl true))
theorem pairK_inj {p q : Int × Int} (h : pairK p = pairK q) : p = q := by
  obtain ⟨a, b⟩ := p
  obtain ⟨c, d⟩ := q
  cases h
  rfl
theorem pairK_mem {p : Int × Int} {is : List (Int × Int)} : pairK p ∈ is.map pairK ↔ p ∈ is := by
  rw [List.mem_map]
  exact ⟨fun ⟨q, hq, e⟩ => by rw [← pairK_inj e]; exact hq, fun h => ⟨p, h, rfl⟩⟩
/-- a new list of pairs -/
def PairsAt (H : Hp) (l : Addr) (ps : List (Int × Int)) : Prop := ∃ bs : List (Addr × (Int × Int)), bs.map (·.2) = ps ∧ H l = some (.lst (bs.map fun x => V.ref x.1)) ∧ ∀ x ∈ bs, H x.1 = some (.tup [.int x.2.1, .int x.2.2])
structure HeapSmall (h : HeapM) : Prop where
  len : h.length ≤ 1000
  fl : ∀ i, (fieldsOf h i).length ≤ 16
/-- what a reference is -/
theorem RfV.non_or {H : Hp} {v : V} {r : Option Rf} (h : RfV H v r) : (r = none ∧ v = .non) ∨ ((∃ i t, r = some (.obj i) ∧ v = .ref t ∧ H t = some (.tup [.str "object", .int i])) ∨ ∃ o e t, r = some (.imp o e) ∧ v = .ref t ∧ H t = some (.tup [.str "import", .int o, .int e])) := by
  match r, h with
  | none, h => exact .inl ⟨rfl, h⟩
  | some (.obj i), ⟨t, e, h⟩ => exact .inr (.inl ⟨i, t, rfl, e, h⟩)
  | some (.imp o e), ⟨t, e', h⟩ => exact .inr (.inr ⟨o, e, t, rfl, e', h⟩)

/-! ### references as data -/
def refD : Option Rf → PyData
  | none => .none
  | some (.obj i) => .tuple [.str "object", .int i]
  | some (.imp o e) => .tuple [.str "import", .int o, .int e]
theorem dp_ref {H : Hp} {v : V} {r : Option Rf} (h : RfV H v r) : Dp K H v (refD r) := by
  rcases h.non_or with ⟨rfl, rfl⟩ | ⟨j, t, rfl, rfl, ht⟩ | ⟨p, e, t, rfl, rfl, ht⟩
  · exact .non
  · exact .tup (SqT.of ht) (.cons (.str _) (.cons (.int _) .nil))
  · exact .tup (SqT.of ht) (.cons (.str _) (.cons (.int _) (.cons (.int _) .nil)))
theorem dp_refs {H : Hp} : ∀ {vs : List V} {rs : List (Option Rf)}, Paired (RfV H) vs rs → DpAll K H vs (rs.map refD)
  | _, _, .nil => .nil
  | _, _, .cons r t => .cons (dp_ref r) (dp_refs t)
theorem refD_eqv (r s : Option Rf) : PyData.eqv (refD r) (refD s) = decide (r = s) := by
  match r, s with
  | none, none => rfl
  | none, some (.obj _) => rfl
  | none, some (.imp _ _) => rfl
  | some (.obj _), none => rfl
  | some (.imp _ _), none => rfl
  | some (.obj i), some (.obj j) =>
    simp only [refD, PyData.eqv, PyData.eqvAll]
    by_cases h : i = j
    · subst h; simp
    · simp [h]
  | some (.obj i), some (.imp _ _) => simp [refD, PyData.eqv, PyData.eqvAll]
  | some (.imp _ _), some (.obj i) => simp [refD, PyData.eqv, PyData.eqvAll]
  | some (.imp a b), some (.imp c d) =>
    simp only [refD, PyData.eqv, PyData.eqvAll]
    by_cases h : a = c
    · subst h
      by_cases h : b = d
      · subst h; simp
      · simp [h]
    · simp [h]
theorem ascii_lt {z : Str} (h : z.cps.toList.all (fun c => decide (c < 0x110000)) = true) : ∀ c ∈ z.cps.toList, c < 0x110000 := fun c hc => of_decide_eq_true (List.all_eq_true.mp h c hc)
theorem sh_ref {n : Nat} : ∀ r : Option Rf, Sh (n + 1) (refD r)
  | none => sh_non
  | some (.obj i) => sh_tuple fun d hd => by
    simp only [List.mem_cons, List.not_mem_nil, or_false] at hd
    rcases hd with rfl | rfl
    · exact sh_str (ascii_lt (by decide))
    · exact sh_int _
  | some (.imp o e) => sh_tuple fun d hd => by
    simp only [List.mem_cons, List.not_mem_nil, or_false] at hd
    rcases hd with rfl | rfl | rfl
    · exact sh_str (ascii_lt (by decide))
    · exact sh_int _
    · exact sh_int _
theorem sh_refs {n : Nat} (rs : List (Option Rf)) : Sh (n + 2) (.list (rs.map refD)) := sh_list fun d hd => by
  obtain ⟨r, _, rfl⟩ := List.mem_map.mp hd
  exact sh_ref r
theorem refs_any (rs : List (Option Rf)) (r : Option Rf) : ((rs.map refD).any fun z => PyData.eqv z (refD r)) = decide (r ∈ rs) := by
  induction rs with
  | nil => simp
  | cons s rs ih =>
    rw [List.map_cons, List.any_cons, ih, refD_eqv]
    by_cases h : s = r
    · subst h; simp
    · have h' : ¬ r = s := fun e => h e.symm
      simp [h, h']
/-- one object with its fields -/
def objD (e : Int × List (Option Rf)) : PyData := .tuple [.int e.1, .tuple (e.2.map refD)]
theorem sh_obj {n : Nat} (e : Int × List (Option Rf)) : Sh (n + 3) (objD e) := sh_tuple fun d hd => by
  simp only [List.mem_cons, List.not_mem_nil, or_false] at hd
  rcases hd with rfl | rfl
  · exact sh_int _
  · exact sh_tuple fun d hd => by
      obtain ⟨r, _, rfl⟩ := List.mem_map.mp hd
      exact sh_ref r
theorem sh_objs {n : Nat} (h : HeapM) : Sh (n + 4) (.list (h.map objD)) := sh_list fun d hd => by
  obtain ⟨e, _, rfl⟩ := List.mem_map.mp hd
  exact sh_obj e
theorem dp_obj {H : Hp} {kv : Key × V} {e : Int × List (Option Rf)} {t : Addr} (ht : H t = some (.tup [kV kv.1, kv.2])) (o : ObjV H kv e) : Dp K H (.ref t) (objD e) := by
  obtain ⟨h1, a, vs, h2, h3, h4⟩ := o
  rw [h1, h2] at ht
  exact .tup (SqT.of ht) (.cons (.int _) (.cons (.tup (SqT.of h3) (dp_refs h4)) .nil))
theorem dp_objs {H : Hp} : ∀ {ts : List Addr} {kvs : List (Key × V)} {h : HeapM}, Paired (fun (t : Addr) (q : Key × V) => H t = some (.tup [kV q.1, q.2])) ts kvs → Paired (ObjV H) kvs h → DpAll K H (ts.map V.ref) (h.map objD)
  | _, _, _, .nil, .nil => .nil
  | _, _, _, .cons r t, .cons o u => .cons (dp_obj r o) (dp_objs t u)
/-- pairs as data -/
def pairD (p : Int × Int) : PyData := .tuple [.int p.1, .int p.2]
theorem sh_pair {n : Nat} (p : Int × Int) : Sh (n + 1) (pairD p) := sh_tuple fun d hd => by
  simp only [List.mem_cons, List.not_mem_nil, or_false] at hd
  rcases hd with rfl | rfl
  · exact sh_int _
  · exact sh_int _
theorem pairD_eqv (p q : Int × Int) : PyData.eqv (pairD p) (pairD q) = decide (p = q) := by
  obtain ⟨a, b⟩ := p
  obtain ⟨c, d⟩ := q
  simp only [pairD, PyData.eqv, PyData.eqvAll]
  by_cases h : a = c
  · subst h
    by_cases h : b = d
    · subst h; simp
    · simp [h]
  · simp [h]
theorem dp_pairs {H : Hp} {l : Addr} {ps : List (Int × Int)} (h : PairsAt H l ps) : Dp K H (.ref l) (.list (ps.map pairD)) := by
  obtain ⟨bs, e, h1, h2⟩ := h
  subst e
  refine .lst (SqL.of h1) ?_
  clear h1
  induction bs with
  | nil => exact .nil
  | cons b bs ih => exact .cons (.tup (SqT.of (h2 b List.mem_cons_self)) (.cons (.int _) (.cons (.int _) .nil))) (ih fun x hx => h2 x (List.mem_cons_of_mem _ hx))
theorem sr_pair {n : Nat} {p : Int × Int} (h1 : p.1.natAbs < 10 ^ 12) (h2 : p.2.natAbs < 10 ^ 12) : Sr (n + 1) 100 (pairD p) := (sr_tuple (n := n) (m := 40) (L := 2) (fun d hd => by
  simp only [List.mem_cons, List.not_mem_nil, or_false] at hd
  rcases hd with rfl | rfl
  · exact sr_int h1
  · exact sr_int h2) (Nat.le_refl _)).mono (Nat.le_refl _) (by decide)

/-! ### lists as dicts -/
section
variable {κ β : Type} [DecidableEq κ]
def aget (m : List (κ × β)) (k : κ) : Option β := (m.find? fun e => decide (e.1 = k)).map (·.2)
def aput (m : List (κ × β)) (k : κ) (v : β) : List (κ × β) := if (m.any fun e => decide (e.1 = k)) = true then m.map (fun e => if e.1 = k then (e.1, v) else e) else m ++ [(k, v)]
def adrop (m : List (κ × β)) (k : κ) : List (κ × β) := m.filter fun e => decide (e.1 ≠ k)
theorem aget_nil {k : κ} : aget ([] : List (κ × β)) k = none := rfl
theorem aget_pos {p : κ × β} {r : List (κ × β)} {k : κ} (e : p.1 = k) : aget (p :: r) k = some p.2 := by simp [aget, List.find?_cons, e]
theorem aget_neg {p : κ × β} {r : List (κ × β)} {k : κ} (e : ¬ p.1 = k) : aget (p :: r) k = aget r k := by simp [aget, List.find?_cons, e]
theorem aget_none {m : List (κ × β)} {k : κ} : aget m k = none ↔ k ∉ m.map (·.1) := by
  induction m with
  | nil => simp [aget_nil]
  | cons p m ih =>
    by_cases e : p.1 = k
    · rw [aget_pos e]
      simp [e]
    · rw [aget_neg e, ih, List.map_cons, List.mem_cons]
      exact ⟨fun h z => z.elim (fun z => e z.symm) h, fun h z => h (.inr z)⟩
theorem aget_any {m : List (κ × β)} {k : κ} : (m.any fun e => decide (e.1 = k)) = (aget m k).isSome := by
  induction m with
  | nil => rfl
  | cons p m ih =>
    rw [List.any_cons, ih]
    by_cases e : p.1 = k
    · rw [aget_pos e, decide_eq_true e]
      rfl
    · rw [aget_neg e, decide_eq_false e]
      rfl
theorem aget_mem {m : List (κ × β)} {k : κ} {v : β} (h : aget m k = some v) : (k, v) ∈ m := by
  induction m with
  | nil => cases h
  | cons p m ih =>
    by_cases e : p.1 = k
    · rw [aget_pos e] at h
      cases h
      rw [← e]
      exact List.mem_cons_self
    · rw [aget_neg e] at h
      exact List.mem_cons_of_mem _ (ih h)
theorem aget_of_mem {m : List (κ × β)} (nd : (m.map (·.1)).Nodup) {k : κ} {v : β} (h : (k, v) ∈ m) : aget m k = some v := by
  induction m with
  | nil => cases h
  | cons p m ih =>
    rw [List.map_cons, List.nodup_cons] at nd
    rcases List.mem_cons.mp h with h | h
    · subst h
      exact aget_pos rfl
    · rw [aget_neg (fun e => nd.1 (by rw [e]; exact List.mem_map_of_mem (f := (·.1)) h))]
      exact ih nd.2 h
theorem aput_new {m : List (κ × β)} {k : κ} {v : β} (h : k ∉ m.map (·.1)) : aput m k v = m ++ [(k, v)] := by
  unfold aput
  rw [if_neg]
  rw [aget_any, aget_none.mpr h]
  exact fun z => nomatch z
theorem aput_keys {m : List (κ × β)} {k : κ} {v : β} : (aput m k v).map (·.1) = if k ∈ m.map (·.1) then m.map (·.1) else m.map (·.1) ++ [k] := by
  by_cases h : k ∈ m.map (·.1)
  · rw [if_pos h]
    unfold aput
    rw [if_pos]
    · rw [List.map_map]
      refine List.map_congr_left fun e _ => ?_
      show (if e.1 = k then (e.1, v) else e).1 = e.1
      split <;> rfl
    · rw [aget_any]
      cases e : aget m k with
      | some _ => rfl
      | none => exact absurd h (aget_none.mp e)
  · rw [if_neg h, aput_new h, List.map_append]
    rfl
theorem aget_aput {m : List (κ × β)} {k j : κ} {v : β} : aget (aput m k v) j = if k = j then some v else aget m j := by
  by_cases h : k ∈ m.map (·.1)
  · have hs : (m.any fun e => decide (e.1 = k)) = true := by
      rw [aget_any]
      cases e : aget m k with
      | some _ => rfl
      | none => exact absurd h (aget_none.mp e)
    unfold aput
    rw [if_pos hs]
    clear hs
    induction m with
    | nil => cases h
    | cons p m ih =>
      rw [List.map_cons]
      by_cases e : p.1 = k
      · rw [if_pos e]
        by_cases kj : k = j
        · rw [if_pos kj, aget_pos (by rw [e]; exact kj)]
        · rw [if_neg kj, aget_neg (by rw [e]; exact kj), aget_neg (by rw [e]; exact kj)]
          by_cases hm : k ∈ m.map (·.1)
          · rw [ih hm, if_neg kj]
          · have : m.map (fun e => if e.1 = k then (e.1, v) else e) = m := by
              conv => rhs; rw [← List.map_id m]
              refine List.map_congr_left fun x hx => ?_
              rw [if_neg (fun z => hm (by rw [← z]; exact List.mem_map_of_mem (f := (·.1)) hx))]
              rfl
            rw [this]
      · have hm : k ∈ m.map (·.1) := by
          rw [List.map_cons, List.mem_cons] at h
          exact h.resolve_left fun z => e z.symm
        rw [if_neg e]
        by_cases pj : p.1 = j
        · rw [aget_pos pj, aget_pos pj, if_neg (fun z => e (pj.trans z.symm))]
        · rw [aget_neg pj, aget_neg pj, ih hm]
  · rw [aput_new h]
    induction m with
    | nil =>
      by_cases kj : k = j
      · rw [if_pos kj]
        exact aget_pos kj
      · rw [if_neg kj]
        exact aget_neg kj
    | cons p m ih =>
      rw [List.map_cons, List.mem_cons] at h
      have h1 : ¬ p.1 = k := fun z => h (.inl z.symm)
      rw [List.cons_append]
      by_cases pj : p.1 = j
      · rw [aget_pos pj, aget_pos pj, if_neg (fun z => h1 (pj.trans z.symm))]
      · rw [aget_neg pj, aget_neg pj, ih fun z => h (.inr z)]
theorem aget_adrop {m : List (κ × β)} {k j : κ} : aget (adrop m k) j = if k = j then none else aget m j := by
  induction m with
  | nil => split <;> rfl
  | cons p m ih =>
    unfold adrop at ih ⊢
    by_cases e : p.1 = k
    · rw [List.filter_cons_of_neg (by simp [e]), ih]
      by_cases kj : k = j
      · rw [if_pos kj, if_pos kj]
      · rw [if_neg kj, if_neg kj, aget_neg (by rw [e]; exact kj)]
    · rw [List.filter_cons_of_pos (by simp [e])]
      by_cases pj : p.1 = j
      · rw [aget_pos pj, aget_pos pj, if_neg (fun z => e (pj.trans z.symm))]
      · rw [aget_neg pj, aget_neg pj, ih]
/-- a dict of the heap, in pairs with a plain one -/
def DictR {κ' : Type} (f : κ → κ') (R : V → β → Prop) (kvs : List (κ' × V)) (m : List (κ × β)) : Prop := Paired (fun (kv : κ' × V) (e : κ × β) => kv.1 = f e.1 ∧ R kv.2 e.2) kvs m
section
variable {κ' : Type} [DecidableEq κ'] {f : κ → κ'} {R R' : V → β → Prop} {kvs : List (κ' × V)} {m : List (κ × β)}
theorem DictR.mono (h : DictR f R kvs m) (i : ∀ v b, R v b → R' v b) : DictR f R' kvs m := L2.Paired.mapP h fun _ _ q => ⟨q.1, i _ _ q.2⟩
theorem DictR.length (h : DictR f R kvs m) : kvs.length = m.length := Paired.length h
theorem DictR.keys (h : DictR f R kvs m) : kvs.map (·.1) = m.map fun e => f e.1 := by
  induction h with
  | nil => rfl
  | cons r _ ih => rw [List.map_cons, List.map_cons, r.1, ih]
theorem DictR.get (h : DictR f R kvs m) (hf : ∀ a b, f a = f b → a = b) (k : κ) : (aget m k = none → valV kvs (f k) = none) ∧ ∀ b, aget m k = some b → ∃ v, valV kvs (f k) = some v ∧ R v b := by
  induction h with
  | nil => exact ⟨fun _ => rfl, fun b e => nomatch e⟩
  | @cons x y a b r t ih =>
    by_cases e : y.1 = k
    · rw [aget_pos e]
      refine ⟨(fun z => nomatch z), fun b z => ?_⟩
      cases z
      exact ⟨_, valV_pos (by rw [r.1, e]), r.2⟩
    · rw [aget_neg e, valV_neg (fun z => e (hf _ _ (r.1.symm.trans z)))]
      exact ih
theorem DictR.has (h : DictR f R kvs m) (hf : ∀ a b, f a = f b → a = b) (k : κ) : (valV kvs (f k)).isSome = (aget m k).isSome := by
  obtain ⟨h1, h2⟩ := h.get hf k
  cases e : aget m k with
  | none =>
    rw [h1 e]
    rfl
  | some b =>
    obtain ⟨v, hv, _⟩ := h2 b e
    rw [hv]
    rfl
theorem DictR.put (h : DictR f R kvs m) (hf : ∀ a b, f a = f b → a = b) {k : κ} {v : V} {b : β} (r : R v b) : DictR f R (putK kvs (f k) v) (aput m k b) := by
  have e1 : (kvs.any fun kv => decide (kv.1 = f k)) = (m.any fun e => decide (e.1 = k)) := by
    rw [valV_any, h.has hf k, aget_any]
  unfold putK aput
  rw [e1]
  by_cases c : (m.any fun e => decide (e.1 = k)) = true
  · rw [if_pos c, if_pos c]
    clear e1 c
    induction h with
    | nil => exact .nil
    | @cons x y a b' r' t ih =>
      refine .cons ?_ ih
      show (if x.1 = f k then (x.1, v) else x).1 = f (if y.1 = k then (y.1, b) else y).1 ∧ R (if x.1 = f k then (x.1, v) else x).2 (if y.1 = k then (y.1, b) else y).2
      by_cases e : y.1 = k
      · rw [if_pos e, if_pos (by rw [r'.1, e])]
        exact ⟨r'.1, r⟩
      · rw [if_neg e, if_neg (fun z => e (hf _ _ (r'.1.symm.trans z)))]
        exact r'
  · rw [if_neg c, if_neg c]
    exact paired_app h (.cons ⟨rfl, r⟩ .nil)
theorem DictR.drop (h : DictR f R kvs m) (hf : ∀ a b, f a = f b → a = b) (k : κ) : DictR f R (dropK kvs (f k)) (adrop m k) := by
  induction h with
  | nil => exact .nil
  | @cons x y a b r t ih =>
    unfold dropK adrop at ih ⊢
    by_cases e : y.1 = k
    · have e2 : x.1 = f k := by rw [r.1, e]
      rw [List.filter_cons_of_neg (by simp [e2]), List.filter_cons_of_neg (by simp [e])]
      exact ih
    · have e2 : ¬ x.1 = f k := fun z => e (hf _ _ (r.1.symm.trans z))
      rw [List.filter_cons_of_pos (by simp [e2]), List.filter_cons_of_pos (by simp [e])]
      exact .cons r ih
end
end
theorem inl_inj (a b : Int) (h : (Sum.inl a : Key) = .inl b) : a = b := Sum.inl.inj h

/-! ### messages, events, nodes: plain -/
structure MsgM where
  sender : Int
  receiver : Int
  number : Int
  seen : Int
  held : List Int
  carried : List (Bool × Int)
inductive Ev where
  | make (n : Int)
  | read (r f : Int)
  | write (r f : Int) (o : Option Int)
  | drop (r : Int)
  | send (to : Int) (rs : List Int)
  | receive (m : MsgM)
  | collect
  | report
  | remove (es : List (Int × Int))
def kindS (b : Bool) : Str := if b = true then "export" else "return"
def carD (c : Bool × Int) : PyData := .tuple [.str (kindS c.1), .int c.2]
def MsgM.data (m : MsgM) : PyData := .tuple [.int m.sender, .int m.receiver, .int m.number, .int m.seen, .tuple (m.held.map .int), .tuple (m.carried.map carD)]
def optD : Option Int → PyData
  | none => .none
  | some i => .int i
def Ev.data : Ev → PyData
  | .make n => .tuple [.str "make", .int n]
  | .read r f => .tuple [.str "read", .int r, .int f]
  | .write r f o => .tuple [.str "write", .int r, .int f, optD o]
  | .drop r => .tuple [.str "drop", .int r]
  | .send to rs => .tuple [.str "send", .int to, .tuple (rs.map .int)]
  | .receive m => .tuple [.str "receive", m.data]
  | .collect => .tuple [.str "collect"]
  | .report => .tuple [.str "report"]
  | .remove es => .tuple [.str "remove", .tuple (es.map pairD)]
structure NodeM where
  nodes : Int
  number : Int
  heap : HeapM
  nobj : Int
  roots : List (Int × Rf)
  nroot : Int
  table : List ((Int × Int) × (Rf × Int))
  nent : List Int
  imports : List (Int × Int)
  sent : List Int
  seen : List Int
  returned : List ((Int × Int) × Int)
  last : Option PyData
  hist : List Ev
def node0 (nodes number : Int) : NodeM := ⟨nodes, number, [], 0, [], 0, [], List.replicate nodes.toNat 0, [], List.replicate nodes.toNat 0, List.replicate nodes.toNat 0, [], none, []⟩
def getI (l : List Int) (i : Int) : Int := l.getD i.toNat 0
def setAt (l : List Int) (i v : Int) : List Int := l.set i.toNat v
def NodeM.newRoot (N : NodeM) (r : Rf) : NodeM := { N with roots := aput N.roots N.nroot r, nroot := N.nroot + 1 }
/-- the first entry for a receiver with a target -/
def NodeM.entryOf (N : NodeM) (to : Int) (r : Rf) : Option Int := (N.table.find? fun e => decide (e.1.1 = to ∧ e.2.1 = r)).map (·.1.2)
def NodeM.entryFor (N : NodeM) (to : Int) (r : Rf) : Int × NodeM := match N.entryOf to r with
  | some k => (k, N)
  | none => (getI N.nent to, { N with table := aput N.table (to, getI N.nent to) (r, 0), nent := setAt N.nent to (getI N.nent to + 1) })
def NodeM.export (N : NodeM) (to : Int) (r : Rf) (number : Int) : (Bool × Int) × NodeM :=
  ((true, (N.entryFor to r).1), { (N.entryFor to r).2 with table := aput (N.entryFor to r).2.table (to, (N.entryFor to r).1) (r, number) })
def NodeM.carry (N : NodeM) (to : Int) (r : Rf) (number : Int) : (Bool × Int) × NodeM := match r with
  | .obj _ => N.export to r number
  | .imp o e => if o = to then ((false, e), { N with returned := aput N.returned (o, e) number }) else N.export to r number
def NodeM.rootD (N : NodeM) (r : Int) : Rf := (aget N.roots r).getD (.obj 0)
def NodeM.carryAll (to number : Int) : NodeM → List Int → List (Bool × Int) × NodeM
  | N, [] => ([], N)
  | N, r :: rs => ((N.carry to (N.rootD r) number).1 :: (NodeM.carryAll to number (N.carry to (N.rootD r) number).2 rs).1, (NodeM.carryAll to number (N.carry to (N.rootD r) number).2 rs).2)
def sortI (l : List Int) : List Int := l.mergeSort fun a b => decide (a ≤ b)
def lePB (a b : Int × Int) : Bool := decide (a.1 < b.1) || (decide (a.1 = b.1) && decide (a.2 ≤ b.2))
def sortP (l : List (Int × Int)) : List (Int × Int) := l.mergeSort lePB
def NodeM.heldOf (N : NodeM) (to : Int) : List Int := sortI ((N.imports.filter fun p => decide (p.1 = to)).map (·.2))
def NodeM.sendN (N : NodeM) (to : Int) (rs : List Int) : MsgM × NodeM :=
  let n := getI N.sent to + 1
  let c := NodeM.carryAll to n { N with sent := setAt N.sent to n } rs
  (⟨N.number, to, n, getI N.seen to, N.heldOf to, c.1⟩, c.2)
/-- the reference that comes with what a message carries -/
def NodeM.refOf (N : NodeM) (s : Int) (c : Bool × Int) : Rf := if c.1 = true then .imp s c.2 else ((aget N.table (s, c.2)).map (·.1)).getD (.obj 0)
def NodeM.takeOne (N : NodeM) (s : Int) (c : Bool × Int) : NodeM :=
  ({ N with imports := if c.1 = true then (if (s, c.2) ∈ N.imports then N.imports else N.imports ++ [(s, c.2)]) else N.imports } : NodeM).newRoot (N.refOf s c)
def NodeM.takeAll (s : Int) : NodeM → List (Bool × Int) → List Int × NodeM
  | N, [] => ([], N)
  | N, c :: cs => (N.nroot :: (NodeM.takeAll s (N.takeOne s c) cs).1, (NodeM.takeAll s (N.takeOne s c) cs).2)
def NodeM.forget (N : NodeM) (m : MsgM) : NodeM :=
  { N with table := N.table.filter fun e => !(decide (e.1.1 = m.sender) && (decide (e.2.2 ≤ m.seen) && !decide (e.1.2 ∈ m.held))), returned := N.returned.filter fun e => !(decide (e.1.1 = m.sender) && decide (e.2 ≤ m.seen)) }
def NodeM.receiveN (N : NodeM) (m : MsgM) : List Int × NodeM :=
  let t := NodeM.takeAll m.sender { N with seen := setAt N.seen m.sender m.number } m.carried
  (t.1, t.2.forget m)
def NodeM.starts (N : NodeM) : List (Option Rf) := N.roots.map (fun e => some e.2) ++ N.table.map fun e => some e.2.1
noncomputable def NodeM.gone (N : NodeM) : List Int := (sortI (N.heap.map (·.1))).filter fun i => !decide (i ∈ ledO N.heap N.starts)
noncomputable def NodeM.lost (N : NodeM) : List (Int × Int) := (sortP N.imports).filter fun p => !decide (p ∈ ledI N.heap N.starts)
noncomputable def NodeM.collectN (N : NodeM) : (List Int × List (Int × Int)) × NodeM :=
  ((N.gone, N.lost), { N with heap := N.heap.filter fun e => !decide (e.1 ∈ N.gone), imports := N.imports.filter fun p => !decide (p ∈ N.lost) })
/-- the table in rising order -/
def sortT {β : Type} (t : List ((Int × Int) × β)) : List ((Int × Int) × β) := t.mergeSort fun a b => lePB a.1 b.1
noncomputable def NodeM.impsOf (N : NodeM) (st : List (Option Rf)) : PyData := .tuple ((ledI N.heap st).map pairD)
def NodeM.exportsL (N : NodeM) : List PyData := (sortT N.table).map fun e => .tuple [.int e.1.1, .int e.1.2, refD (some e.2.1), .int e.2.2]
def NodeM.returnedL (N : NodeM) : List PyData := (sortT N.returned).map fun e => .tuple [.int e.1.1, .int e.1.2, .int e.2]
noncomputable def NodeM.rowsL (N : NodeM) : List PyData := (sortT N.table).map fun e => .tuple [.int e.1.1, .int e.1.2, .int e.2.2, N.impsOf [some e.2.1]]
noncomputable def NodeM.reportD (N : NodeM) : PyData :=
  .tuple [.int N.number, .tuple (N.sent.map .int), .tuple (N.seen.map .int), N.impsOf (N.roots.map fun e => some e.2), .tuple N.rowsL, .tuple N.returnedL]
/-- what an event would be: done, stale, refused -/
inductive Chk where
  | ok | stale | bad (cls name : Str)
def NodeM.checkField (N : NodeM) (r f : Int) : Chk := match aget N.roots r with
  | none => .bad "NoRoot" "root"
  | some (.imp _ _) => .bad "NotObject" "object"
  | some (.obj i) => if 0 ≤ f ∧ f < (fieldsOf N.heap i).length then .ok else .bad "NoField" "field"
def NodeM.checkSend (N : NodeM) (to : Int) (rs : List Int) : Chk :=
  if ¬ (0 ≤ to ∧ to < N.nodes) ∨ to = N.number then .bad "OutOfRange" "to" else
  if 4 < rs.length then .bad "OutOfRange" "roots" else
  if (rs.all fun r => (aget N.roots r).isSome) = true then .ok else .bad "NoRoot" "root"
def NodeM.checkReceive (N : NodeM) (m : MsgM) : Chk :=
  if ¬ (0 ≤ m.sender ∧ m.sender < N.nodes) ∨ m.sender = N.number ∨ m.receiver ≠ N.number then .bad "WrongMessage" "message" else
  if m.number ≤ getI N.seen m.sender then .stale else
  if getI N.sent m.sender < m.seen then .bad "WrongMessage" "message" else
  if (m.carried.all fun c => c.1 || (aget N.table (m.sender, c.2)).isSome) = true then .ok else .bad "NoEntry" "entry"
def NodeM.checkRemove (N : NodeM) (es : List (Int × Int)) : Chk :=
  if (es.all fun p => decide (0 ≤ p.1 ∧ p.1 < N.nodes) && (aget N.table p).isSome) = true then .ok else .bad "NoEntry" "entry"
def NodeM.checkWrite (N : NodeM) (r f q : Int) : Chk := match N.checkField r f with
  | .ok => if (aget N.roots q).isSome = true then .ok else .bad "NoRoot" "root"
  | c => c
def NodeM.checkN (N : NodeM) : Ev → Chk
  | .make n => if 0 ≤ n ∧ n ≤ 4 then .ok else .bad "OutOfRange" "fields"
  | .read r f => N.checkField r f
  | .write r f none => N.checkField r f
  | .write r f (some q) => N.checkWrite r f q
  | .drop r => if (aget N.roots r).isSome = true then .ok else .bad "NoRoot" "root"
  | .send to rs => N.checkSend to rs
  | .receive m => N.checkReceive m
  | .collect => .ok
  | .report => .ok
  | .remove es => N.checkRemove es
def objOf : Rf → Int
  | .obj i => i
  | .imp _ _ => 0
def NodeM.makeN (N : NodeM) (n : Int) : NodeM := ({ N with heap := aput N.heap N.nobj (List.replicate n.toNat none), nobj := N.nobj + 1 } : NodeM).newRoot (.obj N.nobj)
def NodeM.fieldAt (N : NodeM) (r f : Int) : Option Rf := (fieldsOf N.heap (objOf (N.rootD r))).getD f.toNat none
def NodeM.writeN (N : NodeM) (r f : Int) (o : Option Int) : NodeM := { N with heap := aput N.heap (objOf (N.rootD r)) ((fieldsOf N.heap (objOf (N.rootD r))).set f.toNat (o.map N.rootD)) }
noncomputable def NodeM.doN (N : NodeM) : Ev → PyData × NodeM
  | .make n => (.int N.nroot, N.makeN n)
  | .read r f => match N.fieldAt r f with
    | none => (.none, N)
    | some x => (.int N.nroot, N.newRoot x)
  | .write r f o => (.none, N.writeN r f o)
  | .drop r => (.none, { N with roots := adrop N.roots r })
  | .send to rs => ((N.sendN to rs).1.data, (N.sendN to rs).2)
  | .receive m => (.tuple ((N.receiveN m).1.map .int), (N.receiveN m).2)
  | .collect => (.tuple [.tuple (N.collectN.1.1.map .int), .tuple (N.collectN.1.2.map pairD)], N.collectN.2)
  | .report => (N.reportD, { N with last := some N.reportD })
  | .remove es => (.none, { N with table := es.foldl adrop N.table })
def refusedD (z : Str) : PyData := .tuple [.str "refused", .str z]
noncomputable def NodeM.performN (N : NodeM) (e : Ev) : PyData × NodeM := match N.checkN e with
  | .ok => ((N.doN e).1, { (N.doN e).2 with hist := (N.doN e).2.hist ++ [e] })
  | .stale => (.none, N)
  | .bad _ z => (refusedD z, N)

end
section
open PySem PySem.Spec PyProof.Rows L2
variable {P : Program} {w : World} {K : PySem.W.Frag} {mg : Str → Option Value} {base : Heap}
/-! ### data that never change -/
mutual
inductive Fz (K : PySem.W.Frag) (H : Hp) : V → PyData → Prop
  | non : Fz K H .non .none
  | bl (b : Bool) : Fz K H (.bl b) (.bool b)
  | int (i : Int) : Fz K H (.int i) (.int i)
  | str (z : Str) : Fz K H (.str z) (.str z)
  | tup {a : Addr} {vs : List V} {ds : List PyData} (h : SqT K H a vs) (q : FzAll K H vs ds) : Fz K H (.ref a) (.tuple ds)
inductive FzAll (K : PySem.W.Frag) (H : Hp) : List V → List PyData → Prop
  | nil : FzAll K H [] []
  | cons {v : V} {vs : List V} {d : PyData} {ds : List PyData} (h : Fz K H v d) (t : FzAll K H vs ds) : FzAll K H (v :: vs) (d :: ds)
end
section
variable {K : PySem.W.Frag} {H H' : Hp}
mutual
theorem Fz.imm (i : Imm H H') : ∀ {v : V} {d : PyData}, Fz K H v d → Fz K H' v d
  | _, _, .non => .non
  | _, _, .bl b => .bl b
  | _, _, .int i => .int i
  | _, _, .str z => .str z
  | _, _, .tup h q => .tup (sqT_imm i h) (FzAll.imm i q)
theorem FzAll.imm (i : Imm H H') : ∀ {vs : List V} {ds : List PyData}, FzAll K H vs ds → FzAll K H' vs ds
  | _, _, .nil => .nil
  | _, _, .cons h t => .cons (Fz.imm i h) (FzAll.imm i t)
end
mutual
theorem Fz.dp : ∀ {v : V} {d : PyData}, Fz K H v d → Dp K H v d
  | _, _, .non => .non
  | _, _, .bl b => .bl b
  | _, _, .int i => .int i
  | _, _, .str z => .str z
  | _, _, .tup h q => .tup h (FzAll.dp q)
theorem FzAll.dp : ∀ {vs : List V} {ds : List PyData}, FzAll K H vs ds → DpAll K H vs ds
  | _, _, .nil => .nil
  | _, _, .cons h t => .cons (Fz.dp h) (FzAll.dp t)
end
theorem FzAll.length : ∀ {vs : List V} {ds : List PyData}, FzAll K H vs ds → vs.length = ds.length
  | _, _, .nil => rfl
  | _, _, .cons _ t => congrArg (· + 1) (FzAll.length t)
theorem FzAll.app : ∀ {vs ws : List V} {ds es : List PyData}, FzAll K H vs ds → FzAll K H ws es → FzAll K H (vs ++ ws) (ds ++ es)
  | _, _, _, _, .nil, q => q
  | _, _, _, _, .cons h t, q => .cons h (FzAll.app t q)
theorem FzAll.get : ∀ {vs : List V} {ds : List PyData}, FzAll K H vs ds → ∀ {i : Nat} {d : PyData}, ds[i]? = some d → ∃ v, vs[i]? = some v ∧ Fz K H v d
  | _, _, .nil, _, _, h => by simp at h
  | _, _, .cons h t, 0, _, e => by cases e; exact ⟨_, rfl, h⟩
  | _, _, .cons h t, i + 1, _, e => FzAll.get t (by simpa using e)
theorem FzAll.getV : ∀ {vs : List V} {ds : List PyData}, FzAll K H vs ds → ∀ {i : Nat} {v : V}, vs[i]? = some v → ∃ d, ds[i]? = some d ∧ Fz K H v d
  | _, _, .nil, _, _, h => by simp at h
  | _, _, .cons h t, 0, _, e => by cases e; exact ⟨_, rfl, h⟩
  | _, _, .cons h t, i + 1, _, e => FzAll.getV t (by simpa using e)
theorem fz_ref {v : V} {r : Option Rf} (h : RfV H v r) : Fz K H v (refD r) := by
  rcases h.non_or with ⟨rfl, rfl⟩ | ⟨j, t, rfl, rfl, ht⟩ | ⟨p, e, t, rfl, rfl, ht⟩
  · exact .non
  · exact .tup (SqT.of ht) (.cons (.str _) (.cons (.int _) .nil))
  · exact .tup (SqT.of ht) (.cons (.str _) (.cons (.int _) (.cons (.int _) .nil)))
theorem fz_ints : ∀ ns : List Int, FzAll K H (ns.map V.int) (ns.map .int)
  | [] => .nil
  | n :: ns => .cons (.int n) (fz_ints ns)
theorem RfV.imm (i : Imm H H') {v : V} {r : Option Rf} (h : RfV H v r) : RfV H' v r := h.mono i.tups
theorem refs_imm (i : Imm H H') {vs : List V} {rs : List (Option Rf)} (h : Paired (RfV H) vs rs) : Paired (RfV H') vs rs := L2.Paired.mapP h fun _ _ => RfV.imm i
end
/-! ### the parts of a node in the heap -/
def RfI (H : Hp) (v : V) (r : Rf) : Prop := RfV H v (some r)
def heapC (a : Addr) (h : HeapM) : Asr := cell a (fun o H => ∃ kvs, o = .dK kvs ∧ Paired (ObjV H) kvs h) fun _ _ _ ⟨kvs, e, p⟩ i => ⟨kvs, e, L2.Paired.mapP p fun _ _ => ObjV.mono i.tups⟩
def rootsC (a : Addr) (m : List (Int × Rf)) : Asr := cell a (fun o H => ∃ kvs, o = .dK kvs ∧ DictR (Sum.inl : Int → Key) (RfI H) kvs m) fun _ _ _ ⟨kvs, e, p⟩ i => ⟨kvs, e, p.mono fun _ _ => RfV.imm i⟩
def intsC (a : Addr) (l : List Int) : Asr := pt a (.lst (l.map V.int))
def impsC (a : Addr) (l : List (Int × Int)) : Asr := pt a (setP l)
def retC (a : Addr) (m : List ((Int × Int) × Int)) : Asr := pt a (.dT (m.map fun e => (pairK e.1, V.int e.2)))
def listC (K : PySem.W.Frag) (a : Addr) (ds : List PyData) : Asr := cell a (fun o H => ∃ vs, o = .lst vs ∧ FzAll K H vs ds) fun _ _ _ ⟨vs, e, p⟩ i => ⟨vs, e, p.imm i⟩
/-- an entry of a table -/
def entC (mg : Str → Option Value) (a : Addr) (e : Rf × Int) : Asr := cell a (fun o H => ∃ C dx v, mg "Entry" = some (.ref C) ∧ o = .ins C dx [("target", v), ("number", .int e.2)] ∧ RfI H v e.1) fun _ _ _ ⟨C, dx, v, h1, h2, h3⟩ i => ⟨C, dx, v, h1, h2, RfV.imm i h3⟩
abbrev TabM := List (Int × (Addr × (Rf × Int)))
def tabK (m : TabM) : List (Key × V) := m.map fun e => (Sum.inl e.1, V.ref e.2.1)
def tabS (m : TabM) : List (Int × (Rf × Int)) := m.map fun e => (e.1, e.2.2)
def tabC (mg : Str → Option Value) (a : Addr) (m : TabM) : Asr := star [pt a (.dK (tabK m)), big (fun e => entC mg e.2.1 e.2.2) m]
def tabOf (t : List ((Int × Int) × (Rf × Int))) (j : Nat) : List (Int × (Rf × Int)) := (t.filter fun e => decide (e.1.1 = (j : Int))).map fun e => (e.1.2, e.2)
def tabsC (mg : Str → Option Value) (T : Addr) (n : Int) (t : List ((Int × Int) × (Rf × Int))) : Asr := exA fun ms : List (Addr × TabM) =>
  star [prop (ms.map (fun x => tabS x.2) = (List.range n.toNat).map (tabOf t)), pt T (.lst (ms.map fun x => V.ref x.1)), big (fun x => tabC mg x.1 x.2) ms]
structure NAddr where
  heap : Addr
  roots : Addr
  tabs : Addr
  nent : Addr
  imps : Addr
  sent : Addr
  seen : Addr
  ret : Addr
  hist : Addr
def lastD : Option PyData → PyData
  | none => .none
  | some d => d
def fsN (x : NAddr) (N : NodeM) (lv : V) : List (Str × V) := [("_nodes", .int N.nodes), ("_number", .int N.number), ("_heap", .ref x.heap), ("_next_object", .int N.nobj), ("_roots", .ref x.roots), ("_next_root", .int N.nroot), ("_tables", .ref x.tabs), ("_next_entry", .ref x.nent), ("_imports", .ref x.imps),
  ("_sent", .ref x.sent), ("_seen", .ref x.seen), ("_returned", .ref x.ret), ("_last_report", lv), ("_history", .ref x.hist)]
def objN (mg : Str → Option Value) (K : PySem.W.Frag) (a : Addr) (x : NAddr) (N : NodeM) : Asr := cell a (fun o H => ∃ C dx lv, mg "Node" = some (.ref C) ∧ o = .ins C dx (fsN x N lv) ∧ Fz K H lv (lastD N.last)) fun _ _ _ ⟨C, dx, lv, h1, h2, h3⟩ i => ⟨C, dx, lv, h1, h2, h3.imm i⟩
def nodeL (mg : Str → Option Value) (K : PySem.W.Frag) (a : Addr) (x : NAddr) (N : NodeM) : List Asr :=
  [objN mg K a x N, heapC x.heap N.heap, rootsC x.roots N.roots, tabsC mg x.tabs N.nodes N.table, intsC x.nent N.nent, impsC x.imps N.imports, intsC x.sent N.sent, intsC x.seen N.seen, retC x.ret N.returned, listC K x.hist (N.hist.map Ev.data)]
/-- the package's node at a -/
def nodeC (mg : Str → Option Value) (K : PySem.W.Frag) (a : Addr) (N : NodeM) : Asr := exA fun x : NAddr => star (nodeL mg K a x N)
section
variable {mg : Str → Option Value} {K : PySem.W.Frag} {a T : Addr} {N : NodeM} {l : List Asr} {H : Hp} {x : NAddr}
theorem node_open : Holds (nodeC mg K a N :: l) H ↔ ∃ x, Holds (nodeL mg K a x N ++ l) H := holds_ex.trans (exists_congr fun _ => holds_star)
theorem tabs_open {n : Int} {t : List ((Int × Int) × (Rf × Int))} : Holds (tabsC mg T n t :: l) H ↔ ∃ ms : List (Addr × TabM), ms.map (fun x => tabS x.2) = (List.range n.toNat).map (tabOf t) ∧ Holds (pt T (.lst (ms.map fun x => V.ref x.1)) :: big (fun x => tabC mg x.1 x.2) ms :: l) H :=
  holds_ex.trans (exists_congr fun _ => holds_star.trans holds_prop)
theorem tab_open {m : TabM} : Holds (tabC mg a m :: l) H ↔ Holds (pt a (.dK (tabK m)) :: big (fun e => entC mg e.2.1 e.2.2) m :: l) H := holds_star
end
/-! ### a node in order -/
structure NodeOk (N : NodeM) : Prop where
  nodes : 2 ≤ N.nodes ∧ N.nodes ≤ 4
  num : 0 ≤ N.number ∧ N.number < N.nodes
  lnent : N.nent.length = N.nodes.toNat
  lsent : N.sent.length = N.nodes.toNat
  lseen : N.seen.length = N.nodes.toNat
  valid : ValidH N.heap N.starts
  hnd : (N.heap.map (·.1)).Nodup
  hnew : ∀ i ∈ N.heap.map (·.1), i < N.nobj
  fl : ∀ e ∈ N.heap, e.2.length ≤ 4
  rnd : (N.roots.map (·.1)).Nodup
  rnew : ∀ i ∈ N.roots.map (·.1), i < N.nroot
  tk : ∀ e ∈ N.table, (0 ≤ e.1.1 ∧ e.1.1 < N.nodes) ∧ e.1.2 < getI N.nent e.1.1
  tinc : N.table.Pairwise fun e f => e.1.1 = f.1.1 → e.1.2 < f.1.2
  ind : N.imports.Nodup
  rtnd : (N.returned.map (·.1)).Nodup
theorem NodeOk.rootObj {N : NodeM} (o : NodeOk N) {r i : Int} (h : aget N.roots r = some (.obj i)) : i ∈ N.heap.map (·.1) := by
  refine o.valid.st i (List.mem_append_left _ (List.mem_map.mpr ⟨_, aget_mem h, rfl⟩))
theorem NodeOk.tgtObj {N : NodeM} (o : NodeOk N) {k : Int × Int} {n i : Int} (h : aget N.table k = some (.obj i, n)) : i ∈ N.heap.map (·.1) := by
  refine o.valid.st i (List.mem_append_right _ (List.mem_map.mpr ⟨_, aget_mem h, rfl⟩))
/-- how big a node is -/
structure NodeSz (t : Nat) (N : NodeM) : Prop where
  le : t ≤ 1000
  heap : N.heap.length ≤ t
  roots : N.roots.length ≤ 4 * t
  table : N.table.length ≤ 4 * t
  imports : N.imports.length ≤ 4 * t
  returned : N.returned.length ≤ 4 * t
  hist : N.hist.length ≤ t
/-- the exception that is thrown, with its name -/
def Throws (mg : Str → Option Value) (cls : Str) (z : Str) (H : Hp) (E : XK) : Prop := ∀ (C d : Addr) (H' : Hp), mg cls = some (.ref C) → Same H H' → H d = none → H' d = some (.xd [("name", .str z)]) → E (.ref C) (some d) H'
theorem Throws.go {mg : Str → Option Value} {cls z : Str} {H : Hp} {E : XK} (h : Throws mg cls z H E) : ∀ (C d : Addr), mg cls = some (.ref C) → H d = none → E (.ref C) (some d) (upd H d (.xd [("name", .str z)])) := fun C d hC hd => h C d _ hC (nws hd (Same.refl H)) hd upd_same
/-- an exception without fields is raised -/
def RaisesP (mg : Str → Option Value) (cls : Str) (H : Hp) (E : XK) : Prop := ∀ C, mg cls = some (.ref C) → E (.ref C) none H
/-- an exception with its name, or without -/
def Bad (mg : Str → Option Value) (c z : Str) (H : Hp) (E : XK) : Prop := (c = "OutOfRange" → Throws mg "OutOfRange" z H E) ∧ (c ≠ "OutOfRange" → RaisesP mg c H E)
def ChkTo (mg : Str → Option Value) (c : Chk) (A B : Prop) (H : Hp) (E : XK) : Prop := match c with
  | .ok => A
  | .stale => B
  | .bad c z => Bad mg c z H E
theorem fieldsOf_some {h : HeapM} {i : Int} {fs : List (Option Rf)} (e : h.lookup i = some fs) : fieldsOf h i = fs := by
  unfold fieldsOf
  rw [e]
  rfl

section
variable {κ β γ : Type} [DecidableEq κ]
theorem aget_map {m : List (κ × β)} {g : β → γ} {k : κ} : aget (m.map fun e => (e.1, g e.2)) k = (aget m k).map g := by
  induction m with
  | nil => rfl
  | cons p m ih =>
    rw [List.map_cons]
    by_cases e : p.1 = k
    · rw [aget_pos e, aget_pos (show (p.1, g p.2).1 = k from e)]
      rfl
    · rw [aget_neg e, aget_neg (show ¬ (p.1, g p.2).1 = k from e), ih]
theorem dictR_self {κ' : Type} {f : κ → κ'} {g : β → V} (m : List (κ × β)) : DictR f (fun v b => v = g b) (m.map fun e => (f e.1, g e.2)) m := by
  induction m with
  | nil => exact .nil
  | cons p m ih => exact .cons ⟨rfl, rfl⟩ ih
end
theorem aget_tabOf {t : List ((Int × Int) × (Rf × Int))} {j : Nat} {e : Int} : aget (tabOf t j) e = aget t ((j : Int), e) := by
  unfold tabOf
  induction t with
  | nil => rfl
  | cons p t ih =>
    by_cases h : p.1.1 = (j : Int)
    · rw [List.filter_cons_of_pos (by simpa using h), List.map_cons]
      by_cases h2 : p.1.2 = e
      · rw [aget_pos (show (p.1.2, p.2).1 = e from h2), aget_pos (show p.1 = _ from Prod.ext h h2)]
      · rw [aget_neg (show ¬ (p.1.2, p.2).1 = e from h2), aget_neg (fun z => h2 (by rw [z])), ih]
    · rw [List.filter_cons_of_neg (by simpa using h), aget_neg (fun z => h (by rw [z])), ih]
section
variable {mg : Str → Option Value} {T : Addr} {n : Int} {t : List ((Int × Int) × (Rf × Int))} {l : List Asr} {H : Hp}
theorem big_mem {α : Type} {f : α → Asr} {xs : List α} {x : α} (h : Holds (big f xs :: l) H) (hx : x ∈ xs) : ∃ l', Holds (f x :: l') H := by
  obtain ⟨i, hi⟩ := List.getElem?_of_mem hx
  exact ⟨_, (big_at hi).mp h⟩
theorem ent_at {a : Addr} {e : Rf × Int} (h : Holds (entC mg a e :: l) H) : ∃ v, Ob mg H a "Entry" [("target", v), ("number", .int e.2)] ∧ RfI H v e.1 := by
  obtain ⟨_, h1, _, C, dx, v, hC, rfl, hv⟩ := h.cell
  exact ⟨v, ⟨C, dx, hC, h1⟩, hv⟩
/-- a table is read -/
theorem tabs_at (h : Holds (tabsC mg T n t :: l) H) {j : Nat} (hj : j < n.toNat) : ∃ (xs : List Addr) (ta : Addr) (m : TabM), H T = some (.lst (xs.map V.ref)) ∧ xs.length = n.toNat ∧ xs[j]? = some ta ∧ H ta = some (.dK (tabK m)) ∧ tabS m = tabOf t j ∧
    ∀ e ∈ m, ∃ v, Ob mg H e.2.1 "Entry" [("target", v), ("number", .int e.2.2.2)] ∧ RfI H v e.2.2.1 := by
  obtain ⟨ms, hm, h⟩ := tabs_open.mp h
  have hl : ms.length = n.toNat := by
    have := congrArg List.length hm
    simpa using this
  have hjl : j < ms.length := by omega
  have hT := h.at
  have h2 := (big_at (List.getElem?_eq_getElem hjl)).mp h.tail
  have h3 := tab_open.mp h2
  refine ⟨ms.map (·.1), ms[j].1, ms[j].2, by rw [hT, List.map_map]; rfl, by rw [List.length_map, hl], by rw [List.getElem?_map, List.getElem?_eq_getElem hjl]; rfl, h3.at, ?_, fun e he => ?_⟩
  · have := congrArg (fun z => z[j]?) hm
    simp only [List.getElem?_map, List.getElem?_eq_getElem hjl, List.getElem?_range hj, Option.map_some] at this
    exact Option.some.inj this
  · obtain ⟨l', h4⟩ := big_mem h3.tail he
    exact ent_at h4
theorem tab_has {m : TabM} {j : Nat} {e : Int} (hm : tabS m = tabOf t j) : (aget m e).map (·.2) = aget t ((j : Int), e) := by
  rw [← aget_tabOf, ← hm]
  exact aget_map.symm
theorem tabK_R (m : TabM) : DictR (Sum.inl : Int → Key) (fun v (b : Addr × (Rf × Int)) => v = V.ref b.1) (tabK m) m := dictR_self m
end
section
variable {K : PySem.W.Frag} {H : Hp}
theorem fz_ints_inv : ∀ {vs : List V} {ns : List Int}, FzAll K H vs (ns.map .int) → vs = ns.map V.int
  | [], [], _ => rfl
  | _ :: _, [], h => by cases h
  | [], _ :: _, h => by cases h
  | v :: vs, n :: ns, h => by
    cases h with
    | cons h t =>
      cases h
      rw [fz_ints_inv t]
      rfl
theorem fz_tup {v : V} {ds : List PyData} (h : Fz K H v (.tuple ds)) : ∃ t vs, v = .ref t ∧ SqT K H t vs ∧ FzAll K H vs ds := by
  cases h with
  | tup h q => exact ⟨_, _, rfl, h, q⟩
theorem fz_intsT {v : V} {ns : List Int} (h : Fz K H v (.tuple (ns.map .int))) : ∃ t, v = .ref t ∧ SqT K H t (ns.map V.int) := by
  obtain ⟨t, vs, rfl, h1, h2⟩ := fz_tup h
  exact ⟨t, rfl, by rw [← fz_ints_inv h2]; exact h1⟩
theorem fz_car {v : V} {c : Bool × Int} (h : Fz K H v (carD c)) : ∃ t, v = .ref t ∧ SqT K H t [.str (kindS c.1), .int c.2] := by
  obtain ⟨t, vs, rfl, h1, h2⟩ := fz_tup h
  cases h2 with
  | cons a b =>
    cases a
    cases b with
    | cons a b =>
      cases a
      cases b
      exact ⟨t, rfl, h1⟩
theorem fz_msg {v : V} {m : MsgM} (h : Fz K H v m.data) : ∃ (tm th tc : Addr) (cs : List V), v = .ref tm ∧ SqT K H tm [.int m.sender, .int m.receiver, .int m.number, .int m.seen, .ref th, .ref tc] ∧ SqT K H th (m.held.map V.int) ∧ SqT K H tc cs ∧ FzAll K H cs (m.carried.map carD) := by
  obtain ⟨tm, vs, rfl, h1, h2⟩ := fz_tup h
  cases h2 with
  | cons a b => cases a; cases b with
    | cons a b => cases a; cases b with
      | cons a b => cases a; cases b with
        | cons a b => cases a; cases b with
          | cons a b =>
            obtain ⟨th, rfl, h3⟩ := fz_intsT a
            cases b with
            | cons a b =>
              obtain ⟨tc, cs, rfl, h4, h5⟩ := fz_tup a
              cases b
              exact ⟨tm, th, tc, cs, rfl, h1, h3, h4, h5⟩
end
section
variable {K : PySem.W.Frag} {H : Hp} {mg : Str → Option Value} {E : XK} {A A' B B' : Prop}
theorem fz_pair {v : V} {p : Int × Int} (h : Fz K H v (pairD p)) : ∃ t, v = .ref t ∧ SqT K H t [.int p.1, .int p.2] := by
  obtain ⟨t, vs, rfl, h1, h2⟩ := fz_tup h
  cases h2 with
  | cons a b => cases a; cases b with
    | cons a b => cases a; cases b; exact ⟨t, rfl, h1⟩
theorem strT {z : Str} (h : A) : if decide (V.str z = V.str z) = true then A else B := by
  rw [if_pos (decide_eq_true rfl)]
  exact h
theorem strF {y z : Str} (n : y ≠ z) (h : B) : if decide (V.str y = V.str z) = true then A else B := by
  rw [if_neg (fun e => n (V.str.inj (of_decide_eq_true e)))]
  exact h
theorem ChkTo.to {c : Chk} (k : ChkTo mg c A B H E) (hs : c ≠ .stale) (f : A → A') : ChkTo mg c A' False H E := by
  cases c with
  | ok => exact f k
  | stale => exact absurd rfl hs
  | bad _ _ => exact k
theorem ChkTo.imp {c : Chk} (k : ChkTo mg c A B H E) (f : A → A') (g : B → B') : ChkTo mg c A' B' H E := by
  cases c with
  | ok => exact f k
  | stale => exact g k
  | bad _ _ => exact k
theorem checkField_ns {N : NodeM} {r f : Int} : N.checkField r f ≠ .stale := by
  unfold NodeM.checkField
  intro h
  split at h
  · cases h
  · cases h
  · split at h <;> cases h
theorem checkSend_ns {N : NodeM} {to : Int} {rs : List Int} : N.checkSend to rs ≠ .stale := by
  unfold NodeM.checkSend
  intro h
  split at h
  · cases h
  · split at h
    · cases h
    · split at h <;> cases h
theorem checkRemove_ns {N : NodeM} {es : List (Int × Int)} : N.checkRemove es ≠ .stale := by
  unfold NodeM.checkRemove
  intro h
  split at h <;> cases h
theorem check_write0 {N : NodeM} {r f : Int} : N.checkN (.write r f none) = N.checkField r f := rfl
theorem check_write1 {N : NodeM} {r f q : Int} (h : N.checkField r f = .ok) : N.checkN (.write r f (some q)) = if (aget N.roots q).isSome = true then .ok else .bad "NoRoot" "root" := by
  show N.checkWrite r f q = _
  unfold NodeM.checkWrite
  rw [h]
theorem check_write2 {N : NodeM} {r f q : Int} {c z : Str} (h : N.checkField r f = .bad c z) : N.checkN (.write r f (some q)) = .bad c z := by
  show N.checkWrite r f q = _
  unfold NodeM.checkWrite
  rw [h]
/-- an event in the heap: its tuple -/
def EvV (K : PySem.W.Frag) (H : Hp) (t : Addr) : Ev → Prop
  | .make n => SqT K H t [.str "make", .int n]
  | .read r f => SqT K H t [.str "read", .int r, .int f]
  | .write r f o => SqT K H t [.str "write", .int r, .int f, match o with | none => .non | some q => .int q]
  | .drop r => SqT K H t [.str "drop", .int r]
  | .send to rs => ∃ tr, SqT K H t [.str "send", .int to, .ref tr] ∧ SqT K H tr (rs.map V.int)
  | .receive m => ∃ v, SqT K H t [.str "receive", v] ∧ Fz K H v m.data
  | .collect => SqT K H t [.str "collect"]
  | .report => SqT K H t [.str "report"]
  | .remove es => ∃ te vs, SqT K H t [.str "remove", .ref te] ∧ SqT K H te vs ∧ FzAll K H vs (es.map pairD)
theorem fz_ev {v : V} {e : Ev} (h : Fz K H v e.data) : ∃ t, v = .ref t ∧ EvV K H t e := by
  cases e with
  | make n =>
    obtain ⟨t, vs, rfl, h1, h2⟩ := fz_tup h
    cases h2 with
    | cons a b => cases a; cases b with
      | cons a b => cases a; cases b; exact ⟨t, rfl, h1⟩
  | read r f =>
    obtain ⟨t, vs, rfl, h1, h2⟩ := fz_tup h
    cases h2 with
    | cons a b => cases a; cases b with
      | cons a b => cases a; cases b with
        | cons a b => cases a; cases b; exact ⟨t, rfl, h1⟩
  | write r f o =>
    obtain ⟨t, vs, rfl, h1, h2⟩ := fz_tup h
    cases h2 with
    | cons a b => cases a; cases b with
      | cons a b => cases a; cases b with
        | cons a b => cases a; cases b with
          | cons a b =>
            cases b
            cases o with
            | none => cases a; exact ⟨t, rfl, h1⟩
            | some q => cases a; exact ⟨t, rfl, h1⟩
  | drop r =>
    obtain ⟨t, vs, rfl, h1, h2⟩ := fz_tup h
    cases h2 with
    | cons a b => cases a; cases b with
      | cons a b => cases a; cases b; exact ⟨t, rfl, h1⟩
  | send to rs =>
    obtain ⟨t, vs, rfl, h1, h2⟩ := fz_tup h
    cases h2 with
    | cons a b => cases a; cases b with
      | cons a b => cases a; cases b with
        | cons a b =>
          cases b
          obtain ⟨tr, rfl, h3⟩ := fz_intsT a
          exact ⟨t, rfl, tr, h1, h3⟩
  | receive m =>
    obtain ⟨t, vs, rfl, h1, h2⟩ := fz_tup h
    cases h2 with
    | cons a b => cases a; cases b with
      | cons a b => cases b; exact ⟨t, rfl, _, h1, a⟩
  | collect =>
    obtain ⟨t, vs, rfl, h1, h2⟩ := fz_tup h
    cases h2 with
    | cons a b => cases a; cases b; exact ⟨t, rfl, h1⟩
  | report =>
    obtain ⟨t, vs, rfl, h1, h2⟩ := fz_tup h
    cases h2 with
    | cons a b => cases a; cases b; exact ⟨t, rfl, h1⟩
  | remove es =>
    obtain ⟨t, vs, rfl, h1, h2⟩ := fz_tup h
    cases h2 with
    | cons a b => cases a; cases b with
      | cons a b =>
        cases b
        obtain ⟨te, ws, rfl, h3, h4⟩ := fz_tup a
        exact ⟨t, rfl, te, ws, h1, h3, h4⟩
end
/-- what an operation on a node leaves -/
def NodeTo (mg : Str → Option Value) (K : PySem.W.Frag) (a : Addr) (N' : NodeM) (L : List Asr) (H : Hp) (F : Hp → Prop) : Prop := ∀ H', Holds (nodeC mg K a N' :: L) H' → Imm H H' → F H'
/-- a tuple of fields -/
def FsV (H : Hp) (v : V) (fs : List (Option Rf)) : Prop := ∃ t vs, v = .ref t ∧ H t = some (.tup vs) ∧ Paired (RfV H) vs fs
theorem paired_rep {α β : Type} {F : α → β → Prop} {x : α} {y : β} (h : F x y) : ∀ n : Nat, Paired F (List.replicate n x) (List.replicate n y)
  | 0 => .nil
  | n + 1 => .cons h (paired_rep h n)
theorem checkField_ok {N : NodeM} {r f : Int} (h : N.checkField r f = .ok) : ∃ i, aget N.roots r = some (.obj i) ∧ 0 ≤ f ∧ f < (fieldsOf N.heap i).length := by
  unfold NodeM.checkField at h
  cases e : aget N.roots r with
  | none => rw [e] at h; cases h
  | some x =>
    rw [e] at h
    cases x with
    | imp _ _ => cases h
    | obj i =>
      have h : (if 0 ≤ f ∧ f < (fieldsOf N.heap i).length then Chk.ok else .bad "NoField" "field") = .ok := h
      by_cases q : 0 ≤ f ∧ f < (fieldsOf N.heap i).length
      · exact ⟨i, rfl, q⟩
      · rw [if_neg q] at h
        cases h
def oV : Option Int → V
  | none => .non
  | some q => .int q
theorem check_write_ok {N : NodeM} {r f : Int} {o : Option Int} (h : N.checkN (.write r f o) = .ok) : N.checkField r f = .ok ∧ ∀ q, o = some q → ∃ z, aget N.roots q = some z := by
  cases o with
  | none => exact ⟨h, fun q e => nomatch e⟩
  | some q =>
    cases e : N.checkField r f with
    | stale => exact absurd e checkField_ns
    | bad c z =>
      rw [check_write2 e] at h
      cases h
    | ok =>
      rw [check_write1 e] at h
      refine ⟨rfl, fun q' e' => ?_⟩
      cases e'
      cases e2 : aget N.roots q with
      | none =>
        rw [e2, if_neg (fun z => nomatch z)] at h
        cases h
      | some z => exact ⟨z, rfl⟩

end
section
open PySem PySem.Spec PyProof.Rows L2
variable {P : Program} {w : World} {K : PySem.W.Frag} {mg : Str → Option Value} {base : Heap}
/-! ### tuple(zip(xs, ys)) -/
section
variable {prog : Program} {w : World} {A : Around} {E : Value → Shared → Prop} {s : Shared} {z TI TO i1 i2 l1 l2 S : Addr} {xs ys : Array Value}
def ZpSt (h : Heap) (z TI TO i1 i2 l1 l2 S : Addr) (xs ys : Array Value) (i : Nat) : Prop :=
  IsPair h TI (.ref i1) (.ref i2) ∧ h.IsListIter i1 l1 i ∧ h.IsListIter i2 l2 i ∧ h.IsList l1 xs ∧ h.IsList l2 ys ∧
    ((IsZip h z TI TO .none ∧ ∃ a b, IsPair h TO a b) ∨ ∃ (T : Addr) (f : Bool) (oT : Obj), IsZipHeld h z TI TO T f ∧ h.get? T = some oT ∧ T ≠ z ∧ T ≠ i1 ∧ T ≠ i2 ∧ T ≠ S)
theorem ZpSt.keep {h h' : Heap} {i : Nat} (st : ZpSt h z TI TO i1 i2 l1 l2 S xs ys i) (d : TI ≠ S ∧ i1 ≠ S ∧ i2 ≠ S ∧ l1 ≠ S ∧ l2 ≠ S ∧ z ≠ S ∧ TO ≠ S) (hk : ∀ b o, b ≠ S → h.get? b = some o → h'.get? b = some o) : ZpSt h' z TI TO i1 i2 l1 l2 S xs ys i := by
  obtain ⟨hTI, h1, h2, hl1, hl2, hz⟩ := st
  obtain ⟨d1, d2, d3, d4, d5, d6, d7⟩ := d
  refine ⟨hk _ _ d1 hTI, h1.at fun o e => hk _ o d2 e, h2.at fun o e => hk _ o d3 e, hl1.at fun o e => hk _ o d4 e, hl2.at fun o e => hk _ o d5 e, ?_⟩
  rcases hz with ⟨hz, a, b, hTO⟩ | ⟨T, f, oT, hz, hT, r1, r2, r3, r4⟩
  · exact .inl ⟨hk _ _ d6 hz, a, b, hk _ _ d7 hTO⟩
  · exact .inr ⟨T, f, oT, hk _ _ d6 hz, hk _ _ r4 hT, r1, r2, r3, r4⟩
theorem zp_item {i : Nat} {Q : Option Value → Shared → Prop} (D : ZipApart z TI TO i1 i2 l1 l2)
    (st : ZpSt s.heap z TI TO i1 i2 l1 l2 S xs ys i) (hS : S < s.heap.objs.size) {x y : Value} (ex : xs[i]? = some x) (ey : ys[i]? = some y)
    (hQ : ∀ h', ZpSt h' z TI TO i1 i2 l1 l2 S xs ys (i + 1) → IsPair h' s.heap.objs.size x y → h'.objs.size = s.heap.objs.size + 1 → (∀ b o, b ≠ z → b ≠ TO → b ≠ i1 → b ≠ i2 → s.heap.get? b = some o → h'.get? b = some o) → Q (some (.ref s.heap.objs.size)) { s with heap := h' }) :
    wpAny (model prog w) A (pyNext (.ref z)) Q E s := by
  obtain ⟨hTI, h1, h2, hl1, hl2, hz⟩ := st
  have lt : ∀ {c o}, s.heap.get? c = some o → s.heap.objs.size ≠ c := fun e => Nat.ne_of_gt (Heap.lt_size e)
  have n1 : s.heap.objs.size ≠ i1 := let ⟨_, e, _⟩ := h1; lt e
  have n2 : s.heap.objs.size ≠ i2 := let ⟨_, e, _⟩ := h2; lt e
  rcases hz with ⟨hz, a, b, hTO⟩ | ⟨T, f, oT, hz, hT, r1, r2, r3, r4⟩
  · refine wpAny_pyNext_zip_item D hz hTI hTO h1 h2 hl1 hl2 ex ey fun h' a1 a2 a3 a4 a5 a6 hk => ?_
    exact hQ h' ⟨hk _ _ D.TIz D.TITO D.TIi1 D.TIi2 hTI, a3, a4, hl1.at fun o e => hk _ o D.l1z D.l1TO D.l1i1 D.l1i2 e, hl2.at fun o e => hk _ o D.l2z D.l2TO D.l2i1 D.l2i2 e,
      .inr ⟨s.heap.objs.size, false, _, a1, a5, lt hz, n1, n2, Nat.ne_of_gt hS⟩⟩ a5 a6 hk
  · refine wpAny_pyNext_zip_item_held D hz hT hTI h1 h2 hl1 hl2 ex ey fun h' a1 a3 a4 a5 a6 hk => ?_
    exact hQ h' ⟨hk _ _ D.TIz D.TIi1 D.TIi2 hTI, a3, a4, hl1.at fun o e => hk _ o D.l1z D.l1i1 D.l1i2 e, hl2.at fun o e => hk _ o D.l2z D.l2i1 D.l2i2 e,
      .inr ⟨T, true, oT, a1, hk _ _ r1 r2 r3 hT, r1, r2, r3, r4⟩⟩ a5 a6 fun b o c1 _ c3 c4 e => hk b o c1 c3 c4 e
theorem zp_done {i : Nat} {Q : Option Value → Shared → Prop} (hh : A.handled = none) (D : ZipApart z TI TO i1 i2 l1 l2)
    (st : ZpSt s.heap z TI TO i1 i2 l1 l2 S xs ys i) (hend : xs[i]? = none ∨ ys[i]? = none)
    (hQ : ∀ h', (∀ b o, b ≠ z → b ≠ TO → b ≠ i1 → b ≠ i2 → s.heap.get? b = some o → h'.get? b = some o) → Q none { s with heap := h' }) :
    wpAny (model prog w) A (pyNext (.ref z)) Q E s := by
  obtain ⟨hTI, h1, h2, hl1, hl2, hz⟩ := st
  rcases hz with ⟨hz, a, b, hTO⟩ | ⟨T, f, oT, hz, hT, r1, r2, r3, r4⟩
  · exact wpAny_pyNext_zip_end hh D hz hTI hTO h1 h2 hl1 hl2 hend fun h' hk => hQ h' hk
  · exact wpAny_pyNext_zip_end_held hh D hz hT hTI h1 h2 hl1 hl2 hend fun h' hk => hQ h' fun b o c1 _ c3 c4 e => hk b o c1 c3 c4 e
structure ZpG (xs ys : Array Value) (lo : Addr) (h : Heap) (as : List Addr) : Prop where
  rise : as.Pairwise (· < ·)
  above : ∀ a ∈ as, lo ≤ a
  pairs : ∀ (j : Nat) (a : Addr), as[j]? = some a → ∃ x y, xs[j]? = some x ∧ ys[j]? = some y ∧ IsPair h a x y
theorem ZpG.there {lo : Addr} {h : Heap} {as : List Addr} (g : ZpG xs ys lo h as) {a : Addr} (ha : a ∈ as) : a < h.objs.size := by
  obtain ⟨j, hj⟩ := List.mem_iff_getElem?.mp ha
  obtain ⟨_, _, _, _, e⟩ := g.pairs j a hj
  exact Heap.lt_size e
theorem zp_loop {R : Result → Shared → Prop} (hh : A.handled = none) (D : ZipApart z TI TO i1 i2 l1 l2) (hy : ys.size = xs.size) (hnz : xs.size ≤ sizeLine) {lo : Addr} (bS : S < lo) (bz : z < lo) (bO : TO < lo) (b1 : i1 < lo) (b2 : i2 < lo)
    (d : TI ≠ S ∧ i1 ≠ S ∧ i2 ≠ S ∧ l1 ≠ S ∧ l2 ≠ S ∧ z ≠ S ∧ TO ≠ S) (res : Value) {h₁ : Heap}
    (hR : ∀ h' acc c as, (∀ b o, b ≠ S → b ≠ z → b ≠ TO → b ≠ i1 → b ≠ i2 → h₁.get? b = some o → h'.get? b = some o) → h'.get? S = some { cls := .type "list", dict := none, data := .seq acc c, slots := #[] } → as.length = xs.size → ZpG xs ys lo h' as →
      acc.toList = as.map Value.ref → R (.ok (.ret res)) { s with heap := h' }) :
    ∀ (k i : Nat) (h : Heap) (c : Nat) (acc : Array Value) (as : List Addr), xs.size - i = k → i ≤ xs.size → ZpSt h z TI TO i1 i2 l1 l2 S xs ys i → (∀ b o, b ≠ S → b ≠ z → b ≠ TO → b ≠ i1 → b ≠ i2 → h₁.get? b = some o → h.get? b = some o) →
      h.get? S = some { cls := .type "list", dict := none, data := .seq acc c, slots := #[] } → acc.toList = as.map Value.ref → as.length = i → ZpG xs ys lo h as → lo ≤ h.objs.size →
      codeAny (model prog w) A (.builtin "list.extend.loop" ⟨[.ref S, .ref z, res], []⟩) R { s with heap := h } := by
  obtain ⟨e1, e2, e3, e4, e5, e6, e7⟩ := id d
  intro k
  induction k with
  | zero =>
    intro i h c acc as hk hi hst hkeep hS hacc hal hG hlo
    have hin : i = xs.size := by omega
    refine codeAny_builtin F.entry_extend_loop ?_
    rw [Around.under_plainId F.plain_extend_loop _]
    show wpAny _ A.in1 (pyNext (.ref z) >>= _) _ _ _
    refine wpAny_bind (zp_done (s := { s with heap := h }) (A := A.in1) hh D hst (.inl (Array.getElem?_eq_none (by omega))) fun h' he => ?_)
    refine wpAny_pure (hR h' acc c as (fun b o h1 h2 h3 h4 h5 e => he b o h2 h3 h4 h5 (hkeep b o h1 h2 h3 h4 h5 e)) (he S _ (Ne.symm e6) (Ne.symm e7) (Ne.symm e2) (Ne.symm e3) hS) (by omega) ⟨hG.rise, hG.above, fun j a hj => ?_⟩ hacc)
    obtain ⟨x, y, q1, q2, q3⟩ := hG.pairs j a hj
    have ha := hG.above a (List.mem_of_getElem? hj)
    exact ⟨x, y, q1, q2, he a _ (Nat.ne_of_gt (Nat.lt_of_lt_of_le bz ha)) (Nat.ne_of_gt (Nat.lt_of_lt_of_le bO ha)) (Nat.ne_of_gt (Nat.lt_of_lt_of_le b1 ha)) (Nat.ne_of_gt (Nat.lt_of_lt_of_le b2 ha)) q3⟩
  | succ k ih =>
    intro i h c acc as hk hi hst hkeep hS hacc hal hG hlo
    have hlt : i < xs.size := by omega
    have hsz : acc.size = i := by rw [← Array.length_toList, hacc, List.length_map, hal]
    have ex := Array.getElem?_eq_getElem hlt
    have ey := Array.getElem?_eq_getElem (xs := ys) (i := i) (by omega)
    refine codeAny_builtin F.entry_extend_loop ?_
    rw [Around.under_plainId F.plain_extend_loop _]
    show wpAny _ A.in1 (pyNext (.ref z) >>= _) _ _ _
    refine wpAny_bind (zp_item (s := { s with heap := h }) D hst (Heap.lt_size hS) ex ey fun h' hst' ht hz hkp => ?_)
    dsimp only at ht hz hkp ⊢
    have hS' := hkp S _ (Ne.symm e6) (Ne.symm e7) (Ne.symm e2) (Ne.symm e3) hS
    have up : ∀ b o, b ≠ S → h'.get? b = some o → (h'.update S (Obj.mapSeq (·.push (Value.ref h.objs.size)))).get? b = some o := fun b o hb e => (Heap.get?_update_other _ _ (Ne.symm hb)).trans e
    have hSl : S < h.objs.size := Heap.lt_size hS
    show wpAny _ A.in1 (updateSeq S (·.push (Value.ref h.objs.size)) >>= _) _ _ _
    refine wpAny_bind ?_
    refine wpAny_updateSeq hS' rfl (wpAny_pure ⟨plainId_quiet F.plain_extend_loop _, ih (i + 1) _ _ (acc.push (Value.ref h.objs.size)) (as ++ [h.objs.size]) (by omega) hlt (hst'.keep d up)
      (fun b o h1 h2 h3 h4 h5 e => up b o h1 (hkp b o h2 h3 h4 h5 (hkeep b o h1 h2 h3 h4 h5 e))) (Heap.get?_update_self _ hS' rfl) (by rw [Array.toList_push, hacc, List.map_append]; rfl) (by rw [List.length_append, hal]; rfl) ⟨?_, ?_, ?_⟩ ?_⟩) (by rw [hsz]; omega) (by show (acc.push (Value.ref h.objs.size)).size ≤ sizeLine + 1; rw [Array.size_push, hsz]; omega)
    · refine List.pairwise_append.mpr ⟨hG.rise, List.pairwise_singleton _ _, fun a ha b hb => ?_⟩
      rw [List.mem_singleton.mp hb]
      exact hG.there ha
    · intro a ha
      rcases List.mem_append.mp ha with ha | ha
      · exact hG.above a ha
      · rw [List.mem_singleton.mp ha]; exact hlo
    · intro j b hj
      rcases Nat.lt_trichotomy j as.length with h1 | h1 | h1
      · rw [List.getElem?_append_left h1] at hj
        obtain ⟨x, y, q1, q2, q3⟩ := hG.pairs j b hj
        have hb := hG.above b (List.mem_of_getElem? hj)
        exact ⟨x, y, q1, q2, up b _ (Nat.ne_of_gt (Nat.lt_of_lt_of_le bS hb)) (hkp b _ (Nat.ne_of_gt (Nat.lt_of_lt_of_le bz hb)) (Nat.ne_of_gt (Nat.lt_of_lt_of_le bO hb)) (Nat.ne_of_gt (Nat.lt_of_lt_of_le b1 hb)) (Nat.ne_of_gt (Nat.lt_of_lt_of_le b2 hb)) q3)⟩
      · subst h1
        have hb : h.objs.size = b := by simpa using hj
        subst hb
        exact ⟨_, _, by rw [hal]; exact ex, by rw [hal]; exact ey, up _ _ (Nat.ne_of_gt hSl) ht⟩
      · have hnone : (as ++ [h.objs.size])[j]? = none := List.getElem?_eq_none (by rw [List.length_append, List.length_singleton]; omega)
        rw [hnone] at hj; cases hj
    · have e : (h'.update S (Obj.mapSeq (·.push (Value.ref h.objs.size)))).get? h.objs.size = _ := up _ _ (Nat.ne_of_gt hSl) ht
      exact Nat.le_of_lt (Nat.lt_of_le_of_lt hlo (Heap.lt_size e))
theorem zip_no_len : typeLookup (.type "zip") "__len__" = pure none := by rw [typeLookup_type, builtinLookup_eq_fast]; kernel_rfl
theorem zip_no_hint : typeLookup (.type "zip") "__length_hint__" = pure none := by rw [typeLookup_type, builtinLookup_eq_fast]; kernel_rfl
theorem zp_collect {R : List Value → Shared → Prop} (hh : A.handled = none) (D : ZipApart z TI TO i1 i2 l1 l2) (st : ZpSt s.heap z TI TO i1 i2 l1 l2 s.heap.objs.size xs ys 0) (hz : IsZip s.heap z TI TO .none) (hTO : ∃ a b, IsPair s.heap TO a b) (hy : ys.size = xs.size) (hnz : xs.size ≤ sizeLine)
    (hR : ∀ h' as, (∀ b o, b ≠ z → b ≠ TO → b ≠ i1 → b ≠ i2 → s.heap.get? b = some o → h'.get? b = some o) → s.heap.objs.size < h'.objs.size → as.length = xs.size → ZpG xs ys s.heap.objs.size h' as → R (as.map Value.ref) { s with heap := h' }) :
    wpAny (model prog w) A (collect (.ref z)) R E s := by
  obtain ⟨hTI, h1, h2, hl1, hl2, hzz⟩ := id st
  obtain ⟨ta, tb, hTO⟩ := hTO
  have lt : ∀ {c o}, s.heap.get? c = some o → c ≠ s.heap.objs.size := fun e => Nat.ne_of_lt (Heap.lt_size e)
  have n1 : i1 ≠ s.heap.objs.size := let ⟨_, e, _⟩ := h1; lt e
  have n2 : i2 ≠ s.heap.objs.size := let ⟨_, e, _⟩ := h2; lt e
  have n3 : l1 ≠ s.heap.objs.size := let ⟨_, e, _⟩ := hl1; lt e
  have n4 : l2 ≠ s.heap.objs.size := let ⟨_, e, _⟩ := hl2; lt e
  have n5 := lt hz
  have n6 := lt hTO
  have n7 := lt hTI
  have d : TI ≠ s.heap.objs.size ∧ i1 ≠ s.heap.objs.size ∧ i2 ≠ s.heap.objs.size ∧ l1 ≠ s.heap.objs.size ∧ l2 ≠ s.heap.objs.size ∧ z ≠ s.heap.objs.size ∧ TO ≠ s.heap.objs.size := ⟨n7, n1, n2, n3, n4, n5, n6⟩
  unfold collect
  refine wpAny_bind (wpAny_runValue (codeAny_builtin F.entry_proto_collect ?_))
  rw [Around.under_plainId F.plain_proto_collect _]
  show wpAny _ A.in1 (newList [] >>= fun l' => again (.builtin "list.__iadd__" ⟨[l', .ref z], []⟩)) _ _ s
  refine wpAny_bind (wpAny_newObj_type ?_)
  refine wpAny_pure ⟨plainId_quiet F.plain_list_iadd _, codeAny_builtin F.entry_list_iadd ?_⟩
  rw [Around.under_plainId F.plain_list_iadd _]
  have hS₁ : (s.heap.push { cls := .type "list", data := .seq ([] : List Value).toArray }).get? s.heap.objs.size = some { cls := .type "list", data := .seq ([] : List Value).toArray } := Heap.get?_push_size _ rfl
  have hz1 : IsZip (s.heap.push { cls := .type "list", data := .seq ([] : List Value).toArray }) z TI TO .none := Heap.get?_push_of_some _ hz
  have hT : ({ s with heap := s.heap.push { cls := .type "list", data := .seq ([] : List Value).toArray } } : Shared).TypeIs (.ref z) "zip" := ⟨_, hz1, rfl⟩
  have h1' : Builtin.List.listSameRef (.ref s.heap.objs.size) (.ref z) = false := by simp [Builtin.List.listSameRef, Ne.symm n5]
  have h2' : (Value.type "zip" == Value.type "list") = false := by decide
  have h3' : (Value.type "zip" == Value.type "tuple") = false := by decide
  show wpAny _ A.in1 (Builtin.List.listExtendWith (.ref s.heap.objs.size) (.ref z) (.ref s.heap.objs.size)) _ _ _
  unfold Builtin.List.listExtendWith
  refine wpAny_bind (wpAny_typeOf hT ?_)
  simp only [h1', h2', h3', Bool.or_false, Bool.false_eq_true, if_false]
  refine wpAny_bind (wpAny_pyIter_zip (s := { s with heap := s.heap.push { cls := .type "list", data := .seq ([] : List Value).toArray } }) hz1 ?_)
  refine wpAny_bind (wpAny_holding ?_)
  unfold Builtin.List.listLengthHint
  refine wpAny_bind (wpAny_specialOf hT zip_no_len ?_)
  show wpAny _ A.in1 (specialOf (Value.ref z) (Str.ofString "__length_hint__") >>= _) _ _ _
  refine wpAny_bind (wpAny_specialOf hT zip_no_hint ?_)
  refine wpAny_pure ?_
  show wpAny _ A.in1 (rule "list.extend.makes-room" >>= fun _ => Builtin.List.listTouch (.ref s.heap.objs.size) >>= fun _ =>
    again (.builtin "list.extend.loop" ⟨[.ref s.heap.objs.size, .ref z, .ref s.heap.objs.size], []⟩)) _ _ _
  refine wpAny_bind (wpAny_rule ?_)
  refine wpAny_bind ?_
  show wpAny _ A.in1 (updateSeq s.heap.objs.size (·.push .none) >>= fun _ => updateSeq s.heap.objs.size (·.pop)) _ _ _
  refine wpAny_bind (wpAny_updateSeq hS₁ rfl ?_)
  have hS₂ := Heap.get?_update_self (Obj.mapSeq (·.push Value.none)) hS₁ rfl
  refine wpAny_updateSeq hS₂ rfl ?_
  have hS₃ := Heap.get?_update_self (Obj.mapSeq (·.pop)) hS₂ rfl
  have oth : ∀ b o, b ≠ s.heap.objs.size → s.heap.get? b = some o →
      (((s.heap.push { cls := .type "list", data := .seq ([] : List Value).toArray }).update s.heap.objs.size (Obj.mapSeq (·.push Value.none))).update s.heap.objs.size (Obj.mapSeq (·.pop))).get? b = some o :=
    fun b o hb e => (Heap.get?_update_other _ _ (Ne.symm hb)).trans ((Heap.get?_update_other _ _ (Ne.symm hb)).trans (Heap.get?_push_of_some _ e))
  refine wpAny_pure ⟨plainId_quiet F.plain_extend_loop _, ?_⟩
  refine zp_loop (s := s) (h₁ := s.heap) (lo := s.heap.objs.size + 1) hh D hy hnz (Nat.lt_succ_self _) (Nat.lt_succ_of_lt (Heap.lt_size hz)) (Nat.lt_succ_of_lt (Heap.lt_size hTO)) (Nat.lt_succ_of_lt (let ⟨_, e, _⟩ := h1; Heap.lt_size e)) (Nat.lt_succ_of_lt (let ⟨_, e, _⟩ := h2; Heap.lt_size e))
    d (.ref s.heap.objs.size) (fun h' acc c as hk hS' hl hG hacc => ?_) xs.size 0 _ _ #[] [] (Nat.sub_zero _) (Nat.zero_le _) (st.keep d oth) (fun b o hb _ _ _ _ e => oth b o hb e) hS₃ rfl rfl ⟨List.Pairwise.nil, (fun _ ha => nomatch ha), (fun j a hj => by simp at hj)⟩ (Heap.lt_size hS₃)
  show wpAny _ A (load s.heap.objs.size >>= _) _ _ _
  refine wpAny_bind (wpAny_load hS' ?_)
  refine wpAny_pure ?_
  show R acc.toList _
  rw [hacc]
  exact hR h' as (fun b o c1 c2 c3 c4 e => hk b o (lt e) c1 c2 c3 c4 e) (Heap.lt_size hS') hl ⟨hG.rise, fun a ha => Nat.le_of_lt (hG.above a ha), hG.pairs⟩
theorem call_tuple_zip {Q : Value → Shared → Prop} (hh : A.handled = none) (D : ZipApart z TI TO i1 i2 l1 l2) (st : ZpSt s.heap z TI TO i1 i2 l1 l2 s.heap.objs.size xs ys 0) (hz : IsZip s.heap z TI TO .none) (hTO : ∃ a b, IsPair s.heap TO a b) (hy : ys.size = xs.size) (hnz : xs.size ≤ sizeLine)
    (hR : ∀ h' as, (∀ b o, b ≠ z → b ≠ TO → b ≠ i1 → b ≠ i2 → s.heap.get? b = some o → h'.get? b = some o) → s.heap.objs.size < h'.objs.size → as.length = xs.size → ZpG xs ys s.heap.objs.size h' as → Q (.ref h'.objs.size) { s with heap := h'.push { cls := .type "tuple", data := .seq (as.map Value.ref).toArray } }) :
    wpAny (model prog w) A (call (.type "tuple") [.ref z]) Q E s := by
  refine callType_codes (Q₁ := fun obj s₁ => s₁.TypeIs obj "tuple" ∧ Q obj s₁) F.called_tuple (F.typeCall_tuple_1 _) F.entry_object_init ?_ fun obj s₁ h₁ => ?_
  · refine codeAny_of_tree ?_
    show wpAny _ A.in1.in1 (do checkBuiltinCall "tuple.__new__" ⟨[.type "tuple", .ref z], []⟩; again (.builtin "tuple.__new__" ⟨[.type "tuple", .ref z], []⟩)) _ _ s
    refine wpAny_bind (wpAny_of_eq (F.newCall_tuple_1 _) (wpAny_pure ⟨plainId_quiet F.plain_tuple_new _, codeAny_builtin F.entry_tuple_new ?_⟩))
    rw [Around.under_plainId F.plain_tuple_new _]
    have hsub := sub_tuple_self
    have hinit := init_tuple_lookup
    have hmh := madeHere_tuple
    have hTI : s.TypeIs (.ref z) "zip" := ⟨_, hz, rfl⟩
    have hh1 : A.in1.in1.handled = none := hh
    wp_walk using wpAny_typeOf hTI, zp_collect (A := A.in1.in1) hh1 D st hz hTO hy hnz
    intro h' as hk hbig hl hG
    show wpAny _ _ (Builtin.Tuple.tupleExact (as.map Value.ref).toArray >>= fun v => ret v) _ _ _
    unfold Builtin.Tuple.tupleExact
    refine wpAny_bind (wpAny_newObj_type ?_ (by show (as.map Value.ref).toArray.size ≤ sizeLine; rw [List.size_toArray, List.length_map, hl]; exact hnz))
    refine wpAny_pure ?_
    exact ⟨⟨_, Heap.get?_push_size _ rfl, rfl⟩, hR h' as hk hbig hl hG⟩
  · exact ⟨h₁.1, F.args_object_init_2 obj _, object_init_meets F.called_tuple.init.lookup F.called_tuple.made (by decide) prog w A.in1 _ s₁ ⟨h₁.1, rfl, h₁.2⟩⟩
end
/-- the tuples tracked at their addresses -/
def putV : Hp → List Addr → List (V × V) → Hp
  | H, a :: as, p :: kvs => putV (upd H a (.tup [p.1, p.2])) as kvs
  | H, _, _ => H
theorem putV_off {b : Addr} : ∀ (as : List Addr) (kvs : List (V × V)) (H : Hp), b ∉ as → putV H as kvs b = H b
  | [], _, _, _ => rfl
  | _ :: _, [], _, _ => rfl
  | a :: as, p :: kvs, H, h => by
    show putV (upd H a (.tup [p.1, p.2])) as kvs b = H b
    rw [putV_off as kvs _ (fun z => h (List.mem_cons_of_mem _ z)), upd_ne (fun z => h (by rw [z]; exact List.mem_cons_self))]
theorem putV_at : ∀ (as : List Addr) (kvs : List (V × V)) (H : Hp), as.length = kvs.length → as.Nodup → Paired (fun (t : Addr) (p : V × V) => putV H as kvs t = some (.tup [p.1, p.2])) as kvs
  | [], [], _, _, _ => .nil
  | [], _ :: _, _, h, _ => by cases h
  | _ :: _, [], _, h, _ => by cases h
  | a :: as, p :: kvs, H, h, hn => by
    have hn' := List.nodup_cons.mp hn
    have ih := putV_at as kvs (upd H a (.tup [p.1, p.2])) (Nat.succ.inj h) hn'.2
    refine .cons ?_ ih
    show putV (upd H a (.tup [p.1, p.2])) as kvs a = some (.tup [p.1, p.2])
    rw [putV_off as kvs _ hn'.1, upd_same]
theorem vals_at {xs : List V} {us : List Value} (h : Vals xs us) : ∀ {i : Nat} {u : Value}, us[i]? = some u → ∃ x, xs[i]? = some x ∧ RelV x u := by
  induction h with
  | nil => intro i u e; simp at e
  | cons r t ih =>
    intro i u e
    cases i with
    | zero => cases e; exact ⟨_, rfl, r⟩
    | succ i => exact ih e
section
variable {X : Cx} {p p2 apos cpos pos pos2 : Pos}
theorem pairs_laid {pins : List (Addr × Obj)} {σ : L2.St} {H : Hp} {s : Shared} {h' : Heap} {tk : Nat} {xs ys : List V} {us vs : List Value} {as : List Addr} {lo : Addr} (I : Inv X pins σ H s) (rx : Vals xs us) (ry : Vals ys vs) (hxy : ys.length = xs.length) (hz : xs.length ≤ sizeLine)
    (hk : ∀ b o, s.heap.get? b = some o → h'.get? b = some o) (hlo : s.heap.objs.size ≤ lo) (hsz : s.heap.objs.size ≤ h'.objs.size) (hl : as.length = us.length) (hG : ZpG us.toArray vs.toArray lo h' as) :
    ∃ H' : Hp, Same H H' ∧ H h'.objs.size = none ∧ H' h'.objs.size = some (.tup (as.map V.ref)) ∧ Paired (fun (t : Addr) (q : V × V) => H' t = some (.tup [q.1, q.2])) as (xs.zip ys) ∧ Inv X pins σ H' { s with heap := h'.push { cls := .type "tuple", data := .seq (as.map Value.ref).toArray }, toks := tk } := by
  have lx := rx.length
  have ly := ry.length
  have hPn : h'.objs.size ∉ as := fun z => Nat.lt_irrefl _ (hG.there z)
  have nd : as.Nodup := List.Pairwise.imp (fun {a b} (h : a < b) => Nat.ne_of_lt h) hG.rise
  have new : ∀ t ∈ as, H t = none := fun t ht => I.hok.fresh (Nat.le_trans hlo (hG.above t ht))
  have newS : H h'.objs.size = none := I.hok.fresh hsz
  have atP := putV_at as (xs.zip ys) (upd H h'.objs.size (.tup (as.map V.ref))) (by rw [List.length_zip]; omega) nd
  have off : ∀ b, b ∉ as → b ≠ h'.objs.size → putV (upd H h'.objs.size (.tup (as.map V.ref))) as (xs.zip ys) b = H b := fun b h1 h2 => by rw [putV_off as _ _ h1, upd_ne h2]
  have low : ∀ b o, s.heap.get? b = some o → b ∉ as ∧ b ≠ h'.objs.size := fun b o e => ⟨fun z => absurd (Heap.lt_size e) (Nat.not_lt.mpr (Nat.le_trans hlo (hG.above b z))), fun z => absurd (Heap.lt_size e) (by rw [z]; exact Nat.not_lt.mpr hsz)⟩
  have kp : ∀ b u, H b = some u → (putV (upd H h'.objs.size (.tup (as.map V.ref))) as (xs.zip ys)) b = some u := fun b u e => by
    rw [off b (fun z => by rw [new b z] at e; cases e) (fun z => by rw [z, newS] at e; cases e)]
    exact e
  have eS : putV (upd H h'.objs.size (.tup (as.map V.ref))) as (xs.zip ys) h'.objs.size = some (.tup (as.map V.ref)) := by rw [putV_off as _ _ hPn, upd_same]
  have hk2 : ∀ b o, s.heap.get? b = some o → (h'.push { cls := .type "tuple", data := .seq (as.map Value.ref).toArray }).get? b = some o := fun b o e => Heap.get?_push_of_some _ (hk b o e)
  refine ⟨putV (upd H h'.objs.size (.tup (as.map V.ref))) as (xs.zip ys), kp, newS, eS, atP, ?_⟩
  refine I.call' (ch := []) rfl ⟨fun b o q _ _ _ => hk2 b o q, fun b o q _ _ _ => ⟨o.slots, hk2 b o q⟩, fun b o q n _ => ?_, fun b o q _ => ⟨o, hk2 b o q⟩, fun b xs q => kp b _ q, fun b o u q => kp b _ q, fun b ps q => ⟨#[], by rw [kp b _ q]; simp⟩⟩ (fun b u q => ?_) I.bare fun b z => by simp at z
  · obtain ⟨z1, z2⟩ := low b o q
    rw [off b z1 z2]
    exact n
  · by_cases hb : b ∈ as
    · obtain ⟨j, pk, e1, e2, e3⟩ := LiI.paired_ix atP hb
      rw [e3] at q
      cases q
      obtain ⟨u, v, f1, f2, f3⟩ := hG.pairs j b e1
      obtain ⟨x, g1, g2⟩ := vals_at rx (by simpa using f1)
      obtain ⟨y, g3, g4⟩ := vals_at ry (by simpa using f2)
      have e4 : pk = (x, y) := by
        rw [List.zip_eq_zipWith, List.getElem?_zipWith, g1, g3] at e2
        exact (Option.some.inj e2).symm
      subst e4
      exact ⟨by show 2 ≤ sizeLine; decide, [u, v], .cons g2 (.cons g4 .nil), ⟨_, Heap.get?_push_of_some _ f3, rfl, _, rfl⟩⟩
    · by_cases hb2 : b = h'.objs.size
      · subst hb2
        rw [eS] at q
        cases q
        refine ⟨by rw [List.length_map]; omega, as.map Value.ref, LiI.vals_refs as, ?_⟩
        exact IsTup.new _ _
      · rw [off b hb hb2] at q
        exact (I.hok b u q).stay (fun d v _ y => hk2 d v y) (fun d y => kp d _ y) fun d xs y => kp d _ y
/-- tuple(zip(xs, ys)) -/
def tTupZip (K : PySem.W.Frag) (ta : TA) : TE := fun σ H Q => ta σ H fun vs H1 => ∃ (a b : Addr) (xs ys : List V), vs = [.ref a, .ref b] ∧ SqL K H1 a xs ∧ SqL K H1 b ys ∧ ys.length = xs.length ∧
  ∀ (H' : Hp) (p : Addr) (ts : List Addr), Same H1 H' → H1 p = none → H' p = some (.tup (ts.map V.ref)) → Paired (fun (t : Addr) (q : V × V) => H' t = some (.tup [q.1, q.2])) ts (xs.zip ys) → Q (.ref p) H'
theorem tupZipK {K : PySem.W.Frag} {e : Expr} {ta : TA} (h : PE X e (tTupZip X.K ta)) (hK : X.K = K := by rfl) : PE X e (tTupZip K ta) := by subst hK; exact h
theorem pe_tupZip {e e2 : Expr} {ta : TA} (hc : X.calm = true) (ha : PA X [e, e2] ta) (hg : Gl X "tuple") (hm : X.mg "tuple" = none) (hg2 : Gl X "zip") (hm2 : X.mg "zip" = none)
    (hs : starEach [e, e2] X.env = (false, eval e X.env) :: starEach [e2] X.env := by rfl) (hpl : (backTo pos2 (starEach [e2] X.env)).any (·.1) = false := by rfl)
    (hs2 : starEach [.Call (.Name "zip" p2) [e, e2] [] pos2] X.env = (false, eval (.Call (.Name "zip" p2) [e, e2] [] pos2) X.env) :: starEach [] X.env := by rfl) :
    PE X (.Call (.Name "tuple" p) [.Call (.Name "zip" p2) [e, e2] [] pos2] [] pos) (tTupZip X.K ta) := by
  refine ⟨fun pins s σ H Q I h => ?_⟩
  refine Call_ (ld_blt I hg hm boot_tuple (PyProof.Rows.callWith_type1 (args_cons (Call_ (ld_blt I hg2 hm2 PyProof.Rows.boot_zip (PyProof.Rows.callWith_type1 (thn (ha.run pos2 pins s σ H _ I h) fun us s1 ⟨vs, H1, I1, r1, q1⟩ => ?_) hs hpl))) hs2) hs2 rfl))
  obtain ⟨a, b, xs, ys, ex, hqx, hqy, hxy, q⟩ := q1
  subst ex
  cases r1 with
  | cons r rr =>
    cases rr with
    | cons r' rr =>
      cases rr
      cases r
      cases r'
      obtain ⟨its, rv, p1, hz⟩ := I1.list hqx
      obtain ⟨its2, rv2, p2, _⟩ := I1.list hqy
      have la : a < s1.heap.objs.size := p1.lt
      have lb : b < s1.heap.objs.size := p2.lt
      have lx := rv.length
      have ly := rv2.length
      refine call_zip_2 p1.isList p2.isList fun h' hz' hTI hTO h1 h2 hsz hk => args_nil ?_
      have lt : ∀ k, k < 5 → s1.heap.objs.size + k ≠ h'.objs.size := fun k hk => by omega
      have D := PySem.W.ktu_apart s1.heap.objs.size a b la lb
      refine call_tuple_zip (s := { s1 with heap := h' }) (I1.ok.hd hc) D ⟨hTI, h1, h2, p1.isList.at fun o e => hk _ o e, p2.isList.at fun o e => hk _ o e, .inl ⟨hz', _, _, hTO⟩⟩ hz' ⟨_, _, hTO⟩ (by rw [List.size_toArray, List.size_toArray]; omega) (by rw [List.size_toArray]; omega) fun h2' as hk2 hbig hl hG => ?_
      have nz : ∀ b o, s1.heap.get? b = some o → h2'.get? b = some o := fun b o e => by
        have hb := Heap.lt_size e
        exact hk2 b o (Nat.ne_of_lt (Nat.lt_of_lt_of_le hb (Nat.le_add_right _ _))) (Nat.ne_of_lt (Nat.lt_of_lt_of_le hb (Nat.le_add_right _ _))) (Nat.ne_of_lt hb) (Nat.ne_of_lt (Nat.lt_of_lt_of_le hb (Nat.le_add_right _ _))) (hk b o e)
      obtain ⟨H', k1, k2, k3, k4, J⟩ := pairs_laid (tk := s1.toks) I1 rv rv2 hxy hz nz (lo := h'.objs.size) (by omega) (by have : h'.objs.size < h2'.objs.size := hbig; omega) (by rw [hl, List.size_toArray]) hG
      exact ⟨.ref _, H', J, rfl, q H' _ as k1 k2 k3 k4⟩
end

/-! ### xs[0::2], xs[1::2] -/
def evens {α : Type} : List α → List α
  | [] => []
  | [x] => [x]
  | x :: _ :: r => x :: evens r
theorem evens_len {α : Type} : ∀ l : List α, (evens l).length ≤ l.length
  | [] => Nat.le_refl _
  | [_] => Nat.le_refl _
  | _ :: _ :: r => by
    have := evens_len r
    show (evens r).length + 1 ≤ r.length + 2
    omega
theorem fm_congr {α β : Type} {f g : α → Option β} : ∀ {l : List α}, (∀ x ∈ l, f x = g x) → l.filterMap f = l.filterMap g
  | [], _ => rfl
  | x :: l, h => by rw [List.filterMap_cons, List.filterMap_cons, h x List.mem_cons_self, fm_congr fun y hy => h y (List.mem_cons_of_mem _ hy)]
theorem evens_range {α : Type} : ∀ L : List α, ((List.range ((L.length + 1) / 2)).map (fun k => 2 * k)).filterMap (L[·]?) = evens L
  | [] => by simp [evens]
  | [x] => by simp [evens]
  | x :: y :: r => by
    have ih := evens_range r
    have e : ((x :: y :: r).length + 1) / 2 = (r.length + 1) / 2 + 1 := by
      show (r.length + 1 + 1 + 1) / 2 = _
      omega
    rw [e, List.range_succ_eq_map, List.map_cons, List.filterMap_cons]
    show x :: _ = x :: evens r
    congr 1
    rw [← ih, List.map_map, List.filterMap_map, List.filterMap_map]
    refine fm_congr ?_
    intro k _
    show (x :: y :: r)[2 * (k + 1)]? = r[2 * k]?
    rw [show 2 * (k + 1) = 2 * k + 1 + 1 by omega]
    rfl
theorem slicePick_two (items : Array Value) (a : Nat) : slicePick items (some (a : Int)) none (some 2) = (evens (items.toList.drop a)).toArray := by
  have eb : sliceBounds (some (a : Int)) none (some 2) items.size = (((min a items.size : Nat) : Int), (items.size : Int), 2) := by
    unfold sliceBounds
    have h1 : ¬ ((a : Int) < 0) := by omega
    simp only [Option.getD_some, h1, if_false, show (2 : Int) > 0 by decide, if_true]
    have : max (0 : Int) (min (a : Int) (items.size : Int)) = ((min a items.size : Nat) : Int) := by omega
    rw [this]
  unfold slicePick
  rw [eb]
  show ((sliceRange ((min a items.size : Nat) : Int) (items.size : Int) 2).filterMap (items[·]?)).toArray = _
  congr 1
  have er : sliceRange ((min a items.size : Nat) : Int) (items.size : Int) 2 = ((List.range (((items.toList.drop a).length + 1) / 2)).map (fun k => 2 * k)).map (a + ·) := by
    unfold sliceRange
    rw [List.length_drop, Array.length_toList, List.map_map]
    by_cases h : a < items.size
    · have hm : min a items.size = a := by omega
      rw [hm]
      have h2 : (a : Int) < (items.size : Int) := by omega
      have e : (((items.size : Int) - (a : Int) + 2 - 1) / 2) = (((items.size - a + 1) / 2 : Nat) : Int) := by omega
      simp only [show (2 : Int) > 0 by decide, if_true, h2, e, Int.toNat_natCast]
      apply List.map_congr_left
      intro k _
      show ((a : Int) + 2 * (k : Int)).toNat = a + 2 * k
      omega
    · have hm : min a items.size = items.size := by omega
      rw [hm]
      have h0 : (items.size - a + 1) / 2 = 0 := by omega
      rw [h0]
      simp
  rw [er, List.filterMap_map]
  rw [← evens_range (items.toList.drop a)]
  refine fm_congr ?_
  intro k _
  show items[a + k]? = (items.toList.drop a)[k]?
  rw [List.getElem?_drop, Array.getElem?_toList]
theorem vals_drop {xs : List V} {us : List Value} (h : Vals xs us) : ∀ a : Nat, Vals (xs.drop a) (us.drop a) := by
  induction h with
  | nil => intro a; rw [List.drop_nil, List.drop_nil]; exact .nil
  | cons r t ih =>
    intro a
    cases a with
    | zero => exact .cons r t
    | succ a => exact ih a
theorem vals_evens : ∀ {xs : List V} {us : List Value}, Vals xs us → Vals (evens xs) (evens us)
  | _, _, .nil => .nil
  | _, _, .cons r .nil => .cons r .nil
  | _, _, .cons r (.cons _ t) => .cons r (vals_evens t)
def tStep2 (K : PySem.W.Frag) (a : Nat) (te : TE) : TE := fun σ H Q => te σ H fun x H1 => ∃ l xs, x = .ref l ∧ SqL K H1 l xs ∧ ∀ p, H1 p = none → Q (.ref p) (upd H1 p (.lst (evens (xs.drop a))))
theorem step2K {X : Cx} {K : PySem.W.Frag} {e : Expr} {a : Nat} {te : TE} (h : PE X e (tStep2 X.K a te)) (hK : X.K = K := by rfl) : PE X e (tStep2 K a te) := by subst hK; exact h
theorem pe_step2 {X : Cx} {e : Expr} {te : TE} (a : Nat) {j : Int} {k0 k : Nat} {p0 p1 p3 pos : Pos} (he : PE X e te) (hj : j = (a : Int) := by rfl) : PE X (.Subscript e (.Slice (some (.Constant (.int j) k0 p0)) none (some (.Constant (.int 2) k p1)) p3) pos) (tStep2 X.K a te) := by
  subst hj
  refine ⟨fun pins s σ H Q I h => ?_⟩
  refine Subscript_ (thn (he.run pins s σ H _ I h) fun v s1 ⟨x, H1, I1, r1, q1⟩ => ?_)
  obtain ⟨l, xs, ex, hx, q⟩ := q1
  subst ex
  cases r1
  have hlo : PO X (some (.Constant (.int (a : Int)) k0 p0)) (tPart (tC (.int (a : Int)))) := po_some pe_int
  have hst : PO X (some (.Constant (.int 2) k p1)) (tPart (tC (.int 2))) := po_some pe_int
  refine wpAny_Slice (thn (hlo.run pins s1 σ H1 (fun o H2 => o = some (a : Int) ∧ H2 = H1) I1 ⟨_, rfl, rfl, rfl⟩) fun vl s2 ⟨o1, H2, I2, pl, el, e2⟩ => ?_)
  subst el e2
  refine thn (po_none.run pins s2 σ H2 (fun o H3 => o = none ∧ H3 = H2) I2 ⟨rfl, rfl⟩) fun vu s3 ⟨u, H3, I3, pu, eu, e3⟩ => ?_
  subst eu e3
  refine thn (hst.run pins s3 σ H3 (fun o H4 => o = some 2 ∧ H4 = H3) I3 ⟨_, rfl, rfl, rfl⟩) fun vs s4 ⟨o, H4, I4, ps, eo, e4⟩ => ?_
  subst eo e4
  have I5 : Inv X pins σ H4 { s4 with heap := s4.heap.push { cls := .type "slice", data := .fields #[vl, vu, vs] } } := I4.kept (t' := s4.toks) fun b ob q => Heap.get?_push_of_some _ q
  obtain ⟨its, r, ht, hz⟩ := I5.list hx
  have hlen := r.length
  show wpAny (model X.prog X.w) X.A (subscriptTail e (.Slice (some (.Constant (.int (a : Int)) k0 p0)) none (some (.Constant (.int 2) k p1)) p3) (.ref l) (.ref s4.heap.objs.size)) (EP X pins σ Q) X.xe { s4 with heap := s4.heap.push { cls := .type "slice", data := .fields #[vl, vu, vs] } }
  refine tail_any (ops := [.ref l, .ref s4.heap.objs.size]) ht.isList.typeIs (PySem.slot_list_getitem.lookup) ?_ (by with_unfolding_all rfl)
  refine wpAny_getItem_list_slice ht.isList (Heap.IsSliceOf.new _ vl vu vs) pl pu ps (by decide) ?_ (by rw [List.size_toArray]; omega)
  rw [slicePick_two]
  refine ⟨.ref _, _, I5.laid (t' := s4.toks) (o := .lst (evens (xs.drop a))) (fun b ob q => Heap.get?_push_of_some _ q) (Nat.le_refl _) ?_, rfl, q _ (I5.hok.fresh (Nat.le_refl _))⟩
  refine ⟨Nat.le_trans (evens_len _) (Nat.le_trans (by rw [List.length_drop]; exact Nat.sub_le _ _) hz), _, 0, vals_evens (vals_drop r a), Heap.get?_push_size _ rfl⟩

end
section
open PySem PySem.Spec PyProof.Rows L2
variable {P : Program} {w : World} {K : PySem.W.Frag} {mg : Str → Option Value} {base : Heap}
/-! ### comprehensions that tell their values; rules for lists and tuples alike -/
theorem take_sn {α : Type} {l : List α} {i : Nat} {x : α} (h : l[i]? = some x) : l.take (i + 1) = l.take i ++ [x] := by
  rw [List.take_add_one, h]
  rfl
theorem lc_vals {J : It} {n : Nat} {G : Hp → Prop} {Y : Nat → Hp → V → Hp → Prop} (w : Walk J n G Y) {g : TG} {tt : TT} {te : TE} {vs : List Nat} {σ : L2.St} {H1 : Hp} {D : Addr} {Qd : Hp → Prop} (ys : List V) (hyn : ys.length = n) (hn : n ≤ 20000) (hD : H1 D = none) (hG : ∀ H', Same H1 H' → G H')
    (elem : ∀ i x y H' H2 (R : VK) (Z : Hp → Prop), ys[i]? = some y → Same H1 H' → Y i H' x H2 → (∀ H'', Same H' H'' → R y H'') → g x (wipe σ vs) H2 fun σ2 H2 => wipe σ2 vs = wipe σ vs ∧ tt σ2 H2 fun b H3 => if b = true then te σ2 H3 R else Z H3)
    (hd : ∀ H', Same H1 H' → H' D = some (.lst ys) → Qd H') :
    ∃ W : Nat → Nat → Hp → Prop, (∃ m, W 0 m (upd H1 D (.lst []))) ∧ ∀ i m H, W i m H →
      (J.stop i H ∧ Qd H) ∨ (J.go i H ∧ ∃ Nx : Hp → Prop, (∀ H', Nx H' → ∃ m', m' < m ∧ W (i + 1) m' H') ∧ ∀ x H', J.yld i H x H' → g x (wipe σ vs) H' fun σ2 H2 => wipe σ2 vs = wipe σ vs ∧ tt σ2 H2 fun b H3 =>
        if b = true then te σ2 H3 fun y H4 => ∃ acc, H4 D = some (.lst acc) ∧ acc.length < sizeLine ∧ Nx (upd H4 D (.lst (acc ++ [y]))) else Nx H3) := by
  refine lc_it w (fun i H' => Same H1 H' ∧ H' D = some (.lst (ys.take i))) ⟨nws hD (Same.refl H1), upd_same⟩ (fun i H' _ h => hG H' h.1) ?_ (fun H' h => hd H' h.1 (by rw [h.2, ← hyn, List.take_length]))
  rintro i x H' H2 hi ⟨s, e⟩ hY
  have ey : ys[i]? = some ys[i] := List.getElem?_eq_getElem (by omega)
  refine elem i x ys[i] H' H2 _ _ ey s hY fun H'' s2 => ⟨_, s2 _ _ e, ?_, same_mut (s.trans s2) hD, ?_⟩
  · rw [List.length_take]
    exact Nat.lt_of_le_of_lt (Nat.min_le_left _ _) (small100k (by omega))
  · rw [upd_same, take_sn ey]
/-- the same over slices of any kind, over zip of any kind -/
def rSlE (K : PySem.W.Frag) : V → Option Int → Option Int → Hp → VK → Prop := fun x lo hi H Q => rSlL K x lo hi H Q ∨ rSlA K x lo hi H Q
theorem sl_anyK {X : Cx} {K : PySem.W.Frag} (hK : X.K = K := by rfl) : SlR X (rSlE K) := by subst hK; exact SlR.or sl_list sl_tupA
theorem izipAK {X : Cx} {K : PySem.W.Frag} {tg l : Expr} {tl : TA} (h : PI X tg l (RZ.iZipA X.K tl)) (hK : X.K = K := by rfl) : PI X tg l (RZ.iZipA K tl) := by subst hK; exact h
def rLtE (K : PySem.W.Frag) : R2 := fun x y H Q => (rI0 fun i j => .bl (decide (i < j))) x y H Q ∨ rLtT K x y H Q
theorem op_ltEK {X : Cx} {K : PySem.W.Frag} (hu : X.A.units < cLine) (hK : X.K = K := by rfl) : OpR X (compareOp .Lt) (rLtE K) := by subst hK; exact op_lt.or (op_ltT hu)
theorem op_ltTK {X : Cx} {K : PySem.W.Frag} (hu : X.A.units < cLine) (hK : X.K = K := by rfl) : OpR X (compareOp .Lt) (rLtT K) := by subst hK; exact op_ltT hu
/-- str of an int or of None -/
theorem call_str_opt {X : Cx} : CallR X (.type "str") (fun xs H Q => (∃ i, xs = [.int i] ∧ i.natAbs.log2 < 1920 ∧ Q (.str (toString i)) H) ∨ (xs = [.non] ∧ Q (.str "None") H)) := by
  intro pins s σ H xs us Q I r h
  rcases h with h | ⟨rfl, q⟩
  · exact call_str_int pins s σ H xs us Q I r h
  · obtain ⟨u, rfl, t⟩ := vals1 r
    obtain rfl : u = Value.none := t
    exact PySem.P.str_of_none ⟨.str _, H, I.tok _, ⟨_, rfl⟩, q⟩
/-- two clauses: the outer walk -/
theorem lc2_it {J : It} {n : Nat} {G : Hp → Prop} {Y : Nat → Hp → V → Hp → Prop} (w : Walk J n G Y) {g g1 : TG} {tt tt1 : TT} {te : TE} {wi1 : TI} {vs vs1 : List Nat} {σ : L2.St} {H1 : Hp} {D : Addr} {Qd : Hp → Prop} (Pv : Nat → Hp → Prop) (h0 : Pv 0 (upd H1 D (.lst []))) (hG : ∀ i H, i ≤ n → Pv i H → G H)
    (hs : ∀ i x H H', i < n → Pv i H → Y i H x H' → g x (wipe σ vs) H' fun σ2 H2 => wipe σ2 vs = wipe σ vs ∧ tt σ2 H2 fun b H3 =>
      if b = true then wi1 σ2 H3 fun J1 H4 => ∃ W1 : Nat → Nat → Hp → Prop, (∃ m, W1 0 m H4) ∧ ∀ j k H, W1 j k H →
        (J1.stop j H ∧ Pv (i + 1) H) ∨ (J1.go j H ∧ ∃ Nx1 : Hp → Prop, (∀ H', Nx1 H' → ∃ k', k' < k ∧ W1 (j + 1) k' H') ∧ ∀ x H', J1.yld j H x H' → g1 x (wipe σ2 vs1) H' fun σ3 H5 => wipe σ3 vs1 = wipe σ2 vs1 ∧ tt1 σ3 H5 fun b H6 =>
          if b = true then te σ3 H6 fun y H7 => ∃ acc, H7 D = some (.lst acc) ∧ acc.length < sizeLine ∧ Nx1 (upd H7 D (.lst (acc ++ [y]))) else Nx1 H6)
      else Pv (i + 1) H3) (hd : ∀ H, Pv n H → Qd H) :
    ∃ W : Nat → Nat → Hp → Prop, (∃ m, W 0 m (upd H1 D (.lst []))) ∧ ∀ i m H, W i m H →
      (J.stop i H ∧ Qd H) ∨ (J.go i H ∧ ∃ Nx : Hp → Prop, (∀ H', Nx H' → ∃ m', m' < m ∧ W (i + 1) m' H') ∧ ∀ x H', J.yld i H x H' → g x (wipe σ vs) H' fun σ2 H2 => wipe σ2 vs = wipe σ vs ∧ tt σ2 H2 fun b H3 =>
        if b = true then wi1 σ2 H3 fun J1 H4 => ∃ W1 : Nat → Nat → Hp → Prop, (∃ m, W1 0 m H4) ∧ ∀ j k H, W1 j k H →
          (J1.stop j H ∧ Nx H) ∨ (J1.go j H ∧ ∃ Nx1 : Hp → Prop, (∀ H', Nx1 H' → ∃ k', k' < k ∧ W1 (j + 1) k' H') ∧ ∀ x H', J1.yld j H x H' → g1 x (wipe σ2 vs1) H' fun σ3 H5 => wipe σ3 vs1 = wipe σ2 vs1 ∧ tt1 σ3 H5 fun b H6 =>
            if b = true then te σ3 H6 fun y H7 => ∃ acc, H7 D = some (.lst acc) ∧ acc.length < sizeLine ∧ Nx1 (upd H7 D (.lst (acc ++ [y]))) else Nx1 H6)
        else Nx H3) := by
  refine ⟨fun i m H => m = n - i ∧ i ≤ n ∧ Pv i H, ⟨n, by simp, Nat.zero_le _, h0⟩, ?_⟩
  rintro i m H ⟨rfl, hi, p⟩
  have q := hG i H hi p
  by_cases hlt : i < n
  · refine .inr ⟨w.goes i H hlt q, Pv (i + 1), fun H' p' => ⟨n - (i + 1), by omega, rfl, hlt, p'⟩, fun x H' y => hs i x H H' hlt p (w.yields i H x H' hlt q y)⟩
  · have e : i = n := by omega
    subst e
    exact .inl ⟨w.stops H q, hd H p⟩
/-- the inner walk -/
theorem lc_in {J : It} {n : Nat} {G : Hp → Prop} {Y : Nat → Hp → V → Hp → Prop} (w : Walk J n G Y) {g : TG} {tt : TT} {te : TE} {vs : List Nat} {σ : L2.St} {H4 : Hp} {D : Addr} {Qd : Hp → Prop} (Pv : Nat → Hp → Prop) (h0 : Pv 0 H4) (hG : ∀ i H, i ≤ n → Pv i H → G H)
    (hs : ∀ i x H H', i < n → Pv i H → Y i H x H' → g x (wipe σ vs) H' fun σ2 H2 => wipe σ2 vs = wipe σ vs ∧ tt σ2 H2 fun b H3 =>
      if b = true then te σ2 H3 fun y H4 => ∃ acc, H4 D = some (.lst acc) ∧ acc.length < sizeLine ∧ Pv (i + 1) (upd H4 D (.lst (acc ++ [y]))) else Pv (i + 1) H3) (hd : ∀ H, Pv n H → Qd H) :
    ∃ W : Nat → Nat → Hp → Prop, (∃ m, W 0 m H4) ∧ ∀ i m H, W i m H →
      (J.stop i H ∧ Qd H) ∨ (J.go i H ∧ ∃ Nx : Hp → Prop, (∀ H', Nx H' → ∃ m', m' < m ∧ W (i + 1) m' H') ∧ ∀ x H', J.yld i H x H' → g x (wipe σ vs) H' fun σ2 H2 => wipe σ2 vs = wipe σ vs ∧ tt σ2 H2 fun b H3 =>
        if b = true then te σ2 H3 fun y H4 => ∃ acc, H4 D = some (.lst acc) ∧ acc.length < sizeLine ∧ Nx (upd H4 D (.lst (acc ++ [y]))) else Nx H3) := by
  refine ⟨fun i m H => m = n - i ∧ i ≤ n ∧ Pv i H, ⟨n, by simp, Nat.zero_le _, h0⟩, ?_⟩
  rintro i m H ⟨rfl, hi, p⟩
  have q := hG i H hi p
  by_cases hlt : i < n
  · refine .inr ⟨w.goes i H hlt q, Pv (i + 1), fun H' p' => ⟨n - (i + 1), by omega, rfl, hlt, p'⟩, fun x H' y => hs i x H H' hlt p (w.yields i H x H' hlt q y)⟩
  · have e : i = n := by omega
    subst e
    exact .inl ⟨w.stops H q, hd H p⟩
theorem ixv0 {a : V} {l : List V} : atI (a :: l) 0 = some a := atI_nat (j := 0) rfl
theorem ixv1 {a b : V} {l : List V} : atI (a :: b :: l) 1 = some b := atI_nat (j := 1) rfl
theorem ixv2 {a b c : V} {l : List V} : atI (a :: b :: c :: l) 2 = some c := atI_nat (j := 2) rfl
theorem cut_one {x : V} {l : List V} : cutV (x :: l) (some 1) none = l := (cutV_from (a := 1) rfl).trans rfl
theorem cut_nfull {x : V} {l : List V} {hi : Option Int} {P : Prop} (h : HT.sIx (x :: l).length 0 (some 1) = 0 ∧ HT.sIx (x :: l).length (x :: l).length hi = (x :: l).length) : P := by
  have e : HT.sIx (x :: l).length 0 (some ((1 : Nat) : Int)) = min 1 (x :: l).length := HT.sIx_nat _ _ _
  have h1 := h.1.symm.trans e
  rw [List.length_cons] at h1
  omega
theorem sqT_tyV {K : PySem.W.Frag} {H : Hp} {a : Addr} {vs : List V} (h : SqT K H a vs) : TyX K H (.ref a) (.type "tuple") := by
  rcases h with (h | ⟨o, h⟩) | h
  · exact .base (.tup h)
  · exact .fTuple h
  · obtain ⟨o, xs, n, e, c, _⟩ := h
    exact .kTuple e (by assumption)
theorem tup_keep {H : Hp} {p w : Addr} {vs l : List V} {o : HO} (h : H p = some (.tup vs)) (hw : H w = some (.lst l)) : upd H w o p = some (.tup vs) := by
  rw [upd_ne]
  · exact h
  · rintro rfl
    rw [h] at hw
    cases hw

/-! ### events as texts: plain -/
def numS (n : Int) : Str := toString n
def Ev.wordS : Ev → Str
  | .make _ => "make"
  | .read _ _ => "read"
  | .write _ _ _ => "write"
  | .drop _ => "drop"
  | .send _ _ => "send"
  | .receive _ => "receive"
  | .collect => "collect"
  | .report => "report"
  | .remove _ => "remove"
def otherS : Option Int → Str
  | none => "none"
  | some i => numS i
def carW (cs : List (Bool × Int)) : List Str := (cs.map fun c => [kindS c.1, numS c.2]).flatten
def pairW (es : List (Int × Int)) : List Str := (es.map fun e => [numS e.1, numS e.2]).flatten
def MsgM.wordsS (m : MsgM) : List Str := [numS m.sender, numS m.number, numS m.seen] ++ m.held.map numS ++ [("carried" : Str)] ++ carW m.carried
def Ev.restS : Ev → List Str
  | .make n => [numS n]
  | .read r f => [numS r, numS f]
  | .write r f o => [numS r, numS f, otherS o]
  | .drop r => [numS r]
  | .send to rs => [numS to] ++ rs.map numS
  | .receive m => m.wordsS
  | .collect => []
  | .report => []
  | .remove es => pairW es
def Ev.textS (e : Ev) : Str := Txt.join " " ([e.wordS] ++ e.restS)
/-! reading -/
def isDig (c : Nat) : Bool := decide (c ∈ ("0123456789" : Str).cps.toList)
def badNum (z : Str) : Bool := !(decide (1 ≤ z.length) && decide (z.length ≤ 5)) || z.cps.toList.any fun c => !isDig c
def readNum (z : Str) : Option Int := if badNum z = true then none else if z.cps.toList.head? = some 48 ∧ 1 < z.length then none else some (NumText.digitsVal z.cps.toList : Int)
def readNums : List Str → Option (List Int)
  | [] => some []
  | w :: ws => match readNum w, readNums ws with
    | some n, some ns => some (n :: ns)
    | _, _ => none
def isKind (z : Str) : Bool := decide (z = "export") || decide (z = "return")
def kindB (z : Str) : Bool := decide (z = "export")
def readCar (ws : List Str) : Option (List (Bool × Int)) :=
  if 8 < ws.length ∨ ws.length % 2 = 1 then none else match readNums (evens (ws.drop 1)) with
    | none => none
    | some ns => if (evens ws).all isKind = true then some (((evens ws).map kindB).zip ns) else none
def risesI : List Int → Bool
  | a :: b :: r => decide (a < b) && risesI (b :: r)
  | _ => true
def ltPB (a b : Int × Int) : Bool := decide (a.1 < b.1) || (decide (a.1 = b.1) && decide (a.2 < b.2))
def risesP : List (Int × Int) → Bool
  | a :: b :: r => ltPB a b && risesP (b :: r)
  | _ => true
def readReceive (who : Int) (ws : List Str) : Option Ev :=
  if ("carried" : Str) ∉ ws then none else match readNums (ws.take (ws.idxOf ("carried" : Str))), readCar (ws.drop (ws.idxOf ("carried" : Str) + 1)) with
    | some (s :: n :: e :: held), some cs => if risesI held = true then some (.receive ⟨s, who, n, e, held, cs⟩) else none
    | _, _ => none
def readRemove (ws : List Str) : Option Ev := match readNums ws with
  | none => none
  | some ns => if ns.length % 2 = 1 then none else if risesP ((evens ns).zip (evens (ns.drop 1))) = true then some (.remove ((evens ns).zip (evens (ns.drop 1)))) else none
def readWrite (ws : List Str) : Option Ev := match ws with
  | [a, b, c] => match readNums [a, b] with
    | some [r, f] => if c = "none" then some (.write r f none) else match readNum c with
      | some o => some (.write r f (some o))
      | none => none
    | _ => none
  | _ => none
def readPlain (w : Str) (ws : List Str) : Option Ev := match readNums ws with
  | none => none
  | some ns => if w = "send" then (match ns with
      | to :: rs => if rs.length ≤ 4 then some (.send to rs) else none
      | [] => none)
    else if w = "make" then (match ns with | [n] => some (.make n) | _ => none)
    else if w = "read" then (match ns with | [r, f] => some (.read r f) | _ => none)
    else if w = "drop" then (match ns with | [r] => some (.drop r) | _ => none)
    else if w = "collect" then (match ns with | [] => some .collect | _ => none)
    else if w = "report" then (match ns with | [] => some .report | _ => none)
    else none
def readWords (who : Int) : List Str → Option Ev
  | [] => none
  | w :: ws => if w = "receive" then readReceive who ws else if w = "remove" then readRemove ws else if w = "write" then readWrite ws else readPlain w ws
def readEv (who : Int) (z : Str) : Option Ev := match readWords who (Txt.split z " ") with
  | none => none
  | some e => if e.textS = z then some e else none
theorem readEv_text {who : Int} {z : Str} {e : Ev} (h : readEv who z = some e) : e.textS = z := by
  unfold readEv at h
  split at h
  · cases h
  · split at h
    · rename_i q
      cases h
      exact q
    · cases h
/-! numbers -/
theorem numS_tl (n : Nat) : TL.tl (numS (n : Int)) = TL.numL n := TL.tl_num n
theorem numS_nat {n : Int} (h : 0 ≤ n) : ∃ k : Nat, n = k ∧ TL.tl (numS n) = TL.numL k := by
  obtain ⟨k, rfl⟩ := Int.eq_ofNat_of_zero_le h
  exact ⟨k, rfl, numS_tl k⟩
theorem isDig_iff {c : Nat} : isDig c = true ↔ 48 ≤ c ∧ c ≤ 57 := by
  unfold isDig
  rw [decide_eq_true_iff, show ("0123456789" : Str).cps.toList = [48, 49, 50, 51, 52, 53, 54, 55, 56, 57] by decide +kernel]
  simp only [List.mem_cons, List.not_mem_nil, or_false]
  omega
theorem badNum_iff {z : Str} : badNum z = false ↔ (1 ≤ z.length ∧ z.length ≤ 5) ∧ NumText.AllDigits z.cps.toList := by
  unfold badNum
  rw [Bool.or_eq_false_iff, Bool.not_eq_false', Bool.and_eq_true, decide_eq_true_iff, decide_eq_true_iff]
  refine and_congr Iff.rfl ?_
  rw [List.any_eq_false]
  constructor
  · intro h c hc
    have := h c hc
    exact isDig_iff.mp (by simpa using this)
  · intro h c hc
    have := isDig_iff.mpr (h c hc)
    simp [this]
theorem head_numL (n : Nat) (h : (TL.numL n).head? = some 48) : n = 0 ∧ TL.numL n = [48] := by
  induction n using Nat.strongRecOn with
  | _ n ih =>
    by_cases hn : n < 10
    · rw [TL.numL_lt hn] at h ⊢
      have : 48 + n = 48 := Option.some.inj h
      have : n = 0 := by omega
      subst this
      exact ⟨rfl, rfl⟩
    · rw [TL.numL_step (by omega)] at h
      obtain ⟨c, r, e⟩ := List.exists_cons_of_ne_nil (TL.numL_ne (n / 10))
      have h2 : (TL.numL (n / 10)).head? = some 48 := by
        rw [e] at h ⊢
        exact h
      have := (ih (n / 10) (by omega) h2).1
      omega
theorem readNum_numS {n : Int} (h0 : 0 ≤ n) (h1 : n < 100000) : readNum (numS n) = some n := by
  obtain ⟨k, rfl, e⟩ := numS_nat h0
  have hl : (TL.numL k).length ≤ 5 := TL.numL_len (by decide) (by omega)
  have e' : (numS (k : Int)).cps.toList = TL.numL k := e
  have el : (numS (k : Int)).length = (TL.numL k).length := by rw [TL.len_tl, e]
  have hp := List.length_pos_iff.mpr (TL.numL_ne k)
  have b : badNum (numS (k : Int)) = false := badNum_iff.mpr ⟨⟨by omega, by omega⟩, by rw [e']; exact TL.numL_digits k⟩
  unfold readNum
  rw [b, if_neg (by decide), e', TL.numL_val, if_neg]
  rintro ⟨q1, q2⟩
  have := (head_numL k q1).2
  rw [el, this] at q2
  exact absurd q2 (by decide)
theorem readNum_bd {z : Str} {n : Int} (h : readNum z = some n) : 0 ≤ n ∧ n < 100000 := by
  unfold readNum at h
  split at h
  · cases h
  · rename_i hb
    split at h
    · cases h
    · cases h
      have b := badNum_iff.mp (by simpa using hb)
      have : ∀ l : List Nat, NumText.AllDigits l → ∀ a : Nat, l.foldl (fun acc c => acc * 10 + (c - 48)) a < (a + 1) * 10 ^ l.length := by
        intro l
        induction l with
        | nil => intro _ a; simp
        | cons c l ih =>
          intro hd a
          have h1 := ih hd.tail (a * 10 + (c - 48))
          have h2 := hd.head
          rw [List.foldl_cons, List.length_cons]
          refine Nat.lt_of_lt_of_le h1 ?_
          rw [Nat.pow_succ, Nat.mul_comm (10 ^ l.length) 10, ← Nat.mul_assoc]
          exact Nat.mul_le_mul_right _ (by omega)
      have h2 := this z.cps.toList b.2 0
      have h3 : z.cps.toList.length ≤ 5 := by have := b.1.2; rwa [TL.len_tl] at this
      have h4 : 10 ^ z.cps.toList.length ≤ 10 ^ 5 := Nat.pow_le_pow_right (by decide) h3
      refine ⟨Int.natCast_nonneg _, ?_⟩
      have : NumText.digitsVal z.cps.toList < 100000 := by
        unfold NumText.digitsVal
        omega
      omega
theorem readNums_map {ns : List Int} (h : ∀ n ∈ ns, 0 ≤ n ∧ n < 100000) : readNums (ns.map numS) = some ns := by
  induction ns with
  | nil => rfl
  | cons n ns ih =>
    have h1 := h n List.mem_cons_self
    rw [List.map_cons, readNums, readNum_numS h1.1 h1.2, ih fun m hm => h m (List.mem_cons_of_mem _ hm)]
theorem readNums_bd : ∀ {ws : List Str} {ns : List Int}, readNums ws = some ns → ns.length = ws.length ∧ ∀ n ∈ ns, 0 ≤ n ∧ n < 100000
  | [], ns, h => by cases h; exact ⟨rfl, fun _ h => nomatch h⟩
  | w :: ws, ns, h => by
    rw [readNums] at h
    split at h
    · rename_i n ms h1 h2
      cases h
      obtain ⟨l, b⟩ := readNums_bd h2
      refine ⟨by rw [List.length_cons, List.length_cons, l], fun m hm => ?_⟩
      rcases List.mem_cons.mp hm with rfl | hm
      · exact readNum_bd h1
      · exact b m hm
    · cases h

end
section
open PySem PySem.Spec PyProof.Rows L2
variable {P : Program} {w : World} {K : PySem.W.Frag} {mg : Str → Option Value} {base : Heap}
/-! ### a text read back -/
def Nb (n : Int) : Prop := 0 ≤ n ∧ n < 100000
def Ev.okT (who : Int) : Ev → Prop
  | .make n => Nb n
  | .read r f => Nb r ∧ Nb f
  | .write r f o => Nb r ∧ Nb f ∧ ∀ i, o = some i → Nb i
  | .drop r => Nb r
  | .send to rs => Nb to ∧ (∀ r ∈ rs, Nb r) ∧ rs.length ≤ 4
  | .receive m => m.receiver = who ∧ Nb m.sender ∧ Nb m.number ∧ Nb m.seen ∧ (∀ e ∈ m.held, Nb e) ∧ risesI m.held = true ∧ (∀ c ∈ m.carried, Nb c.2) ∧ m.carried.length ≤ 4
  | .collect => True
  | .report => True
  | .remove es => (∀ e ∈ es, Nb e.1 ∧ Nb e.2) ∧ risesP es = true
theorem evens_cons {α : Type} (x : α) (l : List α) : evens (x :: l) = x :: evens (l.drop 1) := by cases l <;> rfl
theorem carW_cons (c : Bool × Int) (cs : List (Bool × Int)) : carW (c :: cs) = kindS c.1 :: numS c.2 :: carW cs := rfl
theorem pairW_cons (c : Int × Int) (cs : List (Int × Int)) : pairW (c :: cs) = numS c.1 :: numS c.2 :: pairW cs := rfl
theorem carW_len (cs : List (Bool × Int)) : (carW cs).length = 2 * cs.length := by
  induction cs with
  | nil => rfl
  | cons c cs ih => rw [carW_cons, List.length_cons, List.length_cons, ih, List.length_cons]; omega
theorem carW_ev (cs : List (Bool × Int)) : evens (carW cs) = cs.map (fun c => kindS c.1) ∧ evens ((carW cs).drop 1) = cs.map (fun c => numS c.2) := by
  induction cs with
  | nil => exact ⟨rfl, rfl⟩
  | cons c cs ih =>
    rw [carW_cons, evens_cons]
    refine ⟨?_, ?_⟩
    · show kindS c.1 :: evens (carW cs) = _
      rw [ih.1]
      rfl
    · show evens (numS c.2 :: carW cs) = _
      rw [evens_cons, ih.2]
      rfl
theorem pairW_ev (cs : List (Int × Int)) : evens (pairW cs) = cs.map (fun c => numS c.1) ∧ evens ((pairW cs).drop 1) = cs.map (fun c => numS c.2) := by
  induction cs with
  | nil => exact ⟨rfl, rfl⟩
  | cons c cs ih =>
    rw [pairW_cons, evens_cons]
    refine ⟨?_, ?_⟩
    · show numS c.1 :: evens (pairW cs) = _
      rw [ih.1]
      rfl
    · show evens (numS c.2 :: pairW cs) = _
      rw [evens_cons, ih.2]
      rfl
theorem kind_ok (b : Bool) : isKind (kindS b) = true ∧ kindB (kindS b) = b := by cases b <;> decide +kernel
theorem readCar_carW {cs : List (Bool × Int)} (hl : cs.length ≤ 4) (h : ∀ c ∈ cs, Nb c.2) : readCar (carW cs) = some cs := by
  unfold readCar
  rw [carW_len, if_neg (by omega), (carW_ev cs).2, (carW_ev cs).1]
  have e : readNums (cs.map fun c => numS c.2) = some (cs.map (·.2)) := by
    have := readNums_map (ns := cs.map (·.2)) fun n hn => by
      obtain ⟨c, hc, rfl⟩ := List.mem_map.mp hn
      exact h c hc
    rwa [List.map_map] at this
  rw [e]
  show (if ((cs.map fun c => kindS c.1).all isKind) = true then some (((cs.map fun c => kindS c.1).map kindB).zip (cs.map (·.2))) else none) = some cs
  rw [if_pos (List.all_eq_true.mpr fun x hx => by obtain ⟨c, _, rfl⟩ := List.mem_map.mp hx; exact (kind_ok c.1).1), List.map_map]
  congr 1
  clear h e hl
  induction cs with
  | nil => rfl
  | cons c cs ih =>
    show (kindB (kindS c.1), c.2) :: _ = _
    rw [(kind_ok c.1).2]
    exact congrArg (c :: ·) ih
def pairI (es : List (Int × Int)) : List Int := (es.map fun e => [e.1, e.2]).flatten
theorem pairI_ev (cs : List (Int × Int)) : evens (pairI cs) = cs.map (·.1) ∧ evens ((pairI cs).drop 1) = cs.map (·.2) ∧ (pairI cs).length = 2 * cs.length ∧ (pairI cs).map numS = pairW cs := by
  induction cs with
  | nil => exact ⟨rfl, rfl, rfl, rfl⟩
  | cons c cs ih =>
    obtain ⟨i1, i2, i3, i4⟩ := ih
    have e : pairI (c :: cs) = c.1 :: c.2 :: pairI cs := rfl
    rw [e, evens_cons]
    refine ⟨?_, ?_, ?_, ?_⟩
    · show c.1 :: evens (pairI cs) = _
      rw [i1]
      rfl
    · show evens (c.2 :: pairI cs) = _
      rw [evens_cons, i2]
      rfl
    · rw [List.length_cons, List.length_cons, i3, List.length_cons]
      omega
    · rw [pairW_cons, List.map_cons, List.map_cons, i4]
theorem zip_fst_snd {α β : Type} : ∀ l : List (α × β), (l.map (·.1)).zip (l.map (·.2)) = l
  | [] => rfl
  | x :: l => congrArg (x :: ·) (zip_fst_snd l)
theorem readRemove_pairW {es : List (Int × Int)} (h : ∀ e ∈ es, Nb e.1 ∧ Nb e.2) (hr : risesP es = true) : readRemove (pairW es) = some (.remove es) := by
  obtain ⟨i1, i2, i3, i4⟩ := pairI_ev es
  unfold readRemove
  rw [← i4, readNums_map (fun n hn => by
    obtain ⟨l, hl, hn⟩ := List.mem_flatten.mp hn
    obtain ⟨e, he, rfl⟩ := List.mem_map.mp hl
    rcases List.mem_cons.mp hn with rfl | hn
    · exact (h e he).1
    · rw [List.mem_singleton.mp hn]; exact (h e he).2)]
  show (if (pairI es).length % 2 = 1 then none else if risesP ((evens (pairI es)).zip (evens ((pairI es).drop 1))) = true then some (Ev.remove ((evens (pairI es)).zip (evens ((pairI es).drop 1)))) else none) = _
  rw [i1, i2, zip_fst_snd, if_neg (by omega), if_pos hr]
theorem nb_free {n : Int} (h : Nb n) : 32 ∉ TL.tl (numS n) := by
  obtain ⟨k, _, e⟩ := numS_nat h.1
  rw [e]
  exact TL.numL_free (.inl (by decide))
theorem nb_ne {n : Int} (h : Nb n) : TL.tl (numS n) ≠ [] := by
  obtain ⟨k, _, e⟩ := numS_nat h.1
  rw [e]
  exact TL.numL_ne k
theorem nb_word {n : Int} {z : Str} (h : Nb n) {c : Nat} {r : List Nat} (hz : TL.tl z = c :: r) (hc : c < 48 ∨ 57 < c) : numS n ≠ z := by
  rintro e
  obtain ⟨k, _, e2⟩ := numS_nat h.1
  rw [e, hz] at e2
  have := TL.numL_free (n := k) hc
  rw [← e2] at this
  exact this List.mem_cons_self
/-- words without a blank, none empty -/
def GoodW (z : Str) : Prop := 32 ∉ TL.tl z ∧ TL.tl z ≠ []
theorem good_num {n : Int} (h : Nb n) : GoodW (numS n) := ⟨nb_free h, nb_ne h⟩
theorem good_kind (b : Bool) : GoodW (kindS b) := by cases b <;> exact ⟨by decide +kernel, by decide +kernel⟩
theorem good_word (e : Ev) : GoodW e.wordS := by
  have h : ∀ z ∈ (["make", "read", "write", "drop", "send", "receive", "collect", "report", "remove"] : List Str), 32 ∉ TL.tl z ∧ TL.tl z ≠ [] := by decide +kernel
  cases e with
  | make => exact h "make" (by decide +kernel)
  | read => exact h "read" (by decide +kernel)
  | write => exact h "write" (by decide +kernel)
  | drop => exact h "drop" (by decide +kernel)
  | send => exact h "send" (by decide +kernel)
  | receive => exact h "receive" (by decide +kernel)
  | collect => exact h "collect" (by decide +kernel)
  | report => exact h "report" (by decide +kernel)
  | remove => exact h "remove" (by decide +kernel)
theorem good_car {cs : List (Bool × Int)} (h : ∀ c ∈ cs, Nb c.2) : ∀ z ∈ carW cs, GoodW z := fun z hz => by
  obtain ⟨l, hl, hz⟩ := List.mem_flatten.mp hz
  obtain ⟨c, hc, rfl⟩ := List.mem_map.mp hl
  rcases List.mem_cons.mp hz with rfl | hz
  · exact good_kind _
  · rw [List.mem_singleton.mp hz]
    exact good_num (h c hc)
theorem good_pair {es : List (Int × Int)} (h : ∀ e ∈ es, Nb e.1 ∧ Nb e.2) : ∀ z ∈ pairW es, GoodW z := fun z hz => by
  obtain ⟨l, hl, hz⟩ := List.mem_flatten.mp hz
  obtain ⟨e, he, rfl⟩ := List.mem_map.mp hl
  rcases List.mem_cons.mp hz with rfl | hz
  · exact good_num (h e he).1
  · rw [List.mem_singleton.mp hz]
    exact good_num (h e he).2
theorem good_nums {ns : List Int} (h : ∀ n ∈ ns, Nb n) : ∀ z ∈ ns.map numS, GoodW z := fun z hz => by
  obtain ⟨n, hn, rfl⟩ := List.mem_map.mp hz
  exact good_num (h n hn)
theorem Ev.okT.good {who : Int} {e : Ev} (h : e.okT who) : ∀ z ∈ [e.wordS] ++ e.restS, GoodW z := fun z hz => by
  rcases List.mem_append.mp hz with hz | hz
  · rw [List.mem_singleton.mp hz]
    exact good_word e
  · cases e with
    | make n => exact good_nums (ns := [n]) (fun m hm => by rw [List.mem_singleton.mp hm]; exact h) z hz
    | read r f => exact good_nums (ns := [r, f]) (fun m hm => by simp only [List.mem_cons, List.not_mem_nil, or_false] at hm; rcases hm with rfl | rfl <;> first | exact h.1 | exact h.2) z hz
    | write r f o =>
      have hz : z ∈ [numS r, numS f, otherS o] := hz
      simp only [List.mem_cons, List.not_mem_nil, or_false] at hz
      rcases hz with rfl | rfl | rfl
      · exact good_num h.1
      · exact good_num h.2.1
      · cases o with
        | none => exact ⟨by decide +kernel, by decide +kernel⟩
        | some i => exact good_num (h.2.2 i rfl)
    | drop n => exact good_nums (ns := [n]) (fun m hm => by rw [List.mem_singleton.mp hm]; exact h) z hz
    | send to rs =>
      exact good_nums (ns := to :: rs) (fun m hm => by rcases List.mem_cons.mp hm with rfl | hm <;> first | exact h.1 | exact h.2.1 m hm) z hz
    | receive m =>
      obtain ⟨_, h1, h2, h3, h4, _, h5, _⟩ := h
      have hz : z ∈ [numS m.sender, numS m.number, numS m.seen] ++ m.held.map numS ++ [("carried" : Str)] ++ carW m.carried := hz
      rcases List.mem_append.mp hz with hz | hz
      · rcases List.mem_append.mp hz with hz | hz
        · rcases List.mem_append.mp hz with hz | hz
          · exact good_nums (ns := [m.sender, m.number, m.seen]) (fun m hm => by simp only [List.mem_cons, List.not_mem_nil, or_false] at hm; rcases hm with rfl | rfl | rfl <;> first | exact h1 | exact h2 | exact h3) z hz
          · exact good_nums h4 z hz
        · rw [List.mem_singleton.mp hz]
          exact ⟨by decide +kernel, by decide +kernel⟩
      · exact good_car h5 z hz
    | collect => cases hz
    | report => cases hz
    | remove es => exact good_pair h.1 z hz
theorem split_text {ws : List Str} (hne : ws ≠ []) (h : ∀ z ∈ ws, GoodW z) : Txt.split (Txt.join " " ws) " " = ws :=
  TL.split_join (y := " ") (s := 32) (S := []) (by decide +kernel) (by decide +kernel) hne fun p hp => (h p hp).1
theorem readNums_three {a b c : Int} {held : List Int} (ha : Nb a) (hb : Nb b) (hc : Nb c) (hh : ∀ e ∈ held, Nb e) : readNums ([numS a, numS b, numS c] ++ held.map numS) = some (a :: b :: c :: held) :=
  readNums_map (ns := a :: b :: c :: held) fun n hn => by
    simp only [List.mem_cons] at hn
    rcases hn with rfl | rfl | rfl | hn <;> first | exact ha | exact hb | exact hc | exact hh n hn
theorem readWords_plain {who : Int} {w : Str} {ws : List Str} (h1 : w ≠ "receive") (h2 : w ≠ "remove") (h3 : w ≠ "write") : readWords who (w :: ws) = readPlain w ws := by
  unfold readWords
  dsimp only
  rw [if_neg h1, if_neg h2, if_neg h3]
theorem readWords_ok {who : Int} {e : Ev} (h : e.okT who) : readWords who ([e.wordS] ++ e.restS) = some e := by
  have one : ∀ {n : Int}, Nb n → readNums [numS n] = some [n] := fun {n} hn => readNums_map (ns := [n]) fun m hm => by rw [List.mem_singleton.mp hm]; exact hn
  have two : ∀ {n m : Int}, Nb n → Nb m → readNums [numS n, numS m] = some [n, m] := fun {n m} hn hm => readNums_map (ns := [n, m]) fun k hk => by
    simp only [List.mem_cons, List.not_mem_nil, or_false] at hk
    rcases hk with rfl | rfl <;> first | exact hn | exact hm
  cases e with
  | make n =>
    refine (readWords_plain (w := "make") (by decide +kernel) (by decide +kernel) (by decide +kernel)).trans ?_
    show readPlain "make" [numS n] = _
    unfold readPlain
    rw [one h]
    rfl
  | read r f =>
    refine (readWords_plain (w := "read") (by decide +kernel) (by decide +kernel) (by decide +kernel)).trans ?_
    show readPlain "read" [numS r, numS f] = _
    unfold readPlain
    rw [two h.1 h.2]
    rfl
  | write r f o =>
    refine (show readWords who ("write" :: [numS r, numS f, otherS o]) = readWrite [numS r, numS f, otherS o] by
      unfold readWords
      dsimp only
      rw [if_neg (by decide +kernel), if_neg (by decide +kernel), if_pos rfl]).trans ?_
    unfold readWrite
    dsimp only
    rw [two h.1 h.2.1]
    dsimp only
    cases o with
    | none => rw [if_pos (show otherS none = ("none" : Str) from rfl)]
    | some i =>
      have hi := h.2.2 i rfl
      have : numS i ≠ ("none" : Str) := nb_word hi (c := 110) (r := [111, 110, 101]) (by decide +kernel) (by decide)
      rw [if_neg (show ¬ otherS (some i) = ("none" : Str) from this)]
      show (match readNum (numS i) with | some o => some (Ev.write r f (some o)) | none => none) = _
      rw [readNum_numS hi.1 hi.2]
  | drop n =>
    refine (readWords_plain (w := "drop") (by decide +kernel) (by decide +kernel) (by decide +kernel)).trans ?_
    show readPlain "drop" [numS n] = _
    unfold readPlain
    rw [one h]
    rfl
  | send to rs =>
    refine (readWords_plain (w := "send") (by decide +kernel) (by decide +kernel) (by decide +kernel)).trans ?_
    show readPlain "send" ((to :: rs).map numS) = _
    unfold readPlain
    rw [readNums_map (fun n hn => by rcases List.mem_cons.mp hn with rfl | hn <;> first | exact h.1 | exact h.2.1 n hn)]
    show (if rs.length ≤ 4 then some (Ev.send to rs) else none) = _
    rw [if_pos h.2.2]
  | receive m =>
    obtain ⟨h0, h1, h2, h3, h4, h6, h5, h7⟩ := h
    refine (show readWords who ("receive" :: (([numS m.sender, numS m.number, numS m.seen] ++ m.held.map numS) ++ [("carried" : Str)] ++ carW m.carried)) = readReceive who (([numS m.sender, numS m.number, numS m.seen] ++ m.held.map numS) ++ [("carried" : Str)] ++ carW m.carried) by
      unfold readWords
      dsimp only
      rw [if_pos rfl]).trans ?_
    rw [List.append_assoc]
    unfold readReceive
    have nm : ("carried" : Str) ∉ ([numS m.sender, numS m.number, numS m.seen] ++ m.held.map numS) := fun hm => by
      have : ("carried" : Str) ∈ (m.sender :: m.number :: m.seen :: m.held).map numS := hm
      obtain ⟨n, hn, e⟩ := List.mem_map.mp this
      have hb : Nb n := by
        simp only [List.mem_cons] at hn
        rcases hn with rfl | rfl | rfl | hn <;> first | exact h1 | exact h2 | exact h3 | exact h4 n hn
      exact nb_word hb (c := 99) (r := [97, 114, 114, 105, 101, 100]) (by decide +kernel) (by decide) e
    have ix : (([numS m.sender, numS m.number, numS m.seen] ++ m.held.map numS) ++ ([("carried" : Str)] ++ carW m.carried)).idxOf ("carried" : Str) = ([numS m.sender, numS m.number, numS m.seen] ++ m.held.map numS).length := by
      rw [List.idxOf_append, if_neg nm]
      show List.idxOf ("carried" : Str) (("carried" : Str) :: carW m.carried) + _ = _
      rw [List.idxOf_cons_self, Nat.zero_add]
    rw [if_neg (fun q => q (List.mem_append_right _ List.mem_cons_self)), ix, List.take_left', ← List.drop_drop, List.drop_left', show ([("carried" : Str)] ++ carW m.carried).drop 1 = carW m.carried from rfl, readNums_three h1 h2 h3 h4, readCar_carW h7 h5]
    · show (if risesI m.held = true then _ else _) = _
      rw [if_pos h6]
      subst h0
      rfl
    · rfl
    · rfl
  | collect =>
    refine (readWords_plain (w := "collect") (by decide +kernel) (by decide +kernel) (by decide +kernel)).trans ?_
    show readPlain "collect" [] = _
    rfl
  | report =>
    refine (readWords_plain (w := "report") (by decide +kernel) (by decide +kernel) (by decide +kernel)).trans ?_
    show readPlain "report" [] = _
    rfl
  | remove es =>
    refine (show readWords who ("remove" :: pairW es) = readRemove (pairW es) by
      unfold readWords
      dsimp only
      rw [if_neg (by decide +kernel), if_pos rfl]).trans ?_
    exact readRemove_pairW h.1 h.2
theorem readEv_ok {who : Int} {e : Ev} (h : e.okT who) : readEv who e.textS = some e := by
  unfold readEv
  rw [show Txt.split e.textS " " = [e.wordS] ++ e.restS from split_text (by simp) h.good, readWords_ok h]
  show (if e.textS = e.textS then some e else none) = some e
  rw [if_pos rfl]

/-! ### what is read is an event of the shapes; its text begins and ends with no blank -/
theorem evens_half {α : Type} : ∀ l : List α, (evens l).length = (l.length + 1) / 2
  | [] => by simp [evens]
  | [x] => by simp [evens]
  | x :: y :: r => by
    show (evens r).length + 1 = (r.length + 1 + 1 + 1) / 2
    rw [evens_half r]
    omega
theorem readCar_ok {ws : List Str} {cs : List (Bool × Int)} (h : readCar ws = some cs) : cs.length ≤ 4 ∧ ∀ c ∈ cs, Nb c.2 := by
  unfold readCar at h
  split at h
  · cases h
  · rename_i hw
    split at h
    · cases h
    · rename_i ns hns
      split at h
      · cases h
        obtain ⟨l, b⟩ := readNums_bd hns
        refine ⟨?_, fun c hc => ?_⟩
        · rw [List.length_zip, List.length_map, evens_half]
          omega
        · exact b c.2 (List.of_mem_zip (show (c.1, c.2) ∈ _ from hc)).2
      · cases h
theorem readReceive_ok {who : Int} {ws : List Str} {e : Ev} (h : readReceive who ws = some e) : e.okT who := by
  unfold readReceive at h
  split at h
  · cases h
  · split at h
    · rename_i s n e' held cs hns hcs
      split at h
      · rename_i hr
        cases h
        obtain ⟨_, b⟩ := readNums_bd hns
        obtain ⟨c1, c2⟩ := readCar_ok hcs
        exact ⟨rfl, b _ (by simp), b _ (by simp), b _ (by simp), fun x hx => b x (by simp [hx]), hr, c2, c1⟩
      · cases h
    · cases h
theorem mem_evens {α : Type} : ∀ {l : List α} {x : α}, x ∈ evens l → x ∈ l
  | [], _, h => h
  | [_], _, h => h
  | a :: _ :: r, x, h => by
    rcases List.mem_cons.mp h with rfl | h
    · exact List.mem_cons_self
    · exact List.mem_cons_of_mem _ (List.mem_cons_of_mem _ (mem_evens h))
theorem readRemove_ok {who : Int} {ws : List Str} {e : Ev} (h : readRemove ws = some e) : e.okT who := by
  unfold readRemove at h
  split at h
  · cases h
  · rename_i ns hns
    obtain ⟨_, b⟩ := readNums_bd hns
    split at h
    · cases h
    · split at h
      · rename_i hr
        cases h
        refine ⟨fun x hx => ?_, hr⟩
        have := List.of_mem_zip (show (x.1, x.2) ∈ _ from hx)
        exact ⟨b _ (mem_evens this.1), b _ (List.mem_of_mem_drop (mem_evens this.2))⟩
      · cases h
theorem readWrite_ok {who : Int} {ws : List Str} {e : Ev} (h : readWrite ws = some e) : e.okT who := by
  unfold readWrite at h
  split at h
  · rename_i a b c
    split at h
    · rename_i r f hns
      obtain ⟨_, bd⟩ := readNums_bd hns
      split at h
      · cases h
        exact ⟨bd _ (by simp), bd _ (by simp), fun i hi => by cases hi⟩
      · split at h
        · rename_i o ho
          cases h
          exact ⟨bd _ (by simp), bd _ (by simp), fun i hi => by cases hi; exact readNum_bd ho⟩
        · cases h
    · cases h
  · cases h
theorem readPlain_ok {who : Int} {w : Str} {ws : List Str} {e : Ev} (h : readPlain w ws = some e) : e.okT who := by
  unfold readPlain at h
  split at h
  · cases h
  · rename_i ns hns
    obtain ⟨_, b⟩ := readNums_bd hns
    split at h
    · split at h
      · rename_i to rs
        split at h
        · rename_i hl
          cases h
          exact ⟨b _ (by simp), fun r hr => b r (by simp [hr]), hl⟩
        · cases h
      · cases h
    · split at h
      · split at h
        · cases h; exact b _ (by simp)
        · cases h
      · split at h
        · split at h
          · cases h; exact ⟨b _ (by simp), b _ (by simp)⟩
          · cases h
        · split at h
          · split at h
            · cases h; exact b _ (by simp)
            · cases h
          · split at h
            · split at h
              · cases h; trivial
              · cases h
            · split at h
              · split at h
                · cases h; trivial
                · cases h
              · cases h
theorem readWords_okT {who : Int} {ws : List Str} {e : Ev} (h : readWords who ws = some e) : e.okT who := by
  unfold readWords at h
  split at h
  · cases h
  · split at h
    · exact readReceive_ok h
    · split at h
      · exact readRemove_ok h
      · split at h
        · exact readWrite_ok h
        · exact readPlain_ok h
theorem readEv_okT {who : Int} {z : Str} {e : Ev} (h : readEv who z = some e) : e.okT who := by
  unfold readEv at h
  split at h
  · cases h
  · rename_i hw
    split at h
    · cases h
      exact readWords_okT hw
    · cases h
theorem joinL_ends : ∀ {ps : List (List Nat)}, ps ≠ [] → (∀ p ∈ ps, 32 ∉ p ∧ p ≠ []) → TL.joinL [32] ps ≠ [] ∧ (TL.joinL [32] ps).head? ≠ some 32 ∧ (TL.joinL [32] ps).getLast? ≠ some 32
  | [], h, _ => absurd rfl h
  | [p], _, h => by
    obtain ⟨h1, h2⟩ := h p List.mem_cons_self
    exact ⟨h2, fun e => h1 (List.mem_of_mem_head? e), fun e => h1 (List.mem_of_mem_getLast? e)⟩
  | p :: q :: r, _, h => by
    obtain ⟨h1, h2⟩ := h p List.mem_cons_self
    obtain ⟨j1, j2, j3⟩ := joinL_ends (ps := q :: r) (by simp) fun x hx => h x (List.mem_cons_of_mem _ hx)
    show (p ++ ([32] ++ TL.joinL [32] (q :: r))) ≠ [] ∧ (p ++ ([32] ++ TL.joinL [32] (q :: r))).head? ≠ some 32 ∧ (p ++ ([32] ++ TL.joinL [32] (q :: r))).getLast? ≠ some 32
    refine ⟨by simp [h2], ?_, ?_⟩
    · obtain ⟨c, t, e⟩ := List.exists_cons_of_ne_nil h2
      subst e
      intro z
      have : c = 32 := Option.some.inj z
      exact h1 (by rw [this]; exact List.mem_cons_self)
    · rw [← List.append_assoc, List.getLast?_append]
      intro z
      cases e : (TL.joinL [32] (q :: r)).getLast? with
      | none => exact j1 (List.getLast?_eq_none_iff.mp e)
      | some c =>
        rw [e] at z j3
        exact j3 z
theorem textS_ends {who : Int} {e : Ev} (h : e.okT who) : (TL.tl e.textS).head? ≠ some 32 ∧ (TL.tl e.textS).getLast? ≠ some 32 := by
  have e1 : TL.tl e.textS = TL.joinL [32] (([e.wordS] ++ e.restS).map TL.tl) := by
    unfold Ev.textS
    rw [TL.join_eq, TL.tl_join]
    rw [show TL.tl (" " : Str) = [32] by decide +kernel]
  rw [e1]
  exact (joinL_ends (by simp) fun p hp => by
    obtain ⟨z, hz, rfl⟩ := List.mem_map.mp hp
    exact h.good z hz).2
theorem readEv_blank {who : Int} {z : Str} : readEv who (z ++ " ") = none ∧ readEv who (" " ++ z) = none := by
  constructor
  · cases h : readEv who (z ++ " ") with
    | none => rfl
    | some e =>
      exfalso
      have := (textS_ends (readEv_okT h)).2
      rw [readEv_text h, TL.tl_append, show TL.tl (" " : Str) = [32] by decide +kernel] at this
      exact this (by simp)
  · cases h : readEv who (" " ++ z) with
    | none => rfl
    | some e =>
      exfalso
      have := (textS_ends (readEv_okT h)).1
      rw [readEv_text h, TL.tl_append, show TL.tl (" " : Str) = [32] by decide +kernel] at this
      exact this rfl

end
section
open PySem PySem.Spec PyProof.Rows L2
variable {P : Program} {w : World} {K : PySem.W.Frag} {mg : Str → Option Value} {base : Heap}
def topS (i : Nat) : Stmt := PySem.Challenge.pw_keptbywitness_k45_events_written_and_rea.main.body.getD i (.Pass ⟨0, 0, 0, 0⟩)
abbrev s__message_words : Stmt := topS 8
abbrev N__message_words : List Str := ["message", "sender", "_", "number", "seen", "held", "carried", "words", "entry", "kind", "part"]
theorem sc__message_words : FnScope N__message_words ["message"] (defScope s__message_words) := ⟨rfl, rfl, rfl, by decide +kernel, rfl, by decide +kernel, by decide +kernel⟩
abbrev s__words : Stmt := topS 9
abbrev N__words : List Str := ["event", "word", "part", "pair", "root"]
theorem sc__words : FnScope N__words ["event"] (defScope s__words) := ⟨rfl, rfl, rfl, by decide +kernel, rfl, by decide +kernel, by decide +kernel⟩
abbrev s_write_event : Stmt := topS 10
abbrev N_write_event : List Str := ["event"]
theorem sc_write_event : FnScope N_write_event ["event"] (defScope s_write_event) := ⟨rfl, rfl, rfl, by decide +kernel, rfl, by decide +kernel, by decide +kernel⟩
abbrev s__read_number : Stmt := topS 11
abbrev N__read_number : List Str := ["text", "sign"]
theorem sc__read_number : FnScope N__read_number ["text"] (defScope s__read_number) := ⟨rfl, rfl, rfl, by decide +kernel, rfl, by decide +kernel, by decide +kernel⟩
abbrev s__read_numbers : Stmt := topS 12
abbrev N__read_numbers : List Str := ["words", "numbers", "word", "number"]
theorem sc__read_numbers : FnScope N__read_numbers ["words"] (defScope s__read_numbers) := ⟨rfl, rfl, rfl, by decide +kernel, rfl, by decide +kernel, by decide +kernel⟩
abbrev s__rises : Stmt := topS 13
abbrev N__rises : List Str := ["rows", "one", "other"]
theorem sc__rises : FnScope N__rises ["rows"] (defScope s__rises) := ⟨rfl, rfl, rfl, by decide +kernel, rfl, by decide +kernel, by decide +kernel⟩
abbrev s__read_carried : Stmt := topS 14
abbrev N__read_carried : List Str := ["words", "numbers", "kind"]
theorem sc__read_carried : FnScope N__read_carried ["words"] (defScope s__read_carried) := ⟨rfl, rfl, rfl, by decide +kernel, rfl, by decide +kernel, by decide +kernel⟩
abbrev s__read_receive : Stmt := topS 15
abbrev N__read_receive : List Str := ["receiver", "words", "at", "numbers", "carried"]
theorem sc__read_receive : FnScope N__read_receive ["receiver", "words"] (defScope s__read_receive) := ⟨rfl, rfl, rfl, by decide +kernel, rfl, by decide +kernel, by decide +kernel⟩
abbrev s__read_remove : Stmt := topS 16
abbrev N__read_remove : List Str := ["words", "numbers", "entries"]
theorem sc__read_remove : FnScope N__read_remove ["words"] (defScope s__read_remove) := ⟨rfl, rfl, rfl, by decide +kernel, rfl, by decide +kernel, by decide +kernel⟩
abbrev s__read_write : Stmt := topS 17
abbrev N__read_write : List Str := ["words", "numbers", "other"]
theorem sc__read_write : FnScope N__read_write ["words"] (defScope s__read_write) := ⟨rfl, rfl, rfl, by decide +kernel, rfl, by decide +kernel, by decide +kernel⟩
abbrev s__read_plain : Stmt := topS 18
abbrev N__read_plain : List Str := ["word", "words", "numbers", "many"]
theorem sc__read_plain : FnScope N__read_plain ["word", "words"] (defScope s__read_plain) := ⟨rfl, rfl, rfl, by decide +kernel, rfl, by decide +kernel, by decide +kernel⟩
abbrev s_read_event : Stmt := topS 19
abbrev N_read_event : List Str := ["number", "text", "words", "event"]
theorem sc_read_event : FnScope N_read_event ["number", "text"] (defScope s_read_event) := ⟨rfl, rfl, rfl, by decide +kernel, rfl, by decide +kernel, by decide +kernel⟩
abbrev s__law_cell : Stmt := topS 21
abbrev N__law_cell : List Str := ["_law_script", "_law_k"]
theorem sc__law_cell : FnScope N__law_cell ["_law_script", "_law_k"] (defScope s__law_cell) := ⟨rfl, rfl, rfl, by decide +kernel, rfl, by decide +kernel, by decide +kernel⟩
abbrev s__law_digits : Stmt := topS 22
abbrev N__law_digits : List Str := ["_law_script", "_law_first", "_law_last", "_law_digits_here", "_law_k", "_law_cell_here", "_law_turn", "_law_seed"]
theorem sc__law_digits : FnScope N__law_digits ["_law_script", "_law_first", "_law_last"] (defScope s__law_digits) := ⟨rfl, rfl, rfl, by decide +kernel, rfl, by decide +kernel, by decide +kernel⟩
abbrev s__law_draw : Stmt := topS 23
abbrev N__law_draw : List Str := ["_law_box", "_law_many", "_law_at"]
theorem sc__law_draw : FnScope N__law_draw ["_law_box", "_law_many"] (defScope s__law_draw) := ⟨rfl, rfl, rfl, by decide +kernel, rfl, by decide +kernel, by decide +kernel⟩
abbrev s__law_alike : Stmt := topS 24
abbrev N__law_alike : List Str := ["_law_one", "_law_two"]
theorem sc__law_alike : FnScope N__law_alike ["_law_one", "_law_two"] (defScope s__law_alike) := ⟨rfl, rfl, rfl, by decide +kernel, rfl, by decide +kernel, by decide +kernel⟩
abbrev s__law_event_text : Stmt := topS 25
abbrev N__law_event_text : List Str := ["_law_event", "_law_words", "_law_part", "_law_sender", "_law_receiver", "_law_number", "_law_seen", "_law_held", "_law_carried", "_law_entry", "_law_kind", "_law_to", "_law_root"]
theorem sc__law_event_text : FnScope N__law_event_text ["_law_event"] (defScope s__law_event_text) := ⟨rfl, rfl, rfl, by decide +kernel, rfl, by decide +kernel, by decide +kernel⟩
abbrev s__law_any_event : Stmt := topS 26
abbrev N__law_any_event : List Str := ["_law_box", "_law_kind", "_law_numbers", "_law_held", "_law_number", "_law_carried", "_law_k"]
theorem sc__law_any_event : FnScope N__law_any_event ["_law_box"] (defScope s__law_any_event) := ⟨rfl, rfl, rfl, by decide +kernel, rfl, by decide +kernel, by decide +kernel⟩
abbrev s__law_rank : Stmt := topS 27
abbrev N__law_rank : List Str := ["_law_held", "_law_number"]
theorem sc__law_rank : FnScope N__law_rank ["_law_held", "_law_number"] (defScope s__law_rank) := ⟨rfl, rfl, rfl, by decide +kernel, rfl, by decide +kernel, by decide +kernel⟩
abbrev s__law_spoilt : Stmt := topS 28
abbrev N__law_spoilt : List Str := ["_law_box", "_law_text", "_law_at", "_law_sign", "_law_kind", "_law_menu"]
theorem sc__law_spoilt : FnScope N__law_spoilt ["_law_box", "_law_text"] (defScope s__law_spoilt) := ⟨rfl, rfl, rfl, by decide +kernel, rfl, by decide +kernel, by decide +kernel⟩
abbrev s_law : Stmt := topS 29
abbrev N_law : List Str := ["_law_script", "_law_box", "_law_turn", "_law_event", "_law_text", "_law_other", "_law_told", "_law_message", "_law_bad"]
theorem sc_law : FnScope N_law ["_law_script"] (defScope s_law) := ⟨rfl, rfl, rfl, by decide +kernel, rfl, by decide +kernel, by decide +kernel⟩
def cs_CARRIED : Str := "carried"
def cs_NONE : Str := "none"
def cs_DIGITS : Str := "0123456789"
def cs_EXPORT : Str := "export"
def cs_RETURN : Str := "return"
structure Txt (K : PySem.W.Frag) (mg : Str → Option Value) : Prop where
  n_all : mg "all" = none
  n_any : mg "any" = none
  n_int : mg "int" = none
  n_isinstance : mg "isinstance" = none
  n_len : mg "len" = none
  n_range : mg "range" = none
  n_repr : mg "repr" = none
  n_sorted : mg "sorted" = none
  n_str : mg "str" = none
  n_tuple : mg "tuple" = none
  n_zip : mg "zip" = none
  c_CARRIED : CoS mg "CARRIED" cs_CARRIED
  c_NONE : CoS mg "NONE" cs_NONE
  c_FIGURES_MOST : CoI mg "FIGURES_MOST" 5
  c_DIGITS : CoS mg "DIGITS" cs_DIGITS
  c_CARRIED_MOST : CoI mg "CARRIED_MOST" 4
  c_EXPORT : CoS mg "EXPORT" cs_EXPORT
  c_RETURN : CoS mg "RETURN" cs_RETURN
  d__message_words : DefAt K mg "_message_words" s__message_words
  d__words : DefAt K mg "_words" s__words
  d_write_event : DefAt K mg "write_event" s_write_event
  d__read_number : DefAt K mg "_read_number" s__read_number
  d__read_numbers : DefAt K mg "_read_numbers" s__read_numbers
  d__rises : DefAt K mg "_rises" s__rises
  d__read_carried : DefAt K mg "_read_carried" s__read_carried
  d__read_receive : DefAt K mg "_read_receive" s__read_receive
  d__read_remove : DefAt K mg "_read_remove" s__read_remove
  d__read_write : DefAt K mg "_read_write" s__read_write
  d__read_plain : DefAt K mg "_read_plain" s__read_plain
  d_read_event : DefAt K mg "read_event" s_read_event
  d__law_cell : DefAt K mg "_law_cell" s__law_cell
  d__law_digits : DefAt K mg "_law_digits" s__law_digits
  d__law_draw : DefAt K mg "_law_draw" s__law_draw
  d__law_alike : DefAt K mg "_law_alike" s__law_alike
  d__law_event_text : DefAt K mg "_law_event_text" s__law_event_text
  d__law_any_event : DefAt K mg "_law_any_event" s__law_any_event
  d__law_rank : DefAt K mg "_law_rank" s__law_rank
  d__law_spoilt : DefAt K mg "_law_spoilt" s__law_spoilt
  d_law : DefAt K mg "law" s_law
end
section
open PySem PySem.Spec PyProof.Rows L2
variable {P : Program} {w : World} {K : PySem.W.Frag} {mg : Str → Option Value} {base : Heap}
/-! ### the head by one run: facts by names -/
def hNext (g : Addr → Option Obj) (a : Addr) : List Addr := match g a with
  | some ⟨_, _, .cls cd, _⟩ => [cd.ns]
  | some ⟨_, _, .func fd, _⟩ => He.refV fd.code
  | some ⟨_, _, .dict es _, _⟩ => es.toList.flatMap fun e => He.refV e.val
  | _ => []
def hAs (g : Addr → Option Obj) : List Addr := mainGlobals :: ((hNext g mainGlobals) ++ (((hNext g mainGlobals).flatMap (hNext g)) ++ ((((hNext g mainGlobals).flatMap (hNext g)).flatMap (hNext g)) ++ ((((hNext g mainGlobals).flatMap (hNext g)).flatMap (hNext g)).flatMap (hNext g)))))
def hK (g : Addr → Option Obj) : PySem.W.Frag := He.frG g (hAs g)
def hkW (fa : List He.Fa) (fn : List He.FnD) (ex : List (PySem.W.Frag → Bool)) : PySem.W.Hook where
  α := He.Al × Bool
  obs := fun s => (He.obsE fa fn (hK s.heap.get?), ex.all fun p => p (hK s.heap.get?))
  val := fun _ => (He.valE fn, true)
  says := fun _ h => ∃ K : PySem.W.Frag, K.In h ∧ He.SaysE fa fn K ∧ (ex.all fun p => p K) = true
  of := fun _ s e => ⟨hK s.heap.get?, He.frG_in, congrArg (fun z : He.Al × Bool => z.1) e, congrArg (fun z : He.Al × Bool => z.2) e⟩
  keeps := fun _ _ _ ⟨K, hK, c⟩ k => ⟨K, PySem.W.Frag.In.keeps hK k, c⟩
def obW (fa : List He.Fa) (fn : List He.FnD) (ex : List (PySem.W.Frag → Bool)) (s : PySem.W.SharedT) : He.Al × Bool := (He.obsE fa fn (hK (HandSHeadRun.getT s)), ex.all fun p => p (hK (HandSHeadRun.getT s)))
theorem obW_eq {fa : List He.Fa} {fn : List He.FnD} {ex : List (PySem.W.Frag → Bool)} (s : PySem.W.SharedT) : obW fa fn ex s = (hkW fa fn ex).obs s.abs := by
  have e : HandSHeadRun.getT s = s.abs.heap.get? := funext (HandSHeadRun.getT_eq s)
  unfold obW
  rw [e] <;> rfl
theorem exAt {ex : List (PySem.W.Frag → Bool)} {K : PySem.W.Frag} (h : (ex.all fun p => p K) = true) (i : Nat) {p : PySem.W.Frag → Bool} (hp : ex[i]? = some p) : p K = true := List.all_eq_true.mp h p (List.mem_of_getElem? hp)
/-- own exceptions with a field -/
def oexB (K : PySem.W.Frag) (C : Addr) : Bool := match K.lookup C with
  | some ⟨.type t, _, .cls cd, sl⟩ => decide (t = "type") && (match cd.mro, sl.toList with
    | .ref C' :: bm, [_, _, _, _, some (.builtin n), _] => decide (C' = C) && (decide (n = "ValueError.__new__") && (cd.hasDict && (!cd.hasDel && PySem.HandSPX.refsVE bm)))
    | _, _ => false)
  | _ => false
theorem oexB_ok {K : PySem.W.Frag} {C : Addr} (h : oexB K C = true) : ∃ nm q N bs bm sn sub ab col dd k0 k1 k2 k3 k5, K.lookup C = some (excClassObj nm q C N bs bm true sn sub ab col dd k0 k1 k2 k3 k5 "ValueError.__new__") ∧ PySem.HandSPX.refsVE bm = true := by
  unfold oexB at h
  cases e : K.lookup C with
  | none => rw [e] at h; cases h
  | some o =>
    obtain ⟨oc, od, dt, sl⟩ := o
    rw [e] at h
    cases oc with
    | type t =>
      cases dt with
      | cls cd =>
        obtain ⟨c1, c2, c3, c4, c5, c6, c7, c8, c9, c10, c11⟩ := cd
        obtain ⟨h1, h2⟩ := He.ba h
        have ht : t = "type" := of_decide_eq_true h1
        subst ht
        cases c3 with
        | nil => cases h2
        | cons m0 bm =>
          cases m0 with
          | ref C' =>
            obtain ⟨sl⟩ := sl
            match sl, h2 with
            | [a0, a1, a2, a3, some (.builtin n), a5], h2 =>
              obtain ⟨h3, h4⟩ := He.ba h2
              obtain ⟨h5, h6⟩ := He.ba h4
              obtain ⟨h7, h8⟩ := He.ba h6
              obtain ⟨h9, h10⟩ := He.ba h8
              have e1 : C' = C := of_decide_eq_true h3
              have e2 : n = "ValueError.__new__" := of_decide_eq_true h5
              have e3 : c6 = true := h7
              have e4 : c11 = false := by
                have h9 : (!c11) = true := h9
                cases c11 with
                | true => cases h9
                | false => rfl
              subst e1 e2 e3 e4
              exact ⟨_, _, _, _, _, _, _, _, _, _, _, _, _, _, _, rfl, h10⟩
          | _ => cases h2
      | _ => cases h
    | _ => cases dt <;> cases h
def excAtB (x fld : Str) (K : PySem.W.Frag) : Bool := oexB K (He.ga K x) && (He.eqO (PySem.W.findIn K (.ref (He.ga K x)) "__setattr__") (some (some (.builtin "object.__setattr__"))) && (decide (PySem.W.subIn K (.ref (He.ga K x)) (.type "BaseException") = some true) && (decide (PySem.W.typeIn K (.ref (He.ga K x)) = some (.type "type")) && (PySem.W.keepIn K (.ref (He.ga K x)) && (He.eqO (PySem.W.findIn K (.ref (He.ga K x)) fld) (some none) && (xfB K (He.ga K x) && (He.eqO (PySem.W.findIn K (.ref (He.ga K x)) "__init__") (some (some (.ref (He.ma K (He.ga K x) "__init__")))) && (decide (PySem.W.typeIn K (.ref (He.ma K (He.ga K x) "__init__")) = some (.type "function")) && PySem.W.keepIn K (.ref (He.ma K (He.ga K x) "__init__"))))))))))
theorem excAtB_ok {K : PySem.W.Frag} {x fld : Str} (h : excAtB x fld K = true) : OexC K (He.ga K x) ∧ NoAttr K (He.ga K x) fld ∧ XfC K (He.ga K x) ∧ PySem.W.findIn K (.ref (He.ga K x)) "__init__" = some (some (.ref (He.ma K (He.ga K x) "__init__"))) ∧ PySem.W.typeIn K (.ref (He.ma K (He.ga K x) "__init__")) = some (.type "function") ∧ PySem.W.keepIn K (.ref (He.ma K (He.ga K x) "__init__")) = true := by
  obtain ⟨h1, h⟩ := He.ba h
  obtain ⟨h2, h⟩ := He.ba h
  obtain ⟨h3, h⟩ := He.ba h
  obtain ⟨h4, h⟩ := He.ba h
  obtain ⟨h5, h⟩ := He.ba h
  obtain ⟨h6, h⟩ := He.ba h
  obtain ⟨h7, h⟩ := He.ba h
  obtain ⟨h8, h⟩ := He.ba h
  obtain ⟨h9, h10⟩ := He.ba h
  exact ⟨⟨oexB_ok h1, He.eqO_ok h2, of_decide_eq_true h3, of_decide_eq_true h4, h5⟩, He.eqO_ok h6, xfB_ok h7, He.eqO_ok h8, of_decide_eq_true h9, h10⟩
def excPlB (x : Str) (K : PySem.W.Frag) : Bool := PySem.W.excIn K (He.ga K x) PySem.HandSPX.veTail "ValueError.__new__" && (PySem.W.keepIn K (.ref (He.ga K x)) && (decide (PySem.W.subIn K (.ref (He.ga K x)) (.type "BaseException") = some true) && decide (PySem.W.typeIn K (.ref (He.ga K x)) = some (.type "type"))))
theorem excPlB_ok {K : PySem.W.Frag} {x : Str} (h : excPlB x K = true) : PySem.W.excIn K (He.ga K x) PySem.HandSPX.veTail "ValueError.__new__" = true ∧ PySem.W.keepIn K (.ref (He.ga K x)) = true ∧ PySem.W.subIn K (.ref (He.ga K x)) (.type "BaseException") = some true ∧ PySem.W.typeIn K (.ref (He.ga K x)) = some (.type "type") := by
  obtain ⟨h1, h⟩ := He.ba h
  obtain ⟨h2, h⟩ := He.ba h
  obtain ⟨h3, h4⟩ := He.ba h
  exact ⟨h1, h2, of_decide_eq_true h3, of_decide_eq_true h4⟩
def exmB (x y : Str) (b : Bool) (K : PySem.W.Frag) : Bool := decide (PySem.W.subIn K (.ref (He.ga K y)) (.type "BaseException") = some true) && (PySem.W.hasDictIn K (He.ga K y) && (decide (PySem.W.typeIn K (.ref (He.ga K y)) = some (.type "type")) && decide (PySem.W.subIn K (.ref (He.ga K x)) (.ref (He.ga K y)) = some b)))
theorem exmB_ok {K : PySem.W.Frag} {x y : Str} {b : Bool} (h : exmB x y b K = true) : PySem.W.exmOne K (.ref (He.ga K x)) (.ref (He.ga K y)) = some b := by
  obtain ⟨h1, h⟩ := He.ba h
  obtain ⟨h2, h⟩ := He.ba h
  obtain ⟨h3, h4⟩ := He.ba h
  exact PySem.W.exm_ref (of_decide_eq_true h1) h2 (of_decide_eq_true h3) (of_decide_eq_true h4)
def ismB (x y : Str) (b : Bool) (K : PySem.W.Frag) : Bool := He.eqO (PySem.W.findIn K (.ref (He.ga K x)) "__getattribute__") (some (some (.builtin "BaseException.__getattribute__"))) && (He.eqO (PySem.W.findIn K (.ref (He.ga K x)) "__getattr__") (some none) && (decide (PySem.W.subIn K (.ref (He.ga K x)) (.type "BaseException") = some true) && (PySem.W.hasDictIn K (He.ga K x) && (He.eqO (PySem.W.findIn K (.ref (He.ga K x)) "__class__") (some (some (.builtin "object.__class__"))) && (He.eqO (PySem.W.specialIn K (.builtin "object.__class__") "__get__") (some (some (.builtin "getset_descriptor.__get__"))) && (decide (PySem.W.takesIn K (.builtin "object.__class__") = some true) && (decide (PySem.W.mroIn K (He.ga K x) (.type "object") = some true) && (PySem.W.hasDictIn K (He.ga K y) && (decide (PySem.W.typeIn K (.ref (He.ga K y)) = some (.type "type")) && (decide (PySem.W.subIn K (.ref (He.ga K x)) (.ref (He.ga K y)) = some b) && decide (PySem.W.subIn K (.ref (He.ga K y)) (.ref (He.ga K y)) = some true)))))))))))
theorem ismB_ok {K : PySem.W.Frag} {x y : Str} {b : Bool} (h : ismB x y b K = true) : ExcC K (He.ga K x) ∧ PySem.W.kitOne K (.ref (He.ga K x)) (.ref (He.ga K y)) = some b := by
  obtain ⟨h1, h⟩ := He.ba h
  obtain ⟨h2, h⟩ := He.ba h
  obtain ⟨h3, h⟩ := He.ba h
  obtain ⟨h4, h⟩ := He.ba h
  obtain ⟨h5, h⟩ := He.ba h
  obtain ⟨h6, h⟩ := He.ba h
  obtain ⟨h7, h⟩ := He.ba h
  obtain ⟨h8, h⟩ := He.ba h
  obtain ⟨h9, h⟩ := He.ba h
  obtain ⟨h10, h⟩ := He.ba h
  obtain ⟨h11, h12⟩ := He.ba h
  exact ⟨⟨He.eqO_ok h1, He.eqO_ok h2, of_decide_eq_true h3, h4, He.eqO_ok h5, He.eqO_ok h6, of_decide_eq_true h7, of_decide_eq_true h8⟩, kitOne_ref h9 (of_decide_eq_true h10) (of_decide_eq_true h11) (of_decide_eq_true h12)⟩
/-- a def of the text, its place told by a name -/
theorem fun_of {K : PySem.W.Frag} {fa : List He.Fa} {fn : List He.FnD} (c : He.SaysE fa fn K) (i : Nat) {p : Str × Option Str} {x q : Str} {st : Stmt} (h : fn[i]? = some ⟨p, x, q, defArgs st, defBody st, defScope st⟩) (k : PySem.W.keepIn K (.ref (He.fAd K p)) = true) : ∃ fd, Fun K x q st (He.fAd K p) fd := by
  obtain ⟨oc, od, osl, kV, doc, pm, an, cdv, ct, lk, cd⟩ := c.def_ i h
  exact ⟨_, fun_mk lk cd k⟩
/-- a law over such a head -/
theorem walkGE {l : PySem.W.OpenLaw} {n k : Nat} {q : Program} {loose : List Str} {XP : (Str → Option Value) → Heap → Prop} {YP : World → Heap → Prop} {d : DefRec} {x : Str}
    (hn : l.most = some n) (hn2 : n ≤ sizeLine) (hdf : d.params.defaults = []) (g : RoomG k callerA)
    (F : ∀ (w : World) (mg : Str → Option Value) (fa : Addr) (h : Heap), YP w h → h.Ns mainGlobals mg → mg d.name = some (.ref fa) →
      ∃ (K : PySem.W.Frag) (fd : FuncData) (sp : Sp), K.In h ∧ (∀ (s : Shared) (u : Value), BindsTo s fd ⟨[u], []⟩ [(x, u)]) ∧
        (∀ (H : Hp) (a : Addr) (ns : List Int), ns.length ≤ n → Only H → SqL K H a (ns.map V.int) → sp [.ref a] H (fun v _ => v = .bl true) fun _ _ _ => False) ∧
        ∀ base : Heap, K.In base → base.Ns mainGlobals mg → FnG l.prog w K mg base CX0 k fa fd [x] sp) :
    PySem.W.WalkO q loose XP YP l.row.toRowW d [] (fun f vs => PySem.call f vs) := by
  refine Att.attach_call hn hdf fun w s₀ s₁ mg mb fa o pm cd doc a vs ns G Y _ _ _ hmg obj hints len gens => ?_
  obtain ⟨K, fd, sp, KX, hb, hsp, hF⟩ := F w mg fa _ Y G.T.g hmg
  exact lawG KX G.T.g G.T.b G.T.builtins G.T.nolimit gens obj hints (Nat.le_trans len hn2) g hF hb (fun H only sq => hsp H a ns len only sq) fun H e s' => fun z => z

end
section
open PySem PySem.Spec PyProof.Rows L2
variable {P : Program} {w : World} {K : PySem.W.Frag} {mg : Str → Option Value} {base : Heap}
abbrev hR : PySem.W.OpenRow := PySem.W.OpenLaw.row PySem.Challenge.rw_keptbywitness_k45_events_written_and_rea
def hNames_0 : List (Str) := [("CARRIED_MOST" : Str),
  ("EXPORT" : Str),
  ("RETURN" : Str),
  ("DIGITS" : Str),
  ("FIGURES_MOST" : Str),
  ("CARRIED" : Str),
  ("NONE" : Str),
  ("_message_words" : Str),
  ("_words" : Str),
  ("write_event" : Str),
  ("_read_number" : Str),
  ("_read_numbers" : Str),
  ("_rises" : Str),
  ("_read_carried" : Str),
  ("_read_receive" : Str),
  ("_read_remove" : Str),
  ("_read_write" : Str),
  ("_read_plain" : Str),
  ("read_event" : Str),
  ("_law_cell" : Str),
  ("_law_digits" : Str),
  ("_law_draw" : Str),
  ("_law_alike" : Str),
  ("_law_event_text" : Str),
  ("_law_any_event" : Str),
  ("_law_rank" : Str),
  ("_law_spoilt" : Str)]
def hNames : List (Str) := hNames_0
def hFa_0 : List (He.Fa) := [.free "all",
  .free "any",
  .free "int",
  .free "isinstance",
  .free "len",
  .free "range",
  .free "repr",
  .free "sorted",
  .free "str",
  .free "tuple",
  .free "zip",
  .str "CARRIED" cs_CARRIED,
  .str "NONE" cs_NONE,
  .int "FIGURES_MOST" 5,
  .str "DIGITS" cs_DIGITS,
  .int "CARRIED_MOST" 4,
  .str "EXPORT" cs_EXPORT,
  .str "RETURN" cs_RETURN,
  .keep "_message_words",
  .glo "_message_words",
  .keep "_words",
  .glo "_words",
  .keep "write_event",
  .glo "write_event",
  .keep "_read_number",
  .glo "_read_number",
  .keep "_read_numbers",
  .glo "_read_numbers",
  .keep "_rises",
  .glo "_rises",
  .keep "_read_carried",
  .glo "_read_carried",
  .keep "_read_receive",
  .glo "_read_receive",
  .keep "_read_remove",
  .glo "_read_remove",
  .keep "_read_write",
  .glo "_read_write"]
def hFa_1 : List (He.Fa) := [.keep "_read_plain",
  .glo "_read_plain",
  .keep "read_event",
  .glo "read_event",
  .keep "_law_cell",
  .glo "_law_cell",
  .keep "_law_digits",
  .glo "_law_digits",
  .keep "_law_draw",
  .glo "_law_draw",
  .keep "_law_alike",
  .glo "_law_alike",
  .keep "_law_event_text",
  .glo "_law_event_text",
  .keep "_law_any_event",
  .glo "_law_any_event",
  .keep "_law_rank",
  .glo "_law_rank",
  .keep "_law_spoilt",
  .glo "_law_spoilt",
  .keep "law",
  .glo "law"]
def hFa : List (He.Fa) := hFa_0 ++ hFa_1
def hFn_0 : List (He.FnD) := [⟨("_message_words", none), "_message_words", "_message_words", defArgs s__message_words, defBody s__message_words, defScope s__message_words⟩,
  ⟨("_words", none), "_words", "_words", defArgs s__words, defBody s__words, defScope s__words⟩,
  ⟨("write_event", none), "write_event", "write_event", defArgs s_write_event, defBody s_write_event, defScope s_write_event⟩,
  ⟨("_read_number", none), "_read_number", "_read_number", defArgs s__read_number, defBody s__read_number, defScope s__read_number⟩,
  ⟨("_read_numbers", none), "_read_numbers", "_read_numbers", defArgs s__read_numbers, defBody s__read_numbers, defScope s__read_numbers⟩,
  ⟨("_rises", none), "_rises", "_rises", defArgs s__rises, defBody s__rises, defScope s__rises⟩,
  ⟨("_read_carried", none), "_read_carried", "_read_carried", defArgs s__read_carried, defBody s__read_carried, defScope s__read_carried⟩,
  ⟨("_read_receive", none), "_read_receive", "_read_receive", defArgs s__read_receive, defBody s__read_receive, defScope s__read_receive⟩,
  ⟨("_read_remove", none), "_read_remove", "_read_remove", defArgs s__read_remove, defBody s__read_remove, defScope s__read_remove⟩,
  ⟨("_read_write", none), "_read_write", "_read_write", defArgs s__read_write, defBody s__read_write, defScope s__read_write⟩,
  ⟨("_read_plain", none), "_read_plain", "_read_plain", defArgs s__read_plain, defBody s__read_plain, defScope s__read_plain⟩,
  ⟨("read_event", none), "read_event", "read_event", defArgs s_read_event, defBody s_read_event, defScope s_read_event⟩,
  ⟨("_law_cell", none), "_law_cell", "_law_cell", defArgs s__law_cell, defBody s__law_cell, defScope s__law_cell⟩,
  ⟨("_law_digits", none), "_law_digits", "_law_digits", defArgs s__law_digits, defBody s__law_digits, defScope s__law_digits⟩,
  ⟨("_law_draw", none), "_law_draw", "_law_draw", defArgs s__law_draw, defBody s__law_draw, defScope s__law_draw⟩,
  ⟨("_law_alike", none), "_law_alike", "_law_alike", defArgs s__law_alike, defBody s__law_alike, defScope s__law_alike⟩,
  ⟨("_law_event_text", none), "_law_event_text", "_law_event_text", defArgs s__law_event_text, defBody s__law_event_text, defScope s__law_event_text⟩,
  ⟨("_law_any_event", none), "_law_any_event", "_law_any_event", defArgs s__law_any_event, defBody s__law_any_event, defScope s__law_any_event⟩,
  ⟨("_law_rank", none), "_law_rank", "_law_rank", defArgs s__law_rank, defBody s__law_rank, defScope s__law_rank⟩,
  ⟨("_law_spoilt", none), "_law_spoilt", "_law_spoilt", defArgs s__law_spoilt, defBody s__law_spoilt, defScope s__law_spoilt⟩,
  ⟨("law", none), "law", "law", defArgs s_law, defBody s_law, defScope s_law⟩]
def hFn : List (He.FnD) := hFn_0
def hEx : List (PySem.W.Frag → Bool) := []
set_option maxHeartbeats 0 in
theorem hRun (w : World) : HandSHeadRun.RunEq hR (PySem.W.view hR.prog [29]) (hkW hFa hFn hEx) (obW hFa hFn hEx) 40000 hNames w := by
  intro os
  kernel_rfl
end
section
open PySem PySem.Spec PyProof.Rows L2
variable {P : Program} {w : World} {K : PySem.W.Frag} {mg : Str → Option Value} {base : Heap}
/-! ### the written form of an event, walked -/
def NS (n : Int) : Prop := 0 ≤ n ∧ n < 10 ^ 18
theorem NS.log {n : Int} (h : NS n) : n.natAbs.log2 < 1920 := by
  by_cases e : n.natAbs = 0
  · rw [e]; decide
  · rw [Nat.log2_lt e]
    have h2 := h.2
    have h1 := h.1
    have : n.natAbs < 10 ^ 18 := by omega
    exact Nat.lt_of_lt_of_le this (Nat.le_trans (by decide : 10 ^ 18 ≤ 2 ^ 64) (Nat.pow_le_pow_right (by decide) (by decide)))
theorem NS.len {n : Int} (h : NS n) : (numS n).length ≤ 18 := by
  obtain ⟨k, rfl, e⟩ := numS_nat h.1
  rw [TL.len_tl, e]
  exact TL.numL_len (by decide) (by have := h.2; omega)
theorem Nb.ns {n : Int} (h : Nb n) : NS n := ⟨h.1, by have := h.2; omega⟩
def MsgM.tsz (m : MsgM) : Prop := NS m.sender ∧ NS m.number ∧ NS m.seen ∧ (∀ e ∈ m.held, NS e) ∧ (∀ c ∈ m.carried, NS c.2) ∧ m.held.length ≤ 1000 ∧ m.carried.length ≤ 1000
def Ev.tsz : Ev → Prop
  | .make n => NS n
  | .read r f => NS r ∧ NS f
  | .write r f o => NS r ∧ NS f ∧ ∀ i, o = some i → NS i
  | .drop r => NS r
  | .send to rs => NS to ∧ (∀ r ∈ rs, NS r) ∧ rs.length ≤ 1000
  | .receive m => m.tsz
  | .collect => True
  | .report => True
  | .remove es => (∀ e ∈ es, NS e.1 ∧ NS e.2) ∧ es.length ≤ 1000
def ShortW (ws : List Str) : Prop := ws.length ≤ 8000 ∧ ∀ z ∈ ws, z.length ≤ 18
theorem shortNums {ns : List Int} (h : ∀ n ∈ ns, NS n) : ∀ z ∈ ns.map numS, z.length ≤ 18 := fun z hz => by
  obtain ⟨n, hn, rfl⟩ := List.mem_map.mp hz
  exact (h n hn).len
theorem kind_len (b : Bool) : (kindS b).length ≤ 18 := by cases b <;> decide +kernel
theorem MsgM.tsz.short {m : MsgM} (h : m.tsz) : m.wordsS.length ≤ 3010 ∧ ∀ z ∈ m.wordsS, z.length ≤ 18 := by
  obtain ⟨h1, h2, h3, h4, h5, h6, h7⟩ := h
  refine ⟨?_, fun z hz => ?_⟩
  · unfold MsgM.wordsS
    rw [List.length_append, List.length_append, List.length_append, List.length_map, carW_len]
    simp only [List.length_cons, List.length_nil]
    omega
  · have hz : z ∈ [numS m.sender, numS m.number, numS m.seen] ++ m.held.map numS ++ [("carried" : Str)] ++ carW m.carried := hz
    rcases List.mem_append.mp hz with hz | hz
    · rcases List.mem_append.mp hz with hz | hz
      · rcases List.mem_append.mp hz with hz | hz
        · exact shortNums (ns := [m.sender, m.number, m.seen]) (fun n hn => by simp only [List.mem_cons, List.not_mem_nil, or_false] at hn; rcases hn with rfl | rfl | rfl <;> first | exact h1 | exact h2 | exact h3) z hz
        · exact shortNums h4 z hz
      · rw [List.mem_singleton.mp hz]; decide +kernel
    · obtain ⟨l, hl, hz⟩ := List.mem_flatten.mp hz
      obtain ⟨c, hc, rfl⟩ := List.mem_map.mp hl
      rcases List.mem_cons.mp hz with rfl | hz
      · exact kind_len _
      · rw [List.mem_singleton.mp hz]; exact (h5 c hc).len
theorem pairW_len (cs : List (Int × Int)) : (pairW cs).length = 2 * cs.length := by
  induction cs with
  | nil => rfl
  | cons c cs ih => rw [pairW_cons, List.length_cons, List.length_cons, ih, List.length_cons]; omega
theorem Ev.tsz.short {e : Ev} (h : e.tsz) : ShortW e.restS := by
  cases e with
  | make n => exact ⟨(by show 1 ≤ 8000; decide), shortNums (ns := [n]) fun m hm => by rw [List.mem_singleton.mp hm]; exact h⟩
  | read r f => exact ⟨(by show 2 ≤ 8000; decide), shortNums (ns := [r, f]) fun m hm => by simp only [List.mem_cons, List.not_mem_nil, or_false] at hm; rcases hm with rfl | rfl <;> first | exact h.1 | exact h.2⟩
  | write r f o =>
    refine ⟨(by show 3 ≤ 8000; decide), fun z hz => ?_⟩
    have hz : z ∈ [numS r, numS f, otherS o] := hz
    simp only [List.mem_cons, List.not_mem_nil, or_false] at hz
    rcases hz with rfl | rfl | rfl
    · exact h.1.len
    · exact h.2.1.len
    · cases o with
      | none => decide +kernel
      | some i => exact (h.2.2 i rfl).len
  | drop n => exact ⟨(by show 1 ≤ 8000; decide), shortNums (ns := [n]) fun m hm => by rw [List.mem_singleton.mp hm]; exact h⟩
  | send to rs =>
    have := h.2.2
    exact ⟨by show ([numS to] ++ rs.map numS).length ≤ 8000; rw [List.length_append, List.length_map]; simp only [List.length_cons, List.length_nil]; omega,
      shortNums (ns := to :: rs) fun m hm => by rcases List.mem_cons.mp hm with rfl | hm <;> first | exact h.1 | exact h.2.1 m hm⟩
  | receive m => exact ⟨Nat.le_trans (MsgM.tsz.short h).1 (by decide), (MsgM.tsz.short h).2⟩
  | collect => exact ⟨(by show 0 ≤ 8000; decide), fun _ h => nomatch h⟩
  | report => exact ⟨(by show 0 ≤ 8000; decide), fun _ h => nomatch h⟩
  | remove es =>
    refine ⟨by show (pairW es).length ≤ 8000; rw [pairW_len]; have := h.2; omega, fun z hz => ?_⟩
    obtain ⟨l, hl, hz⟩ := List.mem_flatten.mp hz
    obtain ⟨e, he, rfl⟩ := List.mem_map.mp hl
    rcases List.mem_cons.mp hz with rfl | hz
    · exact (h.1 e he).1.len
    · rw [List.mem_singleton.mp hz]; exact (h.1 e he).2.len
theorem sum_short : ∀ {ws : List Str}, (∀ z ∈ ws, z.length ≤ 18) → (ws.map (·.length)).sum ≤ 18 * ws.length
  | [], _ => Nat.le_refl _
  | w :: ws, h => by
    have h1 := h w List.mem_cons_self
    have h2 := sum_short (ws := ws) fun z hz => h z (List.mem_cons_of_mem _ hz)
    rw [List.map_cons, List.sum_cons, List.length_cons]
    omega
theorem Ev.tsz.all {e : Ev} (h : e.tsz) : (([e.wordS] ++ e.restS).map (·.length)).sum + ([e.wordS] ++ e.restS).length * 1 ≤ 16777216 := by
  obtain ⟨h1, h2⟩ := h.short
  have hw : e.wordS.length ≤ 18 := by
    have q : ∀ z ∈ (["make", "read", "write", "drop", "send", "receive", "collect", "report", "remove"] : List Str), z.length ≤ 18 := by decide +kernel
    cases e with
    | make _ => exact q "make" (by decide +kernel)
    | read _ _ => exact q "read" (by decide +kernel)
    | write _ _ _ => exact q "write" (by decide +kernel)
    | drop _ => exact q "drop" (by decide +kernel)
    | send _ _ => exact q "send" (by decide +kernel)
    | receive _ => exact q "receive" (by decide +kernel)
    | collect => exact q "collect" (by decide +kernel)
    | report => exact q "report" (by decide +kernel)
    | remove _ => exact q "remove" (by decide +kernel)
  have h3 : ∀ z ∈ [e.wordS] ++ e.restS, z.length ≤ 18 := fun z hz => by
    rcases List.mem_append.mp hz with hz | hz
    · rw [List.mem_singleton.mp hz]; exact hw
    · exact h2 z hz
  have := sum_short h3
  rw [List.length_append] at this ⊢
  have : [e.wordS].length = 1 := rfl
  omega
theorem ints_at {ns : List Int} {i : Nat} {x y : V} (hx : (ns.map V.int)[i]? = some x) (hy : (ns.map fun n => V.str (numS n))[i]? = some y) : ∃ n, x = .int n ∧ y = .str (numS n) ∧ n ∈ ns := by
  rw [List.getElem?_map] at hx hy
  obtain ⟨n, hn, rfl⟩ := Option.map_eq_some_iff.mp hx
  rw [hn] at hy
  exact ⟨n, rfl, (Option.some.inj hy).symm, List.mem_of_getElem? hn⟩
/-- [str(x) for x in a tuple of ints] -/
theorem strs_tup {K : PySem.W.Frag} {a D : Addr} {ns : List Int} {g : TG} {tt : TT} {te : TE} {vs : List Nat} {σ : L2.St} {H1 : Hp} {Qd : Hp → Prop} (hS : SqT K H1 a (ns.map V.int)) (hl : ns.length ≤ 20000) (hD : H1 D = none)
    (elem : ∀ (n : Int) (H2 : Hp) (R : VK) (Z : Hp → Prop), n ∈ ns → R (.str (numS n)) H2 → g (.int n) (wipe σ vs) H2 fun σ2 H2 => wipe σ2 vs = wipe σ vs ∧ tt σ2 H2 fun b H3 => if b = true then te σ2 H3 R else Z H3)
    (hd : ∀ H', Same H1 H' → H' D = some (.lst (ns.map fun n => V.str (numS n))) → Qd H') :
    ∃ W : Nat → Nat → Hp → Prop, (∃ m, W 0 m (upd H1 D (.lst []))) ∧ ∀ i m H, W i m H →
      ((Itt K a).stop i H ∧ Qd H) ∨ ((Itt K a).go i H ∧ ∃ Nx : Hp → Prop, (∀ H', Nx H' → ∃ m', m' < m ∧ W (i + 1) m' H') ∧ ∀ x H', (Itt K a).yld i H x H' → g x (wipe σ vs) H' fun σ2 H2 => wipe σ2 vs = wipe σ vs ∧ tt σ2 H2 fun b H3 =>
        if b = true then te σ2 H3 fun y H4 => ∃ acc, H4 D = some (.lst acc) ∧ acc.length < sizeLine ∧ Nx (upd H4 D (.lst (acc ++ [y]))) else Nx H3) := by
  refine lc_vals (walk_tup (xs := ns.map V.int)) (ns.map fun n => V.str (numS n)) (by rw [List.length_map, List.length_map]) (by rw [List.length_map]; exact hl) hD (fun H' s => sqT_imm (Imm.same s) hS) ?_ hd
  rintro i x y H' H2 R Z hy s ⟨rfl, hx⟩ q
  obtain ⟨n, rfl, rfl, hm⟩ := ints_at hx hy
  exact elem n H2 R Z hm (q H2 (Same.refl H2))
def sp__message_words (K : PySem.W.Frag) : Sp := SpOf (fun ((v, _) : V × MsgM) => [v]) fun (v, m) H Q => Fz K H v m.data ∧ m.tsz ∧ ∀ (a : Addr) (H' : Hp), Same H H' → H' a = some (.lst (m.wordsS.map V.str)) → H a = none → Q (.ref a) H'
set_option maxHeartbeats 4000000 in
theorem ok__message_words (T : Txt K mg) : DefOk P w K mg base "_message_words" 1 ["message"] (sp__message_words K) := by
  refine DefOk.mk' T.d__message_words sc__message_words (fun _ _ _ _ _ _ us hl => match us, hl with | [_], _ => rfl) (fun _ => rfl) (fun cdv f A outer s H p Q E hr h => ?_)
  obtain ⟨v, m⟩ := p
  obtain ⟨fv, hm, k⟩ := h
  refine ⟨_, (pss_cons (ps_asg (pv 0) (gtupK (K := K) (pg_tup rfl (pgs_cons (pg_name (i := 1) sc__message_words.nd rfl (.inl rfl)) (pgs_cons (pg_name (i := 2) sc__message_words.nd rfl (.inl rfl)) (pgs_cons (pg_name (i := 3) sc__message_words.nd rfl (.inl rfl)) (pgs_cons (pg_name (i := 4) sc__message_words.nd rfl (.inl rfl)) (pgs_cons (pg_name (i := 5) sc__message_words.nd rfl (.inl rfl)) (pgs_cons (pg_name (i := 6) sc__message_words.nd rfl (.inl rfl)) pgs_nil)))))))))
    (pss_cons (ps_setLc (i := 7) (own := [("part", 10)]) (g := gName 10) (tt := tYes) rfl sc__message_words.nd rfl rfl (sw_true rfl rfl rfl (by decide +kernel)) (itupK (K := K) (pi_tup (pe_tup (pa_cons (pv 1) (pa_cons (pv 3) (pa_cons (pv 4) pa_nil)))))) (blkOk_by (own := [("part", 10)]) (N := N__message_words) (sc := defScope s__message_words) (by decide +kernel)) (fun _ _ _ _ _ => pg_name (i := 10) sc__message_words.nd rfl (.inl rfl)) (fun _ _ _ _ _ => pts_nil) (fun _ _ _ _ _ => (pe_callTy call_str_int (by rfl) T.n_str (by decide +kernel) (pa_cons (pv 10) pa_nil))))
    (pss_cons (ps_expr (bmK (K := K) (pe_bm PySem.F.plainAttrs_list PySem.F.slot_list_extend PySem.F.type_list_extend  mt_extend (pv 7) (pa_cons (pe_lc (own := [("entry", 8)]) (g := gName 8) (tt := tYes) rfl sc__message_words.nd (itupK (K := K) (pi_tup (pv 5))) (blkOk_by (own := [("entry", 8)]) (N := N__message_words) (sc := defScope s__message_words) (by decide +kernel)) (fun _ _ _ _ _ => pg_name (i := 8) sc__message_words.nd rfl (.inl rfl)) (fun _ _ _ _ _ => pts_nil) (fun _ _ _ _ _ => (pe_callTy call_str_int (by rfl) T.n_str (by decide +kernel) (pa_cons (pv 8) pa_nil)))) pa_nil))))
    (pss_cons (ps_expr (bmK (K := K) (pe_bm PySem.F.plainAttrs_list PySem.F.slot_list_append PySem.F.type_list_append mt_append (pv 7) (pa_cons (pe_coS T.c_CARRIED rfl) pa_nil))))
    (pss_cons (ps_for PassesOwn.never rfl (itupK (K := K) (pi_tup (pv 6))) (gtupK (K := K) (pg_tup rfl (pgs_cons (pg_name (i := 9) sc__message_words.nd rfl (.inl rfl)) (pgs_cons (pg_name (i := 8) sc__message_words.nd rfl (.inl rfl)) pgs_nil))))
    (pss_one (ps_expr (bmK (K := K) (pe_bm PySem.F.plainAttrs_list PySem.F.slot_list_extend PySem.F.type_list_extend  mt_extend (pv 7) (pa_cons (pe_lst (pa_cons (pv 9) (pa_cons (pe_callTy call_str_int (by rfl) T.n_str (by decide +kernel) (pa_cons (pv 8) pa_nil)) pa_nil))) pa_nil))))))
    (pss_one (ps_ret (pv 7)))))))), ?_⟩
  obtain ⟨h1, h2, h3, h4, h5, h6, h7⟩ := id hm
  have hsh := hm.short
  obtain ⟨tm, th, tc, cs, rfl, hT, hh, hc, fc⟩ := fz_msg fv
  refine ⟨_, rfl, tm, _, rfl, hT, rfl, _, _, rfl, _, _, rfl, _, _, rfl, _, _, rfl, _, _, rfl, _, _, rfl, rfl, ?_⟩
  refine ⟨_, rfl, _, rfl, _, rfl, (by show 3 ≤ sizeLine; decide), fun p np => ⟨p, rfl, ⟨_, SqT.of upd_same⟩, fun D nD => ?_⟩⟩
  refine strs_tup (ns := [m.sender, m.number, m.seen]) (SqT.of upd_same) (by show 3 ≤ 20000; decide) nD (fun n H2 R Z hn q => ⟨rfl, _, rfl, n, rfl, ?_, q⟩) ?_
  · simp only [List.mem_cons, List.not_mem_nil, or_false] at hn
    rcases hn with rfl | rfl | rfl <;> first | exact h1.log | exact h2.log | exact h3.log
  rintro H3 s3 e3
  have nD0 : H D = none := (nws np (Same.refl H)).free nD
  have s3 : Same H H3 := (nws np (Same.refl H)).trans s3
  clear np nD
  have iS : ∀ {H' : Hp}, Same H H' → Imm H H' := fun s => Imm.same s
  -- extend by the held
  refine ⟨_, rfl, .inl ⟨rfl, _, SqL.of e3⟩, _, rfl, th, rfl, ⟨_, sqT_imm (iS s3) hh⟩, fun E nE => ?_⟩
  refine strs_tup (ns := m.held) (sqT_imm (iS s3) hh) (by omega) nE (fun n H2 R Z hn q => ⟨rfl, _, rfl, n, rfl, (h4 n hn).log, q⟩) ?_
  rintro H4 s4 e4
  refine ⟨D, E, _, _, rfl, rfl, s4 _ _ e3, e4, (by rw [List.length_map, List.length_map]; exact Nat.le_of_lt (small100k (by show 3 + m.held.length ≤ 100000; omega))), ?_⟩
  have s5 : Same H (upd H4 D (.lst (([m.sender, m.number, m.seen].map fun n => V.str (numS n)) ++ (m.held.map fun n => V.str (numS n))))) := same_mut (s3.trans s4) nD0
  have e5 : upd H4 D (.lst (([m.sender, m.number, m.seen].map fun n => V.str (numS n)) ++ (m.held.map fun n => V.str (numS n)))) D = some (.lst (([m.sender, m.number, m.seen].map fun n => V.str (numS n)) ++ (m.held.map fun n => V.str (numS n)))) := upd_same
  generalize upd H4 D (.lst (([m.sender, m.number, m.seen].map fun n => V.str (numS n)) ++ (m.held.map fun n => V.str (numS n)))) = H5 at s5 e5 ⊢
  have el : (([m.sender, m.number, m.seen].map fun n => V.str (numS n)) ++ (m.held.map fun n => V.str (numS n))) = (([numS m.sender, numS m.number, numS m.seen] ++ m.held.map numS).map V.str) := by
    rw [List.map_append, List.map_map]
    rfl
  rw [el] at e5
  refine ⟨_, rfl, .inl ⟨rfl, _, SqL.of e5⟩, D, _, _, rfl, rfl, e5, (by rw [List.length_map, List.length_append, List.length_map]; exact small100k (by show 3 + m.held.length ≤ 100000; omega)), ?_⟩
  have s6 : Same H (upd H5 D (.lst ((([numS m.sender, numS m.number, numS m.seen] ++ m.held.map numS).map V.str) ++ [V.str cs_CARRIED]))) := same_mut s5 nD0
  have e6 : upd H5 D (.lst ((([numS m.sender, numS m.number, numS m.seen] ++ m.held.map numS).map V.str) ++ [V.str cs_CARRIED])) D = some (.lst ((([numS m.sender, numS m.number, numS m.seen] ++ m.held.map numS).map V.str) ++ [V.str cs_CARRIED])) := upd_same
  generalize upd H5 D (.lst ((([numS m.sender, numS m.number, numS m.seen] ++ m.held.map numS).map V.str) ++ [V.str cs_CARRIED])) = H6 at s6 e6 ⊢
  refine ⟨_, rfl, tc, rfl, ⟨_, sqT_imm (iS s6) hc⟩, for_tup (xs := cs) (fun i σ H' => ∃ v8 v9, σ = [some (.ref tm), some (.int m.sender), some (.int m.receiver), some (.int m.number), some (.int m.seen), some (.ref th), some (.ref tc), some (.ref D), v8, v9, none] ∧
    Same H H' ∧ H' D = some (.lst (([numS m.sender, numS m.number, numS m.seen] ++ m.held.map numS ++ [("carried" : Str)] ++ carW (m.carried.take i)).map V.str))) ⟨none, none, rfl, s6, ?_⟩ (fun i σ H' _ ⟨_, _, _, s, _⟩ => sqT_imm (iS s) hc) ?_ ?_⟩
  · rw [e6, List.take_zero]
    show _ = some (HO.lst ((([numS m.sender, numS m.number, numS m.seen] ++ m.held.map numS) ++ [("carried" : Str)] ++ []).map V.str))
    rw [List.append_nil, List.map_append (l₂ := [("carried" : Str)])]
    rfl
  · rintro i u σ H' hu ⟨v8, v9, rfl, s, e⟩
    obtain ⟨dd, hd, fd⟩ := (fc.imm (iS s)).getV hu
    rw [List.getElem?_map] at hd
    obtain ⟨c, hcc, rfl⟩ := Option.map_eq_some_iff.mp hd
    obtain ⟨t, rfl, ht⟩ := fz_car fd
    refine ⟨t, _, rfl, ht, rfl, _, _, rfl, _, _, rfl, rfl, ?_⟩
    refine ⟨_, rfl, .inl ⟨rfl, _, SqL.of e⟩, _, rfl, _, rfl, c.2, rfl, (h5 c (List.mem_of_getElem? hcc)).log, (by show 2 ≤ sizeLine; decide), fun q nq => ?_⟩
    refine ⟨D, q, _, _, rfl, rfl, nw nq e, upd_same, ?_, ?_⟩
    · have hcl : (m.carried.take i).length ≤ 1000 := by rw [List.length_take]; omega
      refine Nat.le_of_lt (small100k ?_)
      rw [List.length_map, List.length_append, List.length_append, List.length_append, List.length_map, carW_len]
      simp only [List.length_cons, List.length_nil]
      omega
    · refine ⟨_, _, rfl, same_mut (nws nq s) nD0, ?_⟩
      rw [upd_same, List.take_add_one, hcc]
      show _ = some (HO.lst ((([numS m.sender, numS m.number, numS m.seen] ++ m.held.map numS) ++ [("carried" : Str)] ++ carW (m.carried.take i ++ [c])).map V.str))
      rw [show carW (m.carried.take i ++ [c]) = carW (m.carried.take i) ++ [kindS c.1, numS c.2] by unfold carW; rw [List.map_append, List.flatten_append]; rfl, ← List.append_assoc, List.map_append (l₂ := [kindS c.1, numS c.2])]
      rfl
  · rintro σ H' ⟨v8, v9, rfl, s, e⟩
    have hcl : cs.length = m.carried.length := by rw [fc.length, List.length_map]
    rw [hcl, List.take_length] at e
    exact ⟨_, rfl, k D H' s e nD0⟩

end
section
open PySem PySem.Spec PyProof.Rows L2
variable {P : Program} {w : World} {K : PySem.W.Frag} {mg : Str → Option Value} {base : Heap}
/-! ### the words of an event -/
def optV : Option Int → V
  | none => .non
  | some i => .int i
/-- the values behind the word of an event -/
def EvR (K : PySem.W.Frag) (H : Hp) (vs : List V) : Ev → Prop
  | .make n => vs = [.int n]
  | .read r f => vs = [.int r, .int f]
  | .write r f o => vs = [.int r, .int f, optV o]
  | .drop r => vs = [.int r]
  | .send to rs => ∃ u, vs = [.int to, .ref u] ∧ SqT K H u (rs.map V.int)
  | .receive m => ∃ u, vs = [u] ∧ Fz K H u m.data
  | .collect => vs = []
  | .report => vs = []
  | .remove es => ∃ u us, vs = [.ref u] ∧ SqT K H u us ∧ FzAll K H us (es.map pairD)
theorem fz_one {K : PySem.W.Frag} {H : Hp} {vs : List V} {i : Int} (h : FzAll K H vs [.int i]) : vs = [.int i] := fz_ints_inv (ns := [i]) h
theorem fz_evR {K : PySem.W.Frag} {H : Hp} {v : V} {e : Ev} (h : Fz K H v e.data) : ∃ t vs, v = .ref t ∧ SqT K H t (.str e.wordS :: vs) ∧ EvR K H vs e := by
  cases e with
  | make n =>
    obtain ⟨t, vs, rfl, h1, h2⟩ := fz_tup (show Fz K H v (.tuple [.str "make", .int n]) from h)
    cases h2 with
    | cons a b =>
      cases a
      exact ⟨t, _, rfl, h1, fz_ints_inv (ns := [n]) b⟩
  | read r f =>
    obtain ⟨t, vs, rfl, h1, h2⟩ := fz_tup (show Fz K H v (.tuple [.str "read", .int r, .int f]) from h)
    cases h2 with
    | cons a b =>
      cases a
      exact ⟨t, _, rfl, h1, fz_ints_inv (ns := [r, f]) b⟩
  | write r f o =>
    obtain ⟨t, vs, rfl, h1, h2⟩ := fz_tup (show Fz K H v (.tuple [.str "write", .int r, .int f, optD o]) from h)
    cases h2 with
    | cons a b => cases a; cases b with
      | cons a b => cases a; cases b with
        | cons a b => cases a; cases b with
          | cons a b =>
            cases b
            refine ⟨t, _, rfl, h1, ?_⟩
            cases o with
            | none => cases a; rfl
            | some i => cases a; rfl
  | drop n =>
    obtain ⟨t, vs, rfl, h1, h2⟩ := fz_tup (show Fz K H v (.tuple [.str "drop", .int n]) from h)
    cases h2 with
    | cons a b =>
      cases a
      exact ⟨t, _, rfl, h1, fz_ints_inv (ns := [n]) b⟩
  | send to rs =>
    obtain ⟨t, vs, rfl, h1, h2⟩ := fz_tup (show Fz K H v (.tuple [.str "send", .int to, .tuple (rs.map .int)]) from h)
    cases h2 with
    | cons a b => cases a; cases b with
      | cons a b => cases a; cases b with
        | cons a b =>
          cases b
          obtain ⟨u, rfl, hu⟩ := fz_intsT a
          exact ⟨t, _, rfl, h1, u, rfl, hu⟩
  | receive m =>
    obtain ⟨t, vs, rfl, h1, h2⟩ := fz_tup (show Fz K H v (.tuple [.str "receive", m.data]) from h)
    cases h2 with
    | cons a b => cases a; cases b with
      | cons a b =>
        cases b
        exact ⟨t, _, rfl, h1, _, rfl, a⟩
  | collect =>
    obtain ⟨t, vs, rfl, h1, h2⟩ := fz_tup (show Fz K H v (.tuple [.str "collect"]) from h)
    cases h2 with
    | cons a b =>
      cases a
      cases b
      exact ⟨t, _, rfl, h1, rfl⟩
  | report =>
    obtain ⟨t, vs, rfl, h1, h2⟩ := fz_tup (show Fz K H v (.tuple [.str "report"]) from h)
    cases h2 with
    | cons a b =>
      cases a
      cases b
      exact ⟨t, _, rfl, h1, rfl⟩
  | remove es =>
    obtain ⟨t, vs, rfl, h1, h2⟩ := fz_tup (show Fz K H v (.tuple [.str "remove", .tuple (es.map pairD)]) from h)
    cases h2 with
    | cons a b => cases a; cases b with
      | cons a b =>
        cases b
        obtain ⟨u, us, rfl, hu, hf⟩ := fz_tup a
        exact ⟨t, _, rfl, h1, u, us, rfl, hu, hf⟩
def Ev.isPlain : Ev → Bool
  | .send _ _ => false
  | .receive _ => false
  | .remove _ => false
  | _ => true
def PartV (x y : V) : Prop := (∃ n, x = .int n ∧ NS n ∧ y = .str (numS n)) ∨ (x = .non ∧ y = .str "none")
theorem part_int {n : Int} (h : NS n) : PartV (.int n) (.str (numS n)) := .inl ⟨n, rfl, h, rfl⟩
theorem plain_parts {K : PySem.W.Frag} {H : Hp} {vs : List V} {e : Ev} (h : EvR K H vs e) (hp : e.isPlain = true) (hs : e.tsz) : Paired PartV vs (e.restS.map V.str) ∧ vs.length ≤ 3 := by
  cases e with
  | make n => cases h; exact ⟨.cons (part_int hs) .nil, by show 1 ≤ 3; decide⟩
  | read r f => cases h; exact ⟨.cons (part_int hs.1) (.cons (part_int hs.2) .nil), by show 2 ≤ 3; decide⟩
  | write r f o =>
    cases h
    refine ⟨.cons (part_int hs.1) (.cons (part_int hs.2.1) (.cons ?_ .nil)), by show 3 ≤ 3; decide⟩
    cases o with
    | none => exact .inr ⟨rfl, rfl⟩
    | some i => exact part_int (hs.2.2 i rfl)
  | drop n => cases h; exact ⟨.cons (part_int hs) .nil, by show 1 ≤ 3; decide⟩
  | send _ _ => cases hp
  | receive _ => cases hp
  | collect => cases h; exact ⟨.nil, by show 0 ≤ 3; decide⟩
  | report => cases h; exact ⟨.nil, by show 0 ≤ 3; decide⟩
  | remove _ => cases hp
theorem plain_word {e : Ev} (hp : e.isPlain = true) : e.wordS ≠ "receive" ∧ e.wordS ≠ "send" ∧ e.wordS ≠ "remove" := by
  have q : ∀ z ∈ (["make", "read", "write", "drop", "collect", "report"] : List Str), z ≠ "receive" ∧ z ≠ "send" ∧ z ≠ "remove" := by decide +kernel
  cases e with
  | make _ => exact q "make" (by decide +kernel)
  | read _ _ => exact q "read" (by decide +kernel)
  | write _ _ _ => exact q "write" (by decide +kernel)
  | drop _ => exact q "drop" (by decide +kernel)
  | send _ _ => cases hp
  | receive _ => cases hp
  | collect => exact q "collect" (by decide +kernel)
  | report => exact q "report" (by decide +kernel)
  | remove _ => cases hp
def sp__words (K : PySem.W.Frag) : Sp := SpOf (fun ((v, _) : V × Ev) => [v]) fun (v, e) H Q => Fz K H v e.data ∧ e.tsz ∧ ∀ (a : Addr) (H' : Hp), Same H H' → H' a = some (.lst (e.restS.map V.str)) → H a = none → Q (.ref a) H'
set_option maxHeartbeats 4000000 in
theorem ok__words (T : Txt K mg) : DefOk P w K mg base "_words" 2 ["event"] (sp__words K) := by
  have G__message_words := ok__message_words (P := P) (w := w) (base := base) T
  refine DefOk.mk' T.d__words sc__words (fun _ _ _ _ _ _ us hl => match us, hl with | [_], _ => rfl) (fun _ => rfl) (fun cdv f A outer s H p Q E hr h => ?_)
  obtain ⟨v, e⟩ := p
  obtain ⟨fv, hs, k⟩ := h
  refine ⟨_, (pss_cons (ps_set (i := 1) sc__words.nd rfl (.inl rfl) (pe_ix (ix_tupK (K := K)) (pv 0) pe_int (fun _ _ => rfl)))
    (pss_cons (ps_if (pt_cmpR op_eq (pv 1) pe_str (nomark _))
    (pss_one (ps_ret (pe_callD G__message_words (hr.mono (by decide)) rfl (pa_cons (pe_ix (ix_tupK (K := K)) (pv 0) pe_int (fun _ _ => rfl)) pa_nil))))
    pss_nil)
    (pss_cons (ps_if (pt_cmpR op_eq (pv 1) pe_str (nomark _))
    (pss_one (ps_ret (pe_op op_cat (pe_lst (pa_cons (pe_callTy call_str_int (by rfl) T.n_str (by decide +kernel) (pa_cons (pe_ix (ix_tupK (K := K)) (pv 0) pe_int (fun _ _ => rfl)) pa_nil)) pa_nil)) (pe_lc (own := [("root", 4)]) (g := gName 4) (tt := tYes) rfl sc__words.nd (itupK (K := K) (pi_tup (pe_ix (ix_tupK (K := K)) (pv 0) pe_int (fun _ _ => rfl)))) (blkOk_by (own := [("root", 4)]) (N := N__words) (sc := defScope s__words) (by decide +kernel)) (fun _ _ _ _ _ => pg_name (i := 4) sc__words.nd rfl (.inl rfl)) (fun _ _ _ _ _ => pts_nil) (fun _ _ _ _ _ => (pe_callTy call_str_int (by rfl) T.n_str (by decide +kernel) (pa_cons (pv 4) pa_nil)))))))
    pss_nil)
    (pss_cons (ps_if (pt_cmpR op_eq (pv 1) pe_str (nomark _))
    (pss_one (ps_ret (pe_lc2 (own := [("pair", 3), ("part", 2)]) (vs1 := [2]) (g := gName 3) (g1 := gName 2) (tt := tYes) (tt1 := tYes) rfl sc__words.nd (itupK (K := K) (pi_tup (pe_ix (ix_tupK (K := K)) (pv 0) pe_int (fun _ _ => rfl)))) (blkOk_by (own := [("pair", 3), ("part", 2)]) (N := N__words) (sc := defScope s__words) (by decide +kernel)) (by decide) (fun _ _ _ _ _ => pg_name (i := 3) sc__words.nd rfl (.inl rfl)) (fun _ _ _ _ _ => pts_nil) (fun _ _ _ _ _ => (itupK (K := K) (pi_tup (pv 3)))) (fun _ _ _ _ _ => pg_name (i := 2) sc__words.nd rfl (.inl rfl)) (fun _ _ _ _ _ => pts_nil) (fun _ _ _ _ _ => (pe_callTy call_str_int (by rfl) T.n_str (by decide +kernel) (pa_cons (pv 2) pa_nil))))))
    pss_nil)
    (pss_one (ps_ret (pe_lc (own := [("part", 2)]) (g := gName 2) (tt := tYes) rfl sc__words.nd (itupK (K := K) (pi_tup (pe_slice (sl_tupK (K := K)) (pv 0) (po_some pe_int) po_none))) (blkOk_by (own := [("part", 2)]) (N := N__words) (sc := defScope s__words) (by decide +kernel)) (fun _ _ _ _ _ => pg_name (i := 2) sc__words.nd rfl (.inl rfl)) (fun _ _ _ _ _ => pts_nil) (fun _ _ _ _ _ => (pe_ifExp (pt_cmpR op_isN (pv 2) pe_non (nomark _)) (pe_coS T.c_NONE rfl) (pe_callTy call_str_int (by rfl) T.n_str (by decide +kernel) (pa_cons (pv 2) pa_nil))))))))))), ?_⟩
  obtain ⟨t, vs, rfl, hT, hR⟩ := fz_evR fv
  refine ⟨_, rfl, t, _, 0, _, rfl, rfl, hT, ixv0, ?_⟩
  by_cases hp : e.isPlain = true
  · obtain ⟨w1, w2, w3⟩ := plain_word hp
    refine ⟨_, rfl, rfl, _, rfl, ite2 (fun z => absurd (V.str.inj (of_decide_eq_true z)) w1) (fun _ => ?_)⟩
    refine ⟨_, rfl, rfl, _, rfl, ite2 (fun z => absurd (V.str.inj (of_decide_eq_true z)) w2) (fun _ => ?_)⟩
    refine ⟨_, rfl, rfl, _, rfl, ite2 (fun z => absurd (V.str.inj (of_decide_eq_true z)) w3) (fun _ => ?_)⟩
    obtain ⟨hpp, hpl⟩ := plain_parts hR hp hs
    refine ⟨_, rfl, 1, rfl, t, _, rfl, hT, fun z => cut_nfull z, fun _ p np => ?_⟩
    rw [cut_one]
    refine ⟨p, rfl, ⟨_, SqT.of upd_same⟩, fun D nD => ?_⟩
    refine lc_vals (walk_tup (xs := vs)) (e.restS.map V.str) (Paired.length hpp).symm (by omega) nD (fun H' s => SqT.of (s _ _ upd_same)) ?_ (fun H' s e2 => k D H' ((nws np (Same.refl H)).trans s) e2 ((nws np (Same.refl H)).free nD))
    rintro i x y H' H2 R Z hy s ⟨rfl, hx⟩ q
    obtain ⟨y', hy', hpy⟩ := LiI.paired_get hpp hx
    rw [hy] at hy'
    cases hy'
    have q := q H2 (Same.refl H2)
    rcases hpy with ⟨n, rfl, hn, rfl⟩ | ⟨rfl, rfl⟩
    · exact ⟨rfl, _, rfl, rfl, _, rfl, ite2 (fun z => nomatch (show V.int n = V.non from of_decide_eq_true z)) (fun _ => ⟨_, rfl, n, rfl, hn.log, q⟩)⟩
    · exact ⟨rfl, _, rfl, rfl, _, rfl, ite2 (fun _ => q) (fun z => absurd (decide_eq_true rfl) z)⟩
  cases e with
  | make n => exact absurd rfl hp
  | read r f => exact absurd rfl hp
  | write r f o => exact absurd rfl hp
  | drop n => exact absurd rfl hp
  | collect => exact absurd rfl hp
  | report => exact absurd rfl hp
  | receive m =>
    obtain ⟨u, rfl, hu⟩ := hR
    refine ⟨_, rfl, rfl, _, rfl, ite2 (fun _ => ?_) (fun z => absurd (decide_eq_true rfl) z)⟩
    exact ⟨_, rfl, t, _, 1, _, rfl, rfl, hT, ixv1, (u, m), rfl, hu, hs, fun a H' s e2 n => k a H' s e2 n⟩
  | send to rs =>
    obtain ⟨u, rfl, hu⟩ := hR
    have iS : ∀ {H' : Hp}, Same H H' → Imm H H' := fun s => Imm.same s
    refine ⟨_, rfl, rfl, _, rfl, ite2 (fun z => absurd (V.str.inj (of_decide_eq_true z)) (show ("send" : Str) ≠ "receive" by decide +kernel)) (fun _ => ?_)⟩
    refine ⟨_, rfl, rfl, _, rfl, ite2 (fun _ => ?_) (fun z => absurd (decide_eq_true rfl) z)⟩
    refine ⟨_, rfl, t, _, 1, _, rfl, rfl, hT, ixv1, to, rfl, hs.1.log, (by show 1 ≤ sizeLine; decide), fun p np => ?_⟩
    have s1 : Same H (upd H p (.lst [V.str (numS to)])) := nws np (Same.refl H)
    have e1 : upd H p (.lst [V.str (numS to)]) p = some (.lst [V.str (numS to)]) := upd_same
    show tLc _ _ _ _ _ _ (upd H p (.lst [V.str (numS to)])) _
    generalize upd H p (.lst [V.str (numS to)]) = H1 at s1 e1 ⊢
    refine ⟨_, rfl, t, _, 2, _, rfl, rfl, sqT_imm (iS s1) hT, ixv2, u, rfl, ⟨_, sqT_imm (iS s1) hu⟩, fun D nD => ?_⟩
    refine strs_tup (ns := rs) (sqT_imm (iS s1) hu) (by have := hs.2.2; omega) nD (fun n H2 R Z hn q => ⟨rfl, _, rfl, n, rfl, (hs.2.1 n hn).log, q⟩) ?_
    rintro H3 s3 e3
    refine ⟨p, D, _, _, rfl, rfl, s3 _ _ e1, e3, (by rw [List.length_map]; exact Nat.le_of_lt (small100k (by have := hs.2.2; show 1 + rs.length ≤ 100000; omega))), fun l nl => ?_⟩
    refine k l _ (nws nl (s1.trans s3)) ?_ ((s1.trans s3).free nl)
    rw [upd_same]
    show _ = some (HO.lst (([numS to] ++ rs.map numS).map V.str))
    rw [List.map_append, List.map_map]
    rfl
  | remove es =>
    obtain ⟨u, us, rfl, hu, hf⟩ := hR
    have iS : ∀ {H' : Hp}, Same H H' → Imm H H' := fun s => Imm.same s
    have hul : us.length = es.length := by rw [hf.length, List.length_map]
    refine ⟨_, rfl, rfl, _, rfl, ite2 (fun z => absurd (V.str.inj (of_decide_eq_true z)) (show ("remove" : Str) ≠ "receive" by decide +kernel)) (fun _ => ?_)⟩
    refine ⟨_, rfl, rfl, _, rfl, ite2 (fun z => absurd (V.str.inj (of_decide_eq_true z)) (show ("remove" : Str) ≠ "send" by decide +kernel)) (fun _ => ?_)⟩
    refine ⟨_, rfl, rfl, _, rfl, ite2 (fun _ => ?_) (fun z => absurd (decide_eq_true rfl) z)⟩
    refine ⟨_, rfl, t, _, 1, _, rfl, rfl, hT, ixv1, u, rfl, ⟨_, hu⟩, fun D nD => ?_⟩
    refine lc2_it (walk_tup (xs := us)) (fun i H' => Same H H' ∧ H' D = some (.lst ((pairW (es.take i)).map V.str))) ⟨nws nD (Same.refl H), upd_same⟩ (fun i H' _ h => sqT_imm (iS h.1) hu) ?_ ?_
    · rintro i x H' H2 hi ⟨s, e1⟩ ⟨rfl, hx⟩
      obtain ⟨dd, hd, fd⟩ := (hf.imm (iS s)).getV hx
      rw [List.getElem?_map] at hd
      obtain ⟨c, hc, rfl⟩ := Option.map_eq_some_iff.mp hd
      obtain ⟨q, rfl, hq⟩ := fz_pair fd
      have hcm := hs.1 c (List.mem_of_getElem? hc)
      have hil : (pairW (es.take i)).length ≤ 2000 := by rw [pairW_len, List.length_take]; have := hs.2; omega
      refine ⟨rfl, _, rfl, q, rfl, ⟨_, hq⟩, ?_⟩
      refine lc_in (walk_tup (xs := [V.int c.1, V.int c.2])) (fun j H' => Same H H' ∧ H' D = some (.lst ((pairW (es.take i) ++ ([numS c.1, numS c.2].take j)).map V.str)) ∧ SqT K H' q [V.int c.1, V.int c.2]) ⟨s, by rw [e1, List.take_zero, List.append_nil], hq⟩ (fun j H' _ h => h.2.2) ?_ ?_
      · rintro j x H' H3 hj ⟨s', e', hq'⟩ ⟨rfl, hx'⟩
        have el : ∃ n, x = .int n ∧ NS n ∧ [numS c.1, numS c.2][j]? = some (numS n) := by
          match j, hx' with
          | 0, hx' => exact ⟨c.1, (Option.some.inj hx').symm, hcm.1, rfl⟩
          | 1, hx' => exact ⟨c.2, (Option.some.inj hx').symm, hcm.2, rfl⟩
        obtain ⟨n, rfl, hn, en⟩ := el
        refine ⟨rfl, _, rfl, n, rfl, hn.log, _, e', ?_, same_mut s' nD, ?_, ?_⟩
        · rw [List.length_map, List.length_append, List.length_take]
          refine small100k ?_
          have : [numS c.1, numS c.2].length = 2 := rfl
          omega
        · rw [upd_same, take_sn en, ← List.append_assoc, List.map_append (l₂ := [numS n])]
          rfl
        · exact sqT_imm (Imm.wr e' rfl) hq'
      · rintro H' ⟨s', e', _⟩
        refine ⟨s', ?_⟩
        rw [e', take_sn hc]
        show some (HO.lst ((pairW (es.take i) ++ [numS c.1, numS c.2]).map V.str)) = _
        rw [show pairW (es.take i ++ [c]) = pairW (es.take i) ++ [numS c.1, numS c.2] by unfold pairW; rw [List.map_append, List.flatten_append]; rfl]
    · rintro H' ⟨s, e1⟩
      rw [hul, List.take_length] at e1
      exact k D H' s e1 nD
def sp_write_event (K : PySem.W.Frag) : Sp := SpOf (fun ((v, _) : V × Ev) => [v]) fun (v, e) H Q => Fz K H v e.data ∧ e.tsz ∧ ∀ H', Same H H' → Q (.str e.textS) H'
set_option maxHeartbeats 4000000 in
theorem ok_write_event (T : Txt K mg) : DefOk P w K mg base "write_event" 3 ["event"] (sp_write_event K) := by
  have G__words := ok__words (P := P) (w := w) (base := base) T
  refine DefOk.mk' T.d_write_event sc_write_event (fun _ _ _ _ _ _ us hl => match us, hl with | [_], _ => rfl) (fun _ => rfl) (fun cdv f A outer s H p Q E hr h => ?_)
  obtain ⟨v, e⟩ := p
  obtain ⟨fv, hs, k⟩ := h
  refine ⟨_, (pss_one (ps_ret (joinK (K := K) (pe_join pe_str (pe_op op_cat (pe_lst (pa_cons (pe_ix (ix_tupK (K := K)) (pv 0) pe_int (fun _ _ => rfl)) pa_nil)) (pe_callD G__words (hr.mono (by decide)) rfl (pa_cons (pv 0) pa_nil))))))), ?_⟩
  obtain ⟨t, vs, rfl, hT, hR⟩ := fz_evR fv
  refine ⟨⟨_, rfl⟩, _, rfl, t, _, 0, _, rfl, rfl, hT, ixv0, (by show 1 ≤ sizeLine; decide), fun p np => ?_⟩
  have s1 : Same H (upd H p (.lst [V.str e.wordS])) := nws np (Same.refl H)
  have e1 : upd H p (.lst [V.str e.wordS]) p = some (.lst [V.str e.wordS]) := upd_same
  generalize upd H p (.lst [V.str e.wordS]) = H1 at s1 e1 ⊢
  have hsh := hs.short
  refine ⟨_, rfl, (.ref t, e), rfl, fv.imm (Imm.same s1), hs, fun a H2 s2 e2 n2 => ?_⟩
  refine ⟨p, a, _, _, rfl, rfl, s2 _ _ e1, e2, ?_, fun l nl => ?_⟩
  · rw [List.length_map]
    exact Nat.le_of_lt (small100k (by have := hsh.1; show 1 + e.restS.length ≤ 100000; omega))
  · refine ⟨" ", l, [e.wordS] ++ e.restS, rfl, rfl, .inl (SqL.of ?_), ?_, k _ (nws nl (s1.trans s2))⟩
    · rw [upd_same, List.map_append]
      rfl
    · exact hs.all

end
section
open PySem PySem.Spec PyProof.Rows L2
variable {P : Program} {w : World} {K : PySem.W.Frag} {mg : Str → Option Value} {base : Heap}
/-! ### the law's own text of an event -/
def Ev.partW : Ev → List (List Str)
  | .make n => [[numS n]]
  | .read r f => [[numS r], [numS f]]
  | .write r f o => [[numS r], [numS f], [otherS o]]
  | .drop r => [[numS r]]
  | .send to rs => [[numS to], rs.map numS]
  | .receive m => [m.wordsS]
  | .collect => []
  | .report => []
  | .remove es => [pairW es]
theorem partW_flat (e : Ev) : e.partW.flatten = e.restS := by
  cases e with
  | send to rs =>
    show [numS to] ++ (rs.map numS ++ []) = _
    rw [List.append_nil]
    rfl
  | receive m => exact List.append_nil _
  | remove es => exact List.append_nil _
  | _ => rfl
theorem evR_len {K : PySem.W.Frag} {H : Hp} {vs : List V} {e : Ev} (h : EvR K H vs e) : vs.length = e.partW.length := by
  cases e with
  | send to rs => obtain ⟨u, rfl, _⟩ := h; rfl
  | receive m => obtain ⟨u, rfl, _⟩ := h; rfl
  | remove es => obtain ⟨u, us, rfl, _⟩ := h; rfl
  | make _ => cases h; rfl
  | read _ _ => cases h; rfl
  | write _ _ _ => cases h; rfl
  | drop _ => cases h; rfl
  | collect => cases h; rfl
  | report => cases h; rfl
theorem plain_part {K : PySem.W.Frag} {H : Hp} {vs : List V} {e : Ev} (h : EvR K H vs e) (hp : e.isPlain = true) (hs : e.tsz) : Paired (fun x ws => ∃ y, ws = [y] ∧ PartV x (.str y)) vs e.partW := by
  cases e with
  | make n => cases h; exact .cons ⟨_, rfl, part_int hs⟩ .nil
  | read r f => cases h; exact .cons ⟨_, rfl, part_int hs.1⟩ (.cons ⟨_, rfl, part_int hs.2⟩ .nil)
  | write r f o =>
    cases h
    refine .cons ⟨_, rfl, part_int hs.1⟩ (.cons ⟨_, rfl, part_int hs.2.1⟩ (.cons ?_ .nil))
    cases o with
    | none => exact ⟨_, rfl, .inr ⟨rfl, rfl⟩⟩
    | some i => exact ⟨_, rfl, part_int (hs.2.2 i rfl)⟩
  | drop n => cases h; exact .cons ⟨_, rfl, part_int hs⟩ .nil
  | send _ _ => cases hp
  | receive _ => cases hp
  | collect => cases h; exact .nil
  | report => cases h; exact .nil
  | remove _ => cases hp
theorem sends_words {ws : List Str} {i : Nat} {l : List (List Str)} {z : List Str} (h : l[i]? = some z) : ws ++ (l.take (i + 1)).flatten = ws ++ (l.take i).flatten ++ z := by
  rw [take_sn h, List.flatten_append, List.append_assoc]
  simp
def sp__law_event_text (K : PySem.W.Frag) : Sp := SpOf (fun ((v, _) : V × Ev) => [v]) fun (v, e) H Q => Fz K H v e.data ∧ e.tsz ∧ ∀ H', Same H H' → Q (.str e.textS) H'
set_option maxHeartbeats 4000000 in
theorem ok__law_event_text (T : Txt K mg) : DefOk P w K mg base "_law_event_text" 1 ["_law_event"] (sp__law_event_text K) := by
  refine DefOk.mk' T.d__law_event_text sc__law_event_text (fun _ _ _ _ _ _ us hl => match us, hl with | [_], _ => rfl) (fun _ => rfl) (fun cdv f A outer s H p Q E hr h => ?_)
  obtain ⟨v, e⟩ := p
  obtain ⟨fv, hs, k⟩ := h
  refine ⟨_, (pss_cons (ps_set (i := 1) sc__law_event_text.nd rfl (.inl rfl) (pe_lst (pa_cons (pe_ix (ix_tupK (K := K)) (pv 0) pe_int (fun _ _ => rfl)) pa_nil)))
    (pss_cons (ps_for PassesOwn.never rfl (itupK (K := K) (pi_tup (pe_slice (sl_tupK (K := K)) (pv 0) (po_some pe_int) po_none))) (pg_name (i := 2) sc__law_event_text.nd rfl (.inl rfl))
    (pss_one (ps_if (pt_cmpR op_eq (pe_ix (ix_tupK (K := K)) (pv 0) pe_int (fun _ _ => rfl)) pe_str (nomark _))
    (pss_cons (ps_asg (pv 2) (gtupK (K := K) (pg_tup rfl (pgs_cons (pg_name (i := 3) sc__law_event_text.nd rfl (.inl rfl)) (pgs_cons (pg_name (i := 4) sc__law_event_text.nd rfl (.inl rfl)) (pgs_cons (pg_name (i := 5) sc__law_event_text.nd rfl (.inl rfl)) (pgs_cons (pg_name (i := 6) sc__law_event_text.nd rfl (.inl rfl)) (pgs_cons (pg_name (i := 7) sc__law_event_text.nd rfl (.inl rfl)) (pgs_cons (pg_name (i := 8) sc__law_event_text.nd rfl (.inl rfl)) pgs_nil)))))))))
    (pss_cons (ps_set (i := 1) sc__law_event_text.nd rfl (.inl rfl) (pe_op op_cat (pe_op op_cat (pe_op op_cat (pv 1) (pe_lst (pa_cons (pe_callTy call_str_int (by rfl) T.n_str (by decide +kernel) (pa_cons (pv 3) pa_nil)) (pa_cons (pe_callTy call_str_int (by rfl) T.n_str (by decide +kernel) (pa_cons (pv 5) pa_nil)) (pa_cons (pe_callTy call_str_int (by rfl) T.n_str (by decide +kernel) (pa_cons (pv 6) pa_nil)) pa_nil))))) (pe_lc (own := [("_law_entry", 9)]) (g := gName 9) (tt := tYes) rfl sc__law_event_text.nd (itupK (K := K) (pi_tup (pv 7))) (blkOk_by (own := [("_law_entry", 9)]) (N := N__law_event_text) (sc := defScope s__law_event_text) (by decide +kernel)) (fun _ _ _ _ _ => pg_name (i := 9) sc__law_event_text.nd rfl (.inl rfl)) (fun _ _ _ _ _ => pts_nil) (fun _ _ _ _ _ => (pe_callTy call_str_int (by rfl) T.n_str (by decide +kernel) (pa_cons (pv 9) pa_nil))))) (pe_lst (pa_cons pe_str pa_nil))))
    (pss_one (ps_for PassesOwn.never rfl (itupK (K := K) (pi_tup (pv 8))) (gtupK (K := K) (pg_tup rfl (pgs_cons (pg_name (i := 10) sc__law_event_text.nd rfl (.inl rfl)) (pgs_cons (pg_name (i := 9) sc__law_event_text.nd rfl (.inl rfl)) pgs_nil))))
    (pss_one (ps_set (i := 1) sc__law_event_text.nd rfl (.inl rfl) (pe_op op_cat (pv 1) (pe_lst (pa_cons (pv 10) (pa_cons (pe_callTy call_str_int (by rfl) T.n_str (by decide +kernel) (pa_cons (pv 9) pa_nil)) pa_nil))))))))))
    (pss_one (ps_if (pt_cmpR op_eq (pe_ix (ix_tupK (K := K)) (pv 0) pe_int (fun _ _ => rfl)) pe_str (nomark _))
    (pss_one (ps_for PassesOwn.never rfl (itupK (K := K) (pi_tup (pv 2))) (gtupK (K := K) (pg_tup rfl (pgs_cons (pg_name (i := 11) sc__law_event_text.nd rfl (.inl rfl)) (pgs_cons (pg_name (i := 9) sc__law_event_text.nd rfl (.inl rfl)) pgs_nil))))
    (pss_one (ps_set (i := 1) sc__law_event_text.nd rfl (.inl rfl) (pe_op op_cat (pv 1) (pe_lst (pa_cons (pe_callTy call_str_int (by rfl) T.n_str (by decide +kernel) (pa_cons (pv 11) pa_nil)) (pa_cons (pe_callTy call_str_int (by rfl) T.n_str (by decide +kernel) (pa_cons (pv 9) pa_nil)) pa_nil))))))))
    (pss_one (ps_if (pt_val (pe_callB (call_isiK (K := K)) (by rfl) T.n_isinstance (by decide +kernel) (pa_cons (pv 2) (pa_cons (pe_bltn (v := .ty "tuple") (u := .type "tuple") (by rfl) T.n_tuple (by decide +kernel) rfl) pa_nil))))
    (pss_one (ps_set (i := 1) sc__law_event_text.nd rfl (.inl rfl) (pe_op op_cat (pv 1) (pe_lc (own := [("_law_root", 12)]) (g := gName 12) (tt := tYes) rfl sc__law_event_text.nd (itupK (K := K) (pi_tup (pv 2))) (blkOk_by (own := [("_law_root", 12)]) (N := N__law_event_text) (sc := defScope s__law_event_text) (by decide +kernel)) (fun _ _ _ _ _ => pg_name (i := 12) sc__law_event_text.nd rfl (.inl rfl)) (fun _ _ _ _ _ => pts_nil) (fun _ _ _ _ _ => (pe_callTy call_str_int (by rfl) T.n_str (by decide +kernel) (pa_cons (pv 12) pa_nil)))))))
    (pss_one (ps_expr (bmK (K := K) (pe_bm PySem.F.plainAttrs_list PySem.F.slot_list_append PySem.F.type_list_append mt_append (pv 1) (pa_cons (pe_ix (ix_listK (K := K)) (pe_lst (pa_cons pe_str (pa_cons (pe_callTy call_str_opt (by rfl) T.n_str (by decide +kernel) (pa_cons (pv 2) pa_nil)) pa_nil))) (pe_callTy call_int1 (by rfl) T.n_int (by decide +kernel) (pa_cons (pe_cmpR op_notN (pv 2) pe_non (nomark _)) pa_nil)) (fun _ _ => rfl)) pa_nil))))))))))))
    (pss_one (ps_ret (joinK (K := K) (pe_join pe_str (pv 1))))))), ?_⟩
  obtain ⟨t, vs, rfl, hT, hR⟩ := fz_evR fv
  have iS : ∀ {H H' : Hp}, Same H H' → Imm H H' := fun s => Imm.same s
  refine ⟨_, rfl, t, _, 0, _, rfl, rfl, hT, ixv0, (by show 1 ≤ sizeLine; decide), fun w0 nw0 => ?_⟩
  have s1 : Same H (upd H w0 (.lst [V.str e.wordS])) := nws nw0 (Same.refl H)
  have e1 : upd H w0 (.lst [V.str e.wordS]) w0 = some (.lst [V.str e.wordS]) := upd_same
  show gName 1 (.ref w0) _ (upd H w0 (.lst [V.str e.wordS])) _
  generalize upd H w0 (.lst [V.str e.wordS]) = H1 at s1 e1 ⊢
  refine ⟨_, rfl, 1, rfl, t, _, rfl, sqT_imm (iS s1) hT, fun z => cut_nfull z, fun _ p np => ?_⟩
  rw [cut_one]
  have s2 : Same H (upd H1 p (.tup vs)) := s1.trans (nws np (Same.refl H1))
  have e2 : upd H1 p (.tup vs) w0 = some (.lst [V.str e.wordS]) := nw np e1
  have hpv : upd H1 p (.tup vs) p = some (.tup vs) := upd_same
  generalize upd H1 p (.tup vs) = H2 at s2 e2 hpv ⊢
  have hsh := hs.short
  refine ⟨p, rfl, ⟨_, SqT.of hpv⟩, for_tup (xs := vs) (fun i σ H' => ∃ w v2 v3 v4 v5 v6 v7 v8 v9 v10 v11 v12, σ = [some (.ref t), some (.ref w), v2, v3, v4, v5, v6, v7, v8, v9, v10, v11, v12] ∧ Same H H' ∧ H w = none ∧ H' p = some (.tup vs) ∧ H' w = some (.lst (([e.wordS] ++ (e.partW.take i).flatten).map V.str)))
    ⟨w0, none, none, none, none, none, none, none, none, none, none, none, rfl, s2, nw0, hpv, e2⟩ (fun i σ H' _ ⟨_, _, _, _, _, _, _, _, _, _, _, _, _, _, _, h, _⟩ => SqT.of h) ?_ ?_⟩
  · rintro i x σ H' hx ⟨w, v2, v3, v4, v5, v6, v7, v8, v9, v10, v11, v12, rfl, s, nwn, hpt, ew⟩
    have hT' := sqT_imm (iS s) hT
    have lenw : ([e.wordS] ++ (e.partW.take i).flatten).length ≤ 9000 := by
      have : (e.partW.take i).flatten.length ≤ e.partW.flatten.length := by
        conv => rhs; rw [← List.take_append_drop i e.partW, List.flatten_append, List.length_append]
        omega
      rw [partW_flat] at this
      rw [List.length_append]
      have h1 := hsh.1
      have : [e.wordS].length = 1 := rfl
      omega
    have ewl : ∀ {z : List Str}, z.length ≤ 4000 → ([e.wordS] ++ (e.partW.take i).flatten ++ z).length ≤ 100000 := fun {z} hz => by rw [List.length_append]; omega
    have nx : ∀ {z : List Str}, e.partW[i]? = some z → ([e.wordS] ++ (e.partW.take i).flatten ++ z).map V.str = ([e.wordS] ++ (e.partW.take (i + 1)).flatten).map V.str := fun {z} hz => by rw [sends_words hz]
    generalize hpre : [e.wordS] ++ (e.partW.take i).flatten = pre at ew lenw ewl nx
    by_cases hp : e.isPlain = true
    · obtain ⟨w1, w2, w3⟩ := plain_word hp
      obtain ⟨ws, hws, y, rfl, hy⟩ := LiI.paired_get (plain_part hR hp hs) hx
      have nx := nx hws
      refine ⟨_, rfl, t, _, 0, _, rfl, rfl, hT', ixv0, rfl, _, rfl, ite2 (fun z => absurd (V.str.inj (of_decide_eq_true z)) w1) (fun _ => ?_)⟩
      refine ⟨_, rfl, t, _, 0, _, rfl, rfl, hT', ixv0, rfl, _, rfl, ite2 (fun z => absurd (V.str.inj (of_decide_eq_true z)) w3) (fun _ => ?_)⟩
      rcases hy with ⟨n, rfl, hn, ey⟩ | ⟨rfl, ey⟩
      · have ey := V.str.inj ey
        subst ey
        refine ⟨_, rfl, _, _, _, _, false, rfl, .ty _, .base (.int _), kit_ty rfl, _, rfl, ite2 (fun z => nomatch z) (fun _ => ?_)⟩
        refine ⟨_, rfl, .inl ⟨rfl, _, SqL.of ew⟩, _, rfl, .inl ⟨n, rfl, hn.log, (by show 2 ≤ sizeLine; decide), fun q nq => ?_⟩⟩
        refine ⟨_, rfl, rfl, .inr ⟨_, rfl, q, _, 1, _, rfl, (by rw [decide_eq_false (fun h => nomatch h)]; rfl), SqL.of upd_same, ixv1, ?_⟩⟩
        refine ⟨w, _, _, rfl, rfl, nw nq ew, (by rw [List.length_map]; exact small100k (by omega)), ?_⟩
        refine ⟨w, _, _, _, _, _, _, _, _, _, _, _, rfl, same_mut (nws nq s) nwn, nwn, tup_keep (nw nq hpt) (nw nq ew), ?_⟩
        rw [upd_same, ← nx, List.map_append]
        rfl
      · have ey := V.str.inj ey
        subst ey
        refine ⟨_, rfl, _, _, _, _, false, rfl, .ty _, .base .non, kit_ty rfl, _, rfl, ite2 (fun z => nomatch z) (fun _ => ?_)⟩
        refine ⟨_, rfl, .inl ⟨rfl, _, SqL.of ew⟩, _, rfl, .inr ⟨rfl, (by show 2 ≤ sizeLine; decide), fun q nq => ?_⟩⟩
        refine ⟨_, rfl, rfl, .inr ⟨_, rfl, q, _, 0, _, rfl, rfl, SqL.of upd_same, ixv0, ?_⟩⟩
        refine ⟨w, _, _, rfl, rfl, nw nq ew, (by rw [List.length_map]; exact small100k (by omega)), ?_⟩
        refine ⟨w, _, _, _, _, _, _, _, _, _, _, _, rfl, same_mut (nws nq s) nwn, nwn, tup_keep (nw nq hpt) (nw nq ew), ?_⟩
        rw [upd_same, ← nx, List.map_append]
        rfl
    cases e with
    | make n => exact absurd rfl hp
    | read r f => exact absurd rfl hp
    | write r f o => exact absurd rfl hp
    | drop n => exact absurd rfl hp
    | collect => exact absurd rfl hp
    | report => exact absurd rfl hp
    | receive m =>
      obtain ⟨u, rfl, hu⟩ := hR
      have hi0 : i = 0 := by
        have := (List.getElem?_eq_some_iff.mp hx).1
        simp at this
        exact this
      subst hi0
      cases hx
      have nx := nx (z := m.wordsS) rfl
      have hm : m.tsz := hs
      obtain ⟨h1, h2, h3, h4, h5, h6, h7⟩ := id hm
      have hu' := hu.imm (iS s)
      obtain ⟨tm, th, tc, cs, rfl, hMT, hh, hc, fc⟩ := fz_msg hu'
      have hcsl : cs.length = m.carried.length := by rw [fc.length, List.length_map]
      refine ⟨_, rfl, t, _, 0, _, rfl, rfl, hT', ixv0, rfl, _, rfl, ite2 (fun _ => ?_) (fun z => absurd (decide_eq_true rfl) z)⟩
      refine ⟨_, rfl, tm, _, rfl, hMT, rfl, _, _, rfl, _, _, rfl, _, _, rfl, _, _, rfl, _, _, rfl, _, _, rfl, rfl, ?_⟩
      refine ⟨_, rfl, _, rfl, m.sender, rfl, h1.log, _, rfl, m.number, rfl, h2.log, _, rfl, m.seen, rfl, h3.log, (by show 3 ≤ sizeLine; decide), fun q nq => ?_⟩
      refine ⟨w, q, _, _, rfl, rfl, nw nq ew, upd_same, (by rw [List.length_map]; exact Nat.le_of_lt (small100k (by show pre.length + 3 ≤ 100000; omega))), fun q2 nq2 => ?_⟩
      have s3 : Same H' (upd (upd H' q (.lst [V.str (numS m.sender), V.str (numS m.number), V.str (numS m.seen)])) q2 (.lst (pre.map V.str ++ [V.str (numS m.sender), V.str (numS m.number), V.str (numS m.seen)]))) := nws nq2 (nws nq (Same.refl H'))
      have e3 : upd (upd H' q (.lst [V.str (numS m.sender), V.str (numS m.number), V.str (numS m.seen)])) q2 (.lst (pre.map V.str ++ [V.str (numS m.sender), V.str (numS m.number), V.str (numS m.seen)])) q2 = some (.lst (pre.map V.str ++ [V.str (numS m.sender), V.str (numS m.number), V.str (numS m.seen)])) := upd_same
      have n3 : H q2 = none := s.free ((nws nq (Same.refl H')).free nq2)
      show tLc _ _ _ _ _ _ (upd (upd H' q (.lst [V.str (numS m.sender), V.str (numS m.number), V.str (numS m.seen)])) q2 (.lst (pre.map V.str ++ [V.str (numS m.sender), V.str (numS m.number), V.str (numS m.seen)]))) _
      generalize upd (upd H' q (.lst [V.str (numS m.sender), V.str (numS m.number), V.str (numS m.seen)])) q2 (.lst (pre.map V.str ++ [V.str (numS m.sender), V.str (numS m.number), V.str (numS m.seen)])) = H3 at s3 e3 ⊢
      refine ⟨_, rfl, th, rfl, ⟨_, sqT_imm (iS s3) hh⟩, fun D nD => ?_⟩
      refine strs_tup (ns := m.held) (sqT_imm (iS s3) hh) (by omega) nD (fun n H2 R Z hn q => ⟨rfl, _, rfl, n, rfl, (h4 n hn).log, q⟩) ?_
      rintro H4 s4 e4
      have e34 := s4 _ _ e3
      refine ⟨q2, D, _, _, rfl, rfl, e34, e4, (by rw [List.length_append, List.length_map, List.length_map]; exact Nat.le_of_lt (small100k (by show pre.length + 3 + m.held.length ≤ 100000; omega))), fun q3 nq3 => ?_⟩
      refine ⟨(by show 1 ≤ sizeLine; decide), fun q4 nq4 => ?_⟩
      refine ⟨q3, q4, _, _, rfl, rfl, nw nq4 upd_same, upd_same, (by rw [List.length_append, List.length_append, List.length_map, List.length_map]; exact Nat.le_of_lt (small100k (by show pre.length + 3 + m.held.length + 1 ≤ 100000; omega))), fun q5 nq5 => ?_⟩
      have s7 : Same H4 (upd (upd (upd H4 q3 (.lst ((pre.map V.str ++ [V.str (numS m.sender), V.str (numS m.number), V.str (numS m.seen)]) ++ (m.held.map fun n => V.str (numS n))))) q4 (.lst [V.str "carried"])) q5 (.lst (((pre.map V.str ++ [V.str (numS m.sender), V.str (numS m.number), V.str (numS m.seen)]) ++ (m.held.map fun n => V.str (numS n))) ++ [V.str "carried"]))) := nws nq5 (nws nq4 (nws nq3 (Same.refl H4)))
      have n5 : H q5 = none := (s.trans (s3.trans s4)).free ((nws nq3 (Same.refl H4)).free ((nws nq4 (Same.refl _)).free nq5))
      have e7 : upd (upd (upd H4 q3 (.lst ((pre.map V.str ++ [V.str (numS m.sender), V.str (numS m.number), V.str (numS m.seen)]) ++ (m.held.map fun n => V.str (numS n))))) q4 (.lst [V.str "carried"])) q5 (.lst (((pre.map V.str ++ [V.str (numS m.sender), V.str (numS m.number), V.str (numS m.seen)]) ++ (m.held.map fun n => V.str (numS n))) ++ [V.str "carried"])) q5 = some (.lst ((pre ++ ([numS m.sender, numS m.number, numS m.seen] ++ m.held.map numS ++ [("carried" : Str)] ++ carW (m.carried.take 0))).map V.str)) := by
        rw [upd_same]
        simp only [List.map_append, List.map_map, List.append_assoc, List.take_zero]
        rfl
      show gName 1 (.ref q5) _ _ _
      generalize upd (upd (upd H4 q3 (.lst ((pre.map V.str ++ [V.str (numS m.sender), V.str (numS m.number), V.str (numS m.seen)]) ++ (m.held.map fun n => V.str (numS n))))) q4 (.lst [V.str "carried"])) q5 (.lst (((pre.map V.str ++ [V.str (numS m.sender), V.str (numS m.number), V.str (numS m.seen)]) ++ (m.held.map fun n => V.str (numS n))) ++ [V.str "carried"])) = H7 at s7 e7 ⊢
      have sA := s.trans ((s3.trans s4).trans s7)
      have sB : Same H' H7 := (s3.trans s4).trans s7
      refine ⟨_, rfl, tc, rfl, ⟨_, sqT_imm (iS sB) hc⟩, for_tup (xs := cs) (fun j σ H8 => ∃ w' v9 v10, σ = [some (.ref t), some (.ref w'), some (.ref tm), some (.int m.sender), some (.int m.receiver), some (.int m.number), some (.int m.seen), some (.ref th), some (.ref tc), v9, v10, v11, v12] ∧
        Same H' H8 ∧ H' w' = none ∧ H8 w' = some (.lst ((pre ++ ([numS m.sender, numS m.number, numS m.seen] ++ m.held.map numS ++ [("carried" : Str)] ++ carW (m.carried.take j))).map V.str))) ⟨q5, _, _, rfl, sB, (s3.trans s4).free ((nws nq3 (Same.refl H4)).free ((nws nq4 (Same.refl _)).free nq5)), e7⟩ (fun j σ H8 _ ⟨_, _, _, _, s8, _⟩ => sqT_imm (iS s8) hc) ?_ ?_⟩
      · rintro j y σ H8 hy ⟨w', v9', v10', rfl, s8, n8, e8⟩
        obtain ⟨dd, hd, fd⟩ := (fc.imm (iS s8)).getV hy
        rw [List.getElem?_map] at hd
        obtain ⟨c, hcc, rfl⟩ := Option.map_eq_some_iff.mp hd
        obtain ⟨tt, rfl, htt⟩ := fz_car fd
        have hcl : (m.carried.take j).length ≤ 1000 := by rw [List.length_take]; omega
        refine ⟨tt, _, rfl, htt, rfl, _, _, rfl, _, _, rfl, rfl, ?_⟩
        refine ⟨_, rfl, _, rfl, _, rfl, c.2, rfl, (h5 c (List.mem_of_getElem? hcc)).log, (by show 2 ≤ sizeLine; decide), fun q6 nq6 => ?_⟩
        refine ⟨w', q6, _, _, rfl, rfl, nw nq6 e8, upd_same, ?_, fun q7 nq7 => ?_⟩
        · refine Nat.le_of_lt (small100k ?_)
          rw [List.length_map, List.length_append, List.length_append, List.length_append, List.length_append, List.length_map, carW_len]
          simp only [List.length_cons, List.length_nil]
          omega
        · refine ⟨q7, _, _, rfl, nws nq7 (nws nq6 s8), (nws nq6 s8).free nq7, ?_⟩
          rw [upd_same, take_sn hcc, show carW (m.carried.take j ++ [c]) = carW (m.carried.take j) ++ [kindS c.1, numS c.2] by unfold carW; rw [List.map_append, List.flatten_append]; rfl]
          simp only [List.map_append, List.append_assoc]
          rfl
      · rintro σ H8 ⟨w', v9', v10', rfl, s8, n8, e8⟩
        rw [hcsl, List.take_length] at e8
        refine ⟨w', _, _, _, _, _, _, _, _, _, _, _, rfl, s.trans s8, s.free n8, s8 _ _ hpt, ?_⟩
        rw [e8, ← nx]
        rfl
    | send to rs =>
      obtain ⟨u, rfl, hu⟩ := hR
      refine ⟨_, rfl, t, _, 0, _, rfl, rfl, hT', ixv0, rfl, _, rfl, ite2 (fun z => absurd (V.str.inj (of_decide_eq_true z)) (show ("send" : Str) ≠ "receive" by decide +kernel)) (fun _ => ?_)⟩
      refine ⟨_, rfl, t, _, 0, _, rfl, rfl, hT', ixv0, rfl, _, rfl, ite2 (fun z => absurd (V.str.inj (of_decide_eq_true z)) (show ("send" : Str) ≠ "remove" by decide +kernel)) (fun _ => ?_)⟩
      match i, hx with
      | 0, hx =>
        cases hx
        have nx := nx (z := [numS to]) rfl
        refine ⟨_, rfl, _, _, _, _, false, rfl, .ty _, .base (.int _), kit_ty rfl, _, rfl, ite2 (fun z => nomatch z) (fun _ => ?_)⟩
        refine ⟨_, rfl, .inl ⟨rfl, _, SqL.of ew⟩, _, rfl, .inl ⟨to, rfl, hs.1.log, (by show 2 ≤ sizeLine; decide), fun q nq => ?_⟩⟩
        refine ⟨_, rfl, rfl, .inr ⟨_, rfl, q, _, 1, _, rfl, (by rw [decide_eq_false (fun h => nomatch h)]; rfl), SqL.of upd_same, ixv1, ?_⟩⟩
        refine ⟨w, _, _, rfl, rfl, nw nq ew, (by rw [List.length_map]; exact small100k (by omega)), ?_⟩
        refine ⟨w, _, _, _, _, _, _, _, _, _, _, _, rfl, same_mut (nws nq s) nwn, nwn, tup_keep (nw nq hpt) (nw nq ew), ?_⟩
        rw [upd_same, ← nx, List.map_append]
        rfl
      | 1, hx =>
        cases hx
        have nx := nx (z := rs.map numS) rfl
        have hu' := sqT_imm (iS s) hu
        refine ⟨_, rfl, _, _, _, _, true, rfl, .ty _, sqT_tyV hu', kit_ty rfl, _, rfl, ite2 (fun _ => ?_) (fun z => absurd rfl z)⟩
        refine ⟨_, rfl, _, rfl, u, rfl, ⟨_, hu'⟩, fun D nD => ?_⟩
        refine strs_tup (ns := rs) hu' (by have := hs.2.2; omega) nD (fun n H2 R Z hn q => ⟨rfl, _, rfl, n, rfl, (hs.2.1 n hn).log, q⟩) ?_
        rintro H4 s4 e4
        refine ⟨w, D, _, _, rfl, rfl, s4 _ _ ew, e4, (by rw [List.length_map, List.length_map]; exact Nat.le_of_lt (small100k (by have := hs.2.2; omega))), fun q3 nq3 => ?_⟩
        refine ⟨q3, _, _, _, _, _, _, _, _, _, _, _, rfl, nws nq3 (s.trans s4), (s.trans s4).free nq3, nw nq3 (s4 _ _ hpt), ?_⟩
        rw [upd_same, ← nx, List.map_append, List.map_map]
        rfl
    | remove es =>
      obtain ⟨u, us, rfl, hu, hf⟩ := hR
      have hi0 : i = 0 := by
        have := (List.getElem?_eq_some_iff.mp hx).1
        simp at this
        exact this
      subst hi0
      cases hx
      have nx := nx (z := pairW es) rfl
      have hu' := sqT_imm (iS s) hu
      have hul : us.length = es.length := by rw [hf.length, List.length_map]
      refine ⟨_, rfl, t, _, 0, _, rfl, rfl, hT', ixv0, rfl, _, rfl, ite2 (fun z => absurd (V.str.inj (of_decide_eq_true z)) (show ("remove" : Str) ≠ "receive" by decide +kernel)) (fun _ => ?_)⟩
      refine ⟨_, rfl, t, _, 0, _, rfl, rfl, hT', ixv0, rfl, _, rfl, ite2 (fun _ => ?_) (fun z => absurd (decide_eq_true rfl) z)⟩
      refine ⟨_, rfl, u, rfl, ⟨_, hu'⟩, for_tup (xs := us) (fun j σ H8 => ∃ w' v9 v11, σ = [some (.ref t), some (.ref w'), some (.ref u), v3, v4, v5, v6, v7, v8, v9, v10, v11, v12] ∧
        Same H H8 ∧ H w' = none ∧ H8 p = some (.tup [.ref u]) ∧ H8 w' = some (.lst ((pre ++ pairW (es.take j)).map V.str))) ⟨w, _, _, rfl, s, nwn, hpt, by rw [ew]; rw [List.take_zero]; show _ = some (HO.lst ((pre ++ []).map V.str)); rw [List.append_nil]⟩ (fun j σ H8 _ ⟨_, _, _, _, s8, _⟩ => sqT_imm (iS s8) hu) ?_ ?_⟩
      · rintro j y σ H8 hy ⟨w', v9', v11', rfl, s8, n8, p8, e8⟩
        obtain ⟨dd, hd, fd⟩ := (hf.imm (iS s8)).getV hy
        rw [List.getElem?_map] at hd
        obtain ⟨c, hcc, rfl⟩ := Option.map_eq_some_iff.mp hd
        obtain ⟨tt, rfl, htt⟩ := fz_pair fd
        have hcm := hs.1 c (List.mem_of_getElem? hcc)
        have hcl : (es.take j).length ≤ 1000 := by rw [List.length_take]; have := hs.2; omega
        refine ⟨tt, _, rfl, htt, rfl, _, _, rfl, _, _, rfl, rfl, ?_⟩
        refine ⟨_, rfl, _, rfl, c.1, rfl, hcm.1.log, _, rfl, c.2, rfl, hcm.2.log, (by show 2 ≤ sizeLine; decide), fun q6 nq6 => ?_⟩
        refine ⟨w', q6, _, _, rfl, rfl, nw nq6 e8, upd_same, ?_, fun q7 nq7 => ?_⟩
        · refine Nat.le_of_lt (small100k ?_)
          rw [List.length_map, List.length_append, pairW_len]
          simp only [List.length_cons, List.length_nil]
          omega
        · refine ⟨q7, _, _, rfl, nws nq7 (nws nq6 s8), (nws nq6 s8).free nq7, nw nq7 (nw nq6 p8), ?_⟩
          rw [upd_same, take_sn hcc, show pairW (es.take j ++ [c]) = pairW (es.take j) ++ [numS c.1, numS c.2] by unfold pairW; rw [List.map_append, List.flatten_append]; rfl, ← List.append_assoc, List.map_append (l₂ := [numS c.1, numS c.2])]
          rfl
      · rintro σ H8 ⟨w', v9', v11', rfl, s8, n8, p8, e8⟩
        rw [hul, List.take_length] at e8
        refine ⟨w', _, _, _, _, _, _, _, _, _, _, _, rfl, s8, n8, p8, ?_⟩
        rw [e8, ← nx]
  · rintro σ H' ⟨w, v2, v3, v4, v5, v6, v7, v8, v9, v10, v11, v12, rfl, s, nwn, hpt, ew⟩
    have hvl : e.partW.take vs.length = e.partW := by rw [evR_len hR, List.take_length]
    rw [hvl, partW_flat] at ew
    exact ⟨⟨_, rfl⟩, _, rfl, " ", w, [e.wordS] ++ e.restS, rfl, rfl, .inl (SqL.of ew), hs.all, k _ s⟩

end
section
open PySem PySem.Spec PyProof.Rows L2
variable {P : Program} {w : World} {K : PySem.W.Frag} {mg : Str → Option Value} {base : Heap}
/-! ### reading the numbers of words -/
def sp__read_number (K : PySem.W.Frag) : Sp := SpOf (fun (z : Str) => [.str z]) fun z H Q => z.length ≤ 20000 ∧ ∀ H', Same H H' → Q (optV (readNum z)) H'
set_option maxHeartbeats 4000000 in
theorem ok__read_number (T : Txt K mg) : DefOk P w K mg base "_read_number" 1 ["text"] (sp__read_number K) := by
  refine DefOk.mk' T.d__read_number sc__read_number (fun _ _ _ _ _ _ us hl => match us, hl with | [_], _ => rfl) (fun _ => rfl) (fun cdv f A outer s H p Q E hr h => ?_)
  obtain ⟨hz, k⟩ := h
  refine ⟨_, (pss_cons (ps_if (PW.pt (pw_or (pt_not (pt_chain op_le op_le pe_int (pe_callB call_len_str (by rfl) T.n_len (by decide +kernel) (pa_cons (pv 0) pa_nil)) (pe_coI T.c_FIGURES_MOST rfl))) (pw_or1 (pt_val (pe_callB (cr_anyK (K := K) rfl) (by rfl) T.n_any (by decide +kernel) (pa_cons (pe_lc (own := [("sign", 1)]) (g := gName 1) (tt := tYes) rfl sc__read_number.nd (pi_str (pv 0)) (blkOk_by (own := [("sign", 1)]) (N := N__read_number) (sc := defScope s__read_number) (by decide +kernel)) (fun _ _ _ _ _ => pg_name (i := 1) sc__read_number.nd rfl (.inl rfl)) (fun _ _ _ _ _ => pts_nil) (fun _ _ _ _ _ => (pe_cmpR op_notIn_sign (pv 1) (pe_coS T.c_DIGITS rfl) rfl))) pa_nil))))))
    (pss_one (ps_ret pe_non))
    pss_nil)
    (pss_one (ps_ret (pe_ifExp (PW.pt (pw_and (pt_cmpR op_eq (pe_ix ix_str (pv 0) pe_int (fun _ _ => rfl)) pe_str (nomark _)) (pw_and1 (pt_cmpR op_gt (pe_callB call_len_str (by rfl) T.n_len (by decide +kernel) (pa_cons (pv 0) pa_nil)) pe_int (nomark _))))) pe_non (pe_callTy call_int_str (by rfl) T.n_int (by decide +kernel) (pa_cons (pv 0) pa_nil)))))), ?_⟩
  have no : badNum p = true → ∀ H', Same H H' → Q .non H' := fun hb H' s => by
    have := k H' s
    unfold readNum at this
    rw [if_pos hb] at this
    exact this
  have hsz : p.length ≤ sizeLine := Nat.le_of_lt (small100k (by omega))
  have hcs : p.cps.toList.length = p.length := by rw [Array.length_toList]; rfl
  refine ⟨_, rfl, p, rfl, hsz, _, _, rfl, rfl, _, rfl, ite2 (fun h1 => ?_) (fun h1 => ?_)⟩
  rotate_left
  · refine ⟨_, rfl, no ?_ _ (Same.refl H)⟩
    unfold badNum
    rw [show decide (1 ≤ p.length) = false from decide_eq_false (fun z => h1 (decide_eq_true (by show (1 : Int) ≤ (p.length : Nat); omega)))]
    rfl
  have h1 : 1 ≤ p.length := by have : (1 : Int) ≤ (p.length : Nat) := of_decide_eq_true h1; omega
  refine ⟨_, _, rfl, rfl, _, rfl, ite2 (fun h2 => ?_) (fun h2 => ?_)⟩
  · refine no ?_ _ (Same.refl H)
    have h2 : ¬ ((p.length : Nat) : Int) ≤ 5 := nd_of h2
    unfold badNum
    rw [show decide (p.length ≤ 5) = false from decide_eq_false (fun z => h2 (by omega)), Bool.and_false]
    rfl
  have h2 : p.length ≤ 5 := by have : ((p.length : Nat) : Int) ≤ 5 := d_of h2; omega
  refine ⟨_, rfl, p, rfl, fun D nD => ?_⟩
  refine lc_vals walk_str (p.cps.toList.map fun c => V.bl (!isDig c)) (by rw [List.length_map, Array.length_toList]) (by show p.length ≤ 20000; omega) nD (fun _ _ => trivial) ?_ ?_
  · rintro i x y H' H2 R Z hy s ⟨rfl, c, hc, rfl⟩ q
    rw [List.getElem?_map, Array.getElem?_toList, hc] at hy
    cases hy
    exact ⟨rfl, _, rfl, c, _, rfl, rfl, q H2 (Same.refl H2)⟩
  rintro H3 s3 e3
  refine ⟨D, p.cps.toList.map fun c => !isDig c, rfl, SqL.of (by rw [e3, List.map_map]; rfl), _, rfl, ite2 (fun h3 => ?_) (fun h3 => ?_)⟩
  · refine no ?_ _ s3
    rw [List.any_map] at h3
    unfold badNum
    rw [show (p.cps.toList.any fun c => !isDig c) = true from h3, Bool.or_true]
  have h3 : (p.cps.toList.any fun c => !isDig c) = false := by
    rw [List.any_map] at h3
    cases e : (p.cps.toList.any fun c => !isDig c) with
    | false => rfl
    | true => exact absurd e h3
  have hb : badNum p = false := by
    unfold badNum
    rw [h3, decide_eq_true h1, decide_eq_true h2]
    rfl
  have hd := (badNum_iff.mp hb).2
  obtain ⟨c, r, hcr⟩ := List.exists_cons_of_ne_nil (show p.cps.toList ≠ [] from fun e => by rw [e] at hcs; simp at hcs; omega)
  have hc0 : p.cps[0]? = some c := by rw [← Array.getElem?_toList, hcr]; rfl
  have sign0 : V.str ⟨#[c]⟩ = V.str "0" → c = 48 := fun e => by
    have e2 := congrArg (fun z : Str => z.cps.toList) (V.str.inj e)
    have e3 : [c] = ("0" : Str).cps.toList := e2
    rw [show ("0" : Str).cps.toList = [48] by decide +kernel] at e3
    exact (List.cons.inj e3).1
  have yes : ¬ (p.cps.toList.head? = some 48 ∧ 1 < p.length) → readNum p = some (NumText.digitsVal p.cps.toList : Int) := fun h => by
    unfold readNum
    rw [hb, if_neg (by decide), if_neg h]
  have none2 : (p.cps.toList.head? = some 48 ∧ 1 < p.length) → ∀ H', Same H H' → Q .non H' := fun h H' s => by
    have := k H' s
    unfold readNum at this
    rw [hb, if_neg (by decide), if_pos h] at this
    exact this
  have num : ¬ (p.cps.toList.head? = some 48 ∧ 1 < p.length) → Q (.int (NumText.digitsVal p.cps.toList : Int)) H3 := fun h => by
    have := k H3 s3
    rw [yes h] at this
    exact this
  have hit : intText? p = some ((NumText.digitsVal p.cps.toList : Nat) : Int) := PySem.intText_digits hd (by rw [hcr]; simp) (by omega)
  refine ⟨_, rfl, p, 0, c, rfl, rfl, hsz, by rw [hcr]; exact atI_nat (j := 0) rfl, rfl, _, rfl, ite2 (fun h4 => ?_) (fun h4 => ?_)⟩
  · have hc : c = 48 := sign0 (of_decide_eq_true h4)
    refine ⟨_, rfl, p, rfl, hsz, _, _, rfl, rfl, _, rfl, ite2 (fun h5 => ?_) (fun h5 => ?_)⟩
    · have h5 : (1 : Int) < (p.length : Nat) := of_decide_eq_true h5
      exact none2 ⟨by rw [hcr, hc]; rfl, by omega⟩ H3 s3
    · exact ⟨_, rfl, p, _, rfl, hit, by omega, num fun z => h5 (decide_eq_true (by show (1 : Int) < (p.length : Nat); have := z.2; omega))⟩
  · exact ⟨_, rfl, p, _, rfl, hit, by omega, num fun z => h4 (decide_eq_true (by
      have : c = 48 := by have := z.1; rw [hcr] at this; exact Option.some.inj this
      subst this
      exact congrArg V.str (show (⟨#[48]⟩ : Str) = "0" by decide +kernel)))⟩

end
section
open PySem PySem.Spec PyProof.Rows L2
variable {P : Program} {w : World} {K : PySem.W.Frag} {mg : Str → Option Value} {base : Heap}
/-! ### rows of numbers, rising rows -/
def RetL (o : Option (List Int)) (H : Hp) (Q : VK) : Prop := match o with
  | none => ∀ H', Same H H' → Q .non H'
  | some ns => ∀ (l : Addr) (H' : Hp), Same H H' → H l = none → H' l = some (.lst (ns.map V.int)) → Q (.ref l) H'
def RetE (K : PySem.W.Frag) (o : Option PyData) (H : Hp) (Q : VK) : Prop := match o with
  | none => ∀ H', Same H H' → Q .non H'
  | some d => ∀ (l : Addr) (H' : Hp), Same H H' → Fz K H' (.ref l) d → Q (.ref l) H'
theorem RetE.no {K : PySem.W.Frag} {o : Option PyData} {H : Hp} {Q : VK} (k : RetE K o H Q) (h : o = none) {H' : Hp} (s : Same H H') : Q .non H' := by
  subst h
  exact k H' s
theorem RetE.yes {K : PySem.W.Frag} {o : Option PyData} {H : Hp} {Q : VK} (k : RetE K o H Q) {d : PyData} (h : o = some d) {l : Addr} {H' : Hp} (s : Same H H') (f : Fz K H' (.ref l) d) : Q (.ref l) H' := by
  subst h
  exact k l H' s f
theorem nums_some : ∀ {ws : List Str} {ns : List Int}, readNums ws = some ns → ws.map readNum = ns.map some
  | [], _, h => by cases h; rfl
  | w :: ws, ns, h => by
    rw [readNums] at h
    split at h
    · rename_i n ms h1 h2
      cases h
      rw [List.map_cons, List.map_cons, h1, nums_some h2]
    · cases h
theorem nums_none : ∀ {ws : List Str}, readNums ws = none → (ws.any fun w => (readNum w).isNone) = true
  | [], h => by cases h
  | w :: ws, h => by
    rw [readNums] at h
    rw [List.any_cons]
    split at h
    · cases h
    · rename_i hn
      cases h1 : readNum w with
      | none => rfl
      | some n =>
        cases h2 : readNums ws with
        | none => rw [nums_none h2]; rfl
        | some ms => exact (hn n ms h1 h2).elim
theorem nums_any {ws : List Str} {ns : List Int} (h : readNums ws = some ns) : (ws.any fun w => (readNum w).isNone) = false := by
  have e := nums_some h
  rw [List.any_eq_false]
  intro w hw
  have : readNum w ∈ ns.map some := by rw [← e]; exact List.mem_map_of_mem hw
  obtain ⟨n, _, hn⟩ := List.mem_map.mp this
  rw [← hn]
  exact fun h => by cases h
def sp__read_numbers (K : PySem.W.Frag) : Sp := SpOf (fun ((a, _) : Addr × List Str) => [.ref a]) fun (a, ws) H Q => SqL K H a (ws.map V.str) ∧ ws.length ≤ 20000 ∧ (∀ z ∈ ws, z.length ≤ 20000) ∧ RetL (readNums ws) H Q
set_option maxHeartbeats 4000000 in
theorem ok__read_numbers (T : Txt K mg) : DefOk P w K mg base "_read_numbers" 2 ["words"] (sp__read_numbers K) := by
  have G__read_number := ok__read_number (P := P) (w := w) (base := base) T
  refine DefOk.mk' T.d__read_numbers sc__read_numbers (fun _ _ _ _ _ _ us hl => match us, hl with | [_], _ => rfl) (fun _ => rfl) (fun cdv f A outer s H p Q E hr h => ?_)
  obtain ⟨a, ws⟩ := p
  obtain ⟨hS, hl, hz, k⟩ := h
  refine ⟨_, (pss_cons (ps_setLc (i := 1) (own := [("word", 2)]) (g := gName 2) (tt := tYes) rfl sc__read_numbers.nd rfl rfl (sw_true rfl rfl rfl (by decide +kernel)) (ilistK (K := K) (pi_list (pv 0))) (blkOk_by (own := [("word", 2)]) (N := N__read_numbers) (sc := defScope s__read_numbers) (by decide +kernel)) (fun _ _ _ _ _ => pg_name (i := 2) sc__read_numbers.nd rfl (.inl rfl)) (fun _ _ _ _ _ => pts_nil) (fun _ _ _ _ _ => (pe_callD G__read_number (hr.mono (by decide)) rfl (pa_cons (pv 2) pa_nil))))
    (pss_one (ps_ret (pe_ifExp (pt_val (pe_callB (cr_anyK (K := K) rfl) (by rfl) T.n_any (by decide +kernel) (pa_cons (pe_lc (own := [("number", 3)]) (g := gName 3) (tt := tYes) rfl sc__read_numbers.nd (ilistK (K := K) (pi_list (pv 1))) (blkOk_by (own := [("number", 3)]) (N := N__read_numbers) (sc := defScope s__read_numbers) (by decide +kernel)) (fun _ _ _ _ _ => pg_name (i := 3) sc__read_numbers.nd rfl (.inl rfl)) (fun _ _ _ _ _ => pts_nil) (fun _ _ _ _ _ => (pe_cmpR op_isN (pv 3) pe_non (nomark _)))) pa_nil))) pe_non (pv 1))))), ?_⟩
  refine ⟨_, rfl, a, rfl, ⟨_, hS⟩, fun D nD => ?_⟩
  refine lc_vals (walk_list (xs := ws.map V.str)) (ws.map fun w => optV (readNum w)) (by rw [List.length_map, List.length_map]) (by rw [List.length_map]; exact hl) nD (fun H' s => s.seq hS) ?_ ?_
  · rintro i x y H' H2 R Z hy s ⟨rfl, hx⟩ q
    rw [List.getElem?_map] at hx hy
    obtain ⟨w, hw, rfl⟩ := Option.map_eq_some_iff.mp hx
    rw [hw] at hy
    cases hy
    exact ⟨rfl, _, rfl, w, rfl, hz w (List.mem_of_getElem? hw), q⟩
  rintro H3 s3 e3
  refine ⟨_, rfl, D, rfl, ⟨_, SqL.of e3⟩, fun E nE => ?_⟩
  refine lc_vals (walk_list (xs := ws.map fun w => optV (readNum w))) (ws.map fun w => V.bl (readNum w).isNone) (by rw [List.length_map, List.length_map]) (by rw [List.length_map]; exact hl) nE (fun H' s => SqL.of (s _ _ e3)) ?_ ?_
  · rintro i x y H' H2 R Z hy s ⟨rfl, hx⟩ q
    rw [List.getElem?_map] at hx hy
    obtain ⟨w, hw, rfl⟩ := Option.map_eq_some_iff.mp hx
    rw [hw] at hy
    cases hy
    refine ⟨rfl, _, rfl, rfl, ?_⟩
    rw [show V.bl (decide (optV (readNum w) = V.non)) = V.bl (readNum w).isNone by cases readNum w <;> rfl]
    exact q _ (Same.refl _)
  rintro H4 s4 e4
  have s := s3.trans s4
  refine ⟨E, ws.map fun w => (readNum w).isNone, rfl, SqL.of (by rw [e4, List.map_map]; rfl), _, rfl, ite2 (fun h => ?_) (fun h => ?_)⟩
  · rw [List.any_map] at h
    cases e : readNums ws with
    | none => rw [e] at k; exact k H4 s
    | some ns =>
      have := nums_any e
      exact absurd (show (ws.any fun w => (readNum w).isNone) = true from h) (by rw [this]; exact fun z => nomatch z)
  · rw [List.any_map] at h
    cases e : readNums ws with
    | none => exact absurd (show _ from nums_none e) h
    | some ns =>
      rw [e] at k
      refine ⟨_, rfl, k D H4 s nD ?_⟩
      rw [s4 _ _ e3]
      congr 2
      have := nums_some e
      have e2 : (ws.map fun w => optV (readNum w)) = (ws.map readNum).map optV := by rw [List.map_map]; rfl
      rw [e2, this, List.map_map]
      rfl
theorem walk_zipT {K : PySem.W.Frag} {a b : Addr} {xs ys : List V} {n : Nat} (hn : n = min xs.length ys.length) : Walk (RZ.ItzT K a b) n (fun H => SqT K H a xs ∧ SqT K H b ys) (YPair (fun i => xs[i]?) (fun i => ys[i]?)) := by
  subst hn
  refine ⟨fun i _ hi q => ?_, fun _ q => ⟨xs, ys, q.1, q.2, by omega⟩, fun i H v H' _ q y => ?_⟩
  · have h1 : i < xs.length := by omega
    have h2 : i < ys.length := by omega
    exact ⟨xs, ys, xs[i], ys[i], q.1, q.2, by simp [h1], by simp [h2]⟩
  · obtain ⟨T, x, z, h1, h2, h3, h4, h5⟩ := y
    exact ⟨T, x, z, h1, h2, h3, h4 xs q.1, h5 ys q.2⟩
theorem risesI_all : ∀ ns : List Int, risesI ns = ((ns.zip (ns.drop 1)).map fun p => decide (p.1 < p.2)).all id
  | [] => rfl
  | [_] => rfl
  | a :: b :: r => by
    have ih := risesI_all (b :: r)
    show (decide (a < b) && risesI (b :: r)) = _
    rw [ih]
    rfl
theorem risesP_all : ∀ ns : List (Int × Int), risesP ns = ((ns.zip (ns.drop 1)).map fun p => ltPB p.1 p.2).all id
  | [] => rfl
  | [_] => rfl
  | a :: b :: r => by
    have ih := risesP_all (b :: r)
    show (ltPB a b && risesP (b :: r)) = _
    rw [ih]
    rfl
theorem lexLt_pair (a b : Int × Int) : HT.lexLt [a.1, a.2] [b.1, b.2] = ltPB a b := by
  rw [HT.lexLt_cons, HT.lexLt_cons, HT.lexLt_nil_nil]
  unfold ltPB
  by_cases h1 : a.1 = b.1
  · rw [if_pos h1, h1]
    by_cases h2 : a.2 = b.2
    · rw [if_pos h2, h2]; simp
    · rw [if_neg h2]; simp
  · rw [if_neg h1]; simp [h1]
/-- a list of ints or a tuple of pairs; whether it rises -/
inductive RowsV (K : PySem.W.Frag) (H : Hp) : V → Bool → Prop
  | isI {a : Addr} {ns : List Int} (h : SqL K H a (ns.map V.int)) (hl : ns.length ≤ 20000) : RowsV K H (.ref a) (risesI ns)
  | isP {t : Addr} {vs : List V} {ps : List (Int × Int)} (h : SqT K H t vs) (f : FzAll K H vs (ps.map pairD)) (hl : ps.length ≤ 20000) : RowsV K H (.ref t) (risesP ps)
def sp__rises (K : PySem.W.Frag) : Sp := SpOf (fun (v : V) => [v]) fun v H Q => ∃ b, RowsV K H v b ∧ ∀ H', Same H H' → Q (.bl b) H'
set_option maxHeartbeats 4000000 in
theorem ok__rises (T : Txt K mg) : DefOk P w K mg base "_rises" 1 ["rows"] (sp__rises K) := by
  refine DefOk.mk' T.d__rises sc__rises (fun _ _ _ _ _ _ us hl => match us, hl with | [_], _ => rfl) (fun _ => rfl) (fun cdv f A outer s H p Q E hr h => ?_)
  obtain ⟨b, hr', k⟩ := h
  refine ⟨_, (pss_one (ps_ret (pe_callB (cr_allK (K := K) rfl) (by rfl) T.n_all (by decide +kernel) (pa_cons (pe_lc (own := [("one", 1), ("other", 2)]) (g := gTup K 2 (gCons (gName 1) (gCons (gName 2) gNil))) (tt := tYes) rfl sc__rises.nd (izipAK (K := K) (RZ.pi_zipA (by rfl) T.n_zip (pa_cons (pv 0) (pa_cons (pe_slice (sl_anyK (K := K)) (pv 0) (po_some pe_int) po_none) pa_nil)))) (blkOk_by (own := [("one", 1), ("other", 2)]) (N := N__rises) (sc := defScope s__rises) (by decide +kernel)) (fun _ _ _ _ _ => gtupK (K := K) (pg_tup rfl (pgs_cons (pg_name (i := 1) sc__rises.nd rfl (.inl rfl)) (pgs_cons (pg_name (i := 2) sc__rises.nd rfl (.inl rfl)) pgs_nil)))) (fun _ _ _ _ _ => pts_nil) (fun _ _ _ _ _ => (pe_cmpR (op_ltEK (K := K) (Nat.lt_of_succ_lt hr.hu)) (pv 1) (pv 2) (nomark _)))) pa_nil)))), ?_⟩
  cases hr' with
  | @isI a ns hS hl =>
    refine ⟨_, rfl, _, rfl, 1, rfl, .inl ⟨a, _, rfl, hS, fun q nq => ?_⟩⟩
    rw [show cutV (ns.map V.int) (some 1) none = (ns.drop 1).map V.int from (cutV_from (a := 1) rfl).trans (List.map_drop).symm]
    have s1 : Same H (upd H q (.lst ((ns.drop 1).map V.int))) := nws nq (Same.refl H)
    have e1 : upd H q (.lst ((ns.drop 1).map V.int)) q = some (.lst ((ns.drop 1).map V.int)) := upd_same
    generalize upd H q (.lst ((ns.drop 1).map V.int)) = H1 at s1 e1 ⊢
    refine ⟨a, q, _, _, rfl, .inl ⟨s1.seq hS, SqL.of e1, fun D nD => ?_⟩⟩
    refine lc_vals (walk_zip (n := (ns.zip (ns.drop 1)).length) (by rw [List.length_zip, List.length_map, List.length_map])) ((ns.zip (ns.drop 1)).map fun p => V.bl (decide (p.1 < p.2))) (by rw [List.length_map]) (by rw [List.length_zip]; omega) nD (fun H' s => ⟨(s1.trans s).seq hS, SqL.of (s _ _ e1)⟩) ?_ ?_
    · rintro i x y H' H2 R Z hy s ⟨T, u, v, rfl, nT, rfl, hu, hv⟩ q
      have hu : (ns.map V.int)[i]? = some u := hu
      have hv : ((ns.drop 1).map V.int)[i]? = some v := hv
      rw [List.getElem?_map] at hu hv hy
      obtain ⟨n, hn, rfl⟩ := Option.map_eq_some_iff.mp hu
      obtain ⟨m, hm, rfl⟩ := Option.map_eq_some_iff.mp hv
      rw [List.zip_eq_zipWith, List.getElem?_zipWith, hn, hm] at hy
      cases hy
      exact ⟨T, _, rfl, SqT.of upd_same, rfl, _, _, rfl, _, _, rfl, rfl, rfl, _, rfl, _, rfl, .inl ⟨_, _, rfl, rfl, q _ (nws nT (Same.refl _))⟩⟩
    rintro H3 s3 e3
    refine ⟨D, (ns.zip (ns.drop 1)).map fun p => decide (p.1 < p.2), rfl, SqL.of (by rw [e3, List.map_map]; rfl), ?_⟩
    rw [← risesI_all]
    exact k H3 (s1.trans s3)
  | @isP t vs ps hS hf hl =>
    refine ⟨_, rfl, _, rfl, 1, rfl, .inr ⟨t, _, rfl, hS, fun z => ?_, fun z q nq => ?_⟩⟩
    · have hv0 : vs.drop 1 = vs := by
        cases vs with
        | nil => rfl
        | cons x l => exact cut_nfull z
      have s1 : Same H H := Same.refl H
      have h1 : SqT K H t (vs.drop 1) := by rw [hv0]; exact hS
      refine ⟨t, t, vs, vs.drop 1, rfl, .inr ⟨sqT_imm (Imm.same s1) hS, h1, fun D nD => ?_⟩⟩
      refine lc_vals (walk_zipT (n := (ps.zip (ps.drop 1)).length) (by rw [List.length_zip, List.length_drop, List.length_drop, hf.length, List.length_map])) ((ps.zip (ps.drop 1)).map fun p => V.bl (ltPB p.1 p.2)) (by rw [List.length_map]) (by rw [List.length_zip]; omega) nD (fun H' s => ⟨sqT_imm (Imm.same (s1.trans s)) hS, sqT_imm (Imm.same s) h1⟩) ?_ ?_
      · rintro i x y H' H2 R Z hy s ⟨T, u, v, rfl, nT, rfl, hu, hv⟩ q
        have hu : vs[i]? = some u := hu
        have hv : (vs.drop 1)[i]? = some v := hv
        rw [List.getElem?_drop] at hv
        obtain ⟨du, hdu, fu⟩ := hf.getV hu
        obtain ⟨dv, hdv, fv⟩ := hf.getV hv
        rw [List.getElem?_map] at hdu hdv
        obtain ⟨n, hn, rfl⟩ := Option.map_eq_some_iff.mp hdu
        obtain ⟨m, hm, rfl⟩ := Option.map_eq_some_iff.mp hdv
        rw [List.getElem?_map, List.zip_eq_zipWith, List.getElem?_zipWith, List.getElem?_drop, hn, hm] at hy
        cases hy
        have s2 : Same H (upd H' T (.tup [u, v])) := (s1.trans s).trans (nws nT (Same.refl _))
        have hTT : upd H' T (.tup [u, v]) T = some (.tup [u, v]) := upd_same
        obtain ⟨tu, rfl, h5⟩ := fz_pair (fu.imm (Imm.same s2))
        obtain ⟨tv, rfl, h6⟩ := fz_pair (fv.imm (Imm.same s2))
        refine ⟨T, _, rfl, SqT.of hTT, rfl, _, _, rfl, _, _, rfl, rfl, rfl, _, rfl, _, rfl, .inr ⟨tu, tv, [n.1, n.2], [m.1, m.2], rfl, rfl, h5, h6, ?_⟩⟩
        rw [lexLt_pair]
        exact q _ (nws nT (Same.refl _))
      rintro H3 s3 e3
      refine ⟨D, (ps.zip (ps.drop 1)).map fun p => ltPB p.1 p.2, rfl, SqL.of (by rw [e3, List.map_map]; rfl), ?_⟩
      rw [← risesP_all]
      exact k H3 (s1.trans s3)
    · rw [show cutV vs (some 1) none = vs.drop 1 from cutV_from (a := 1) rfl]
      have s1 : Same H (upd H q (.tup (vs.drop 1))) := nws nq (Same.refl H)
      have h1 : SqT K (upd H q (.tup (vs.drop 1))) q (vs.drop 1) := SqT.of upd_same
      generalize upd H q (.tup (vs.drop 1)) = H1 at s1 h1 ⊢
      refine ⟨t, q, vs, vs.drop 1, rfl, .inr ⟨sqT_imm (Imm.same s1) hS, h1, fun D nD => ?_⟩⟩
      refine lc_vals (walk_zipT (n := (ps.zip (ps.drop 1)).length) (by rw [List.length_zip, List.length_drop, List.length_drop, hf.length, List.length_map])) ((ps.zip (ps.drop 1)).map fun p => V.bl (ltPB p.1 p.2)) (by rw [List.length_map]) (by rw [List.length_zip]; omega) nD (fun H' s => ⟨sqT_imm (Imm.same (s1.trans s)) hS, sqT_imm (Imm.same s) h1⟩) ?_ ?_
      · rintro i x y H' H2 R Z hy s ⟨T, u, v, rfl, nT, rfl, hu, hv⟩ q
        have hu : vs[i]? = some u := hu
        have hv : (vs.drop 1)[i]? = some v := hv
        rw [List.getElem?_drop] at hv
        obtain ⟨du, hdu, fu⟩ := hf.getV hu
        obtain ⟨dv, hdv, fv⟩ := hf.getV hv
        rw [List.getElem?_map] at hdu hdv
        obtain ⟨n, hn, rfl⟩ := Option.map_eq_some_iff.mp hdu
        obtain ⟨m, hm, rfl⟩ := Option.map_eq_some_iff.mp hdv
        rw [List.getElem?_map, List.zip_eq_zipWith, List.getElem?_zipWith, List.getElem?_drop, hn, hm] at hy
        cases hy
        have s2 : Same H (upd H' T (.tup [u, v])) := (s1.trans s).trans (nws nT (Same.refl _))
        have hTT : upd H' T (.tup [u, v]) T = some (.tup [u, v]) := upd_same
        obtain ⟨tu, rfl, h5⟩ := fz_pair (fu.imm (Imm.same s2))
        obtain ⟨tv, rfl, h6⟩ := fz_pair (fv.imm (Imm.same s2))
        refine ⟨T, _, rfl, SqT.of hTT, rfl, _, _, rfl, _, _, rfl, rfl, rfl, _, rfl, _, rfl, .inr ⟨tu, tv, [n.1, n.2], [m.1, m.2], rfl, rfl, h5, h6, ?_⟩⟩
        rw [lexLt_pair]
        exact q _ (nws nT (Same.refl _))
      rintro H3 s3 e3
      refine ⟨D, (ps.zip (ps.drop 1)).map fun p => ltPB p.1 p.2, rfl, SqL.of (by rw [e3, List.map_map]; rfl), ?_⟩
      rw [← risesP_all]
      exact k H3 (s1.trans s3)

end
section
open PySem PySem.Spec PyProof.Rows L2
variable {P : Program} {w : World} {K : PySem.W.Frag} {mg : Str → Option Value} {base : Heap}
/-! ### reading the words of events -/
theorem map_odds {α β : Type} {f : α → β} : ∀ l : List α, evens (l.map f) = (evens l).map f
  | [] => rfl
  | [_] => rfl
  | _ :: _ :: r => by
    show f _ :: evens (r.map f) = f _ :: (evens r).map f
    rw [map_odds r]
theorem kinds_all {ws : List Str} : (ws.map fun w => !isKind w).any id = !(ws.all isKind) := by
  induction ws with
  | nil => rfl
  | cons w ws ih =>
    rw [List.map_cons, List.any_cons, ih, List.all_cons]
    cases isKind w <;> rfl
theorem kindS_kindB {z : Str} (h : isKind z = true) : kindS (kindB z) = z := by
  unfold isKind at h
  rw [Bool.or_eq_true, decide_eq_true_iff, decide_eq_true_iff] at h
  rcases h with rfl | rfl <;> decide +kernel
theorem paired_car {K : PySem.W.Frag} {H : Hp} : ∀ {ks : List Str} {ns : List Int} {ts : List Addr}, Paired (fun (t : Addr) (q : V × V) => H t = some (.tup [q.1, q.2])) ts ((ks.map V.str).zip (ns.map V.int)) → (∀ z ∈ ks, isKind z = true) → FzAll K H (ts.map V.ref) (((ks.map kindB).zip ns).map carD)
  | [], _, ts, h, _ => by
    cases h
    exact .nil
  | k :: ks, [], ts, h, _ => by
    cases h
    exact .nil
  | k :: ks, n :: ns, ts, h, hk => by
    cases h with
    | cons a b =>
      refine .cons (.tup (SqT.of a) (.cons ?_ (.cons (.int _) .nil))) (paired_car b fun z hz => hk z (List.mem_cons_of_mem _ hz))
      rw [show kindS (kindB k, n).1 = k from kindS_kindB (hk k List.mem_cons_self)]
      exact .str _
def sp__read_carried (K : PySem.W.Frag) : Sp := SpOf (fun ((a, _) : Addr × List Str) => [.ref a]) fun (a, ws) H Q => SqL K H a (ws.map V.str) ∧ ws.length ≤ 20000 ∧ (∀ z ∈ ws, z.length ≤ 20000) ∧ RetE K ((readCar ws).map fun cs => .tuple (cs.map carD)) H Q
set_option maxHeartbeats 4000000 in
theorem ok__read_carried (T : Txt K mg) : DefOk P w K mg base "_read_carried" 3 ["words"] (sp__read_carried K) := by
  have G__read_numbers := ok__read_numbers (P := P) (w := w) (base := base) T
  refine DefOk.mk' T.d__read_carried sc__read_carried (fun _ _ _ _ _ _ us hl => match us, hl with | [_], _ => rfl) (fun _ => rfl) (fun cdv f A outer s H p Q E hr h => ?_)
  obtain ⟨a, ws⟩ := p
  obtain ⟨hS, hl, hz, k⟩ := h
  refine ⟨_, (pss_cons (ps_if (PW.pt (pw_or (pt_cmpR op_gt (pe_callB (call_lenK (K := K)) (by rfl) T.n_len (by decide +kernel) (pa_cons (pv 0) pa_nil)) (pe_op op_mul pe_int (pe_coI T.c_CARRIED_MOST rfl)) (nomark _)) (pw_or1 (pt_cmpR op_ne (pe_callB (call_lenK (K := K)) (by rfl) T.n_len (by decide +kernel) (pa_cons (pv 0) pa_nil)) (pe_op op_mul pe_int (pe_op op_fdivN (pe_callB (call_lenK (K := K)) (by rfl) T.n_len (by decide +kernel) (pa_cons (pv 0) pa_nil)) pe_int)) (nomark _)))))
    (pss_one (ps_ret pe_non))
    pss_nil)
    (pss_cons (ps_set (i := 1) sc__read_carried.nd rfl (.inl rfl) (pe_callD G__read_numbers (hr.mono (by decide)) rfl (pa_cons (step2K (K := K) (pe_step2 1 (pv 0))) pa_nil)))
    (pss_cons (ps_if (PW.pt (pw_or (pt_cmpR op_isN (pv 1) pe_non (nomark _)) (pw_or1 (pt_val (pe_callB (cr_anyK (K := K) rfl) (by rfl) T.n_any (by decide +kernel) (pa_cons (pe_lc (own := [("kind", 2)]) (g := gName 2) (tt := tYes) rfl sc__read_carried.nd (ilistK (K := K) (pi_list (step2K (K := K) (pe_step2 0 (pv 0))))) (blkOk_by (own := [("kind", 2)]) (N := N__read_carried) (sc := defScope s__read_carried) (by decide +kernel)) (fun _ _ _ _ _ => pg_name (i := 2) sc__read_carried.nd rfl (.inl rfl)) (fun _ _ _ _ _ => pts_nil) (fun _ _ _ _ _ => (pe_and (pe_cmpR op_ne (pv 2) (pe_coS T.c_EXPORT rfl) (nomark _)) (pe_one (pe_cmpR op_ne (pv 2) (pe_coS T.c_RETURN rfl) (nomark _)))))) pa_nil))))))
    (pss_one (ps_ret pe_non))
    pss_nil)
    (pss_one (ps_ret (tupZipK (K := K) (pe_tupZip rfl (pa_cons (step2K (K := K) (pe_step2 0 (pv 0))) (pa_cons (pv 1) pa_nil)) (by rfl) T.n_tuple (by rfl) T.n_zip))))))), ?_⟩
  have hlen : (ws.map V.str).length = ws.length := List.length_map ..
  refine ⟨_, rfl, a, _, rfl, .inl hS, _, _, rfl, rfl, .inl ⟨by decide, by decide⟩, _, _, rfl, rfl, _, rfl, ite2 (fun h1 => ?_) (fun h1 => ?_)⟩
  · have h1 : (2 : Int) * 4 < ((ws.map V.str).length : Nat) := of_decide_eq_true h1
    refine k.no ?_ (Same.refl H)
    unfold readCar
    rw [if_pos (.inl (by omega))]
    rfl
  have h1 : ¬ 8 < ws.length := fun z => h1 (decide_eq_true (by show (2 : Int) * 4 < ((ws.map V.str).length : Nat); omega))
  have efd : (((ws.map V.str).length : Nat) : Int).fdiv 2 = (((ws.map V.str).length / 2 : Nat) : Int) := by
    rw [Int.fdiv_eq_ediv_of_nonneg _ (by decide)]
    rfl
  refine ⟨_, rfl, a, _, rfl, .inl hS, _, rfl, a, _, rfl, .inl hS, _, _, rfl, rfl, ⟨by decide, by decide⟩, _, _, rfl, rfl, .inl ⟨by decide, by decide⟩, rfl, _, rfl, ite2 (fun h2 => ?_) (fun h2 => ?_)⟩
  · have h2 := nd_of h2
    refine k.no ?_ (Same.refl H)
    unfold readCar
    rw [if_pos (.inr (by
      rcases Nat.mod_two_eq_zero_or_one ws.length with z | z
      · exact absurd (congrArg V.int (show (((ws.map V.str).length : Nat) : Int) = 2 * (((ws.map V.str).length : Nat) : Int).fdiv 2 by rw [efd]; omega)) h2
      · exact z))]
    rfl
  have h2 : ws.length % 2 = 0 := by
    have := V.int.inj (d_of h2)
    have : (((ws.map V.str).length : Nat) : Int) = 2 * (((ws.map V.str).length : Nat) : Int).fdiv 2 := this
    rw [efd] at this
    omega
  have er : readCar ws = match readNums (evens (ws.drop 1)) with
    | none => none
    | some ns => if (evens ws).all isKind = true then some (((evens ws).map kindB).zip ns) else none := by
    rw [readCar, if_neg (by omega)] <;> rfl
  refine ⟨_, rfl, a, _, rfl, hS, fun q nq => ?_⟩
  rw [← List.map_drop, map_odds]
  have s1 : Same H (upd H q (.lst ((evens (ws.drop 1)).map V.str))) := nws nq (Same.refl H)
  have e1 : upd H q (.lst ((evens (ws.drop 1)).map V.str)) q = some (.lst ((evens (ws.drop 1)).map V.str)) := upd_same
  generalize upd H q (.lst ((evens (ws.drop 1)).map V.str)) = H1 at s1 e1 ⊢
  have hev : (evens (ws.drop 1)).length ≤ 20000 := Nat.le_trans (evens_len _) (by rw [List.length_drop]; omega)
  refine ⟨(q, evens (ws.drop 1)), rfl, SqL.of e1, hev, fun z hz' => hz z (List.mem_of_mem_drop (mem_evens hz')), ?_⟩
  cases e : readNums (evens (ws.drop 1)) with
  | none =>
    exact fun H2 s2 => ⟨_, rfl, rfl, _, rfl, ite2 (fun _ => k.no (by rw [er, e]; rfl) (s1.trans s2)) (fun z => absurd (decide_eq_true rfl) z)⟩
  | some ns =>
    intro l H2 s2 nl el
    have sA := s1.trans s2
    have er2 : readCar ws = if (evens ws).all isKind = true then some (((evens ws).map kindB).zip ns) else none := by rw [er, e]
    refine ⟨_, rfl, rfl, _, rfl, ite2 (fun z => nomatch (show V.ref l = V.non from of_decide_eq_true z)) (fun _ => ?_)⟩
    refine ⟨_, rfl, a, _, rfl, sA.seq hS, fun q2 nq2 => ?_⟩
    rw [List.drop_zero, map_odds]
    have s3 : Same H2 (upd H2 q2 (.lst ((evens ws).map V.str))) := nws nq2 (Same.refl H2)
    have e3 : upd H2 q2 (.lst ((evens ws).map V.str)) q2 = some (.lst ((evens ws).map V.str)) := upd_same
    generalize upd H2 q2 (.lst ((evens ws).map V.str)) = H3 at s3 e3 ⊢
    refine ⟨q2, rfl, ⟨_, SqL.of e3⟩, fun D nD => ?_⟩
    have hev2 : (evens ws).length ≤ 20000 := Nat.le_trans (evens_len _) hl
    refine lc_vals (walk_list (xs := (evens ws).map V.str)) ((evens ws).map fun w => V.bl (!isKind w)) (by rw [List.length_map, List.length_map]) (by rw [List.length_map]; exact hev2) nD (fun H' s => SqL.of (s _ _ e3)) ?_ ?_
    · rintro i x y H' H4 R Z hy s ⟨rfl, hx⟩ qq
      rw [List.getElem?_map] at hx hy
      obtain ⟨w, hw, rfl⟩ := Option.map_eq_some_iff.mp hx
      rw [hw] at hy
      cases hy
      have qq : R (V.bl (!isKind w)) H4 := qq _ (Same.refl _)
      refine ⟨rfl, _, rfl, rfl, _, rfl, ite2 (fun z => ?_) (fun z => ?_)⟩
      · have n1 : w ≠ "export" := fun e => nd_of z (congrArg V.str e)
        refine ⟨_, rfl, rfl, ?_⟩
        have : (!isKind w) = !decide (V.str w = V.str cs_RETURN) := by
          unfold isKind
          rw [decide_eq_false n1, Bool.false_or]
          congr 1
          exact decide_eq_decide.mpr ⟨fun e => congrArg V.str e, fun e => V.str.inj e⟩
        rw [← this]
        exact qq
      · have n1 : w = "export" := V.str.inj (d_of z)
        have : (!isKind w) = false := by rw [n1]; decide +kernel
        rw [this] at qq
        exact qq
    rintro H5 s5 e5
    refine ⟨D, (evens ws).map fun w => !isKind w, rfl, SqL.of (by rw [e5, List.map_map]; rfl), _, rfl, ite2 (fun z => ?_) (fun z => ?_)⟩
    · rw [kinds_all] at z
      exact k.no (by rw [er2, if_neg (by simpa using z)]; rfl) ((sA.trans s3).trans s5)
    · rw [kinds_all] at z
      have z : (evens ws).all isKind = true := by simpa using z
      have sC := (sA.trans s3).trans s5
      refine ⟨_, rfl, a, _, rfl, sC.seq hS, fun q6 nq6 => ?_⟩
      rw [List.drop_zero, map_odds]
      refine ⟨_, rfl, q6, l, _, _, rfl, SqL.of upd_same, SqL.of (nw nq6 ((s3.trans s5) _ _ el)), ?_, fun H7 p7 ts s7 np e7 pr => ?_⟩
      · have := (readNums_bd e).1
        rw [List.length_map, List.length_map, this, evens_half, evens_half, List.length_drop]
        omega
      · refine k.yes (by rw [er2, if_pos z]; rfl) (sC.trans ((nws nq6 (Same.refl _)).trans s7)) (.tup (SqT.of e7) ?_)
        exact paired_car pr (List.all_eq_true.mp z)
theorem flat_strs (ws : List Str) : (ws.map V.str).all flatV = true := by
  rw [List.all_eq_true]
  intro x hx
  obtain ⟨w, _, rfl⟩ := List.mem_map.mp hx
  rfl
theorem eqV_str (a b : Str) : eqV (.str a) (.str b) = decide (a = b) := by
  show (a == b) = _
  rw [Bool.eq_iff_iff]
  simp
theorem inV_strs {z : Str} : ∀ ws : List Str, inV (.str z) (ws.map V.str) = decide (z ∈ ws)
  | [] => by simp [inV]
  | w :: ws => by
    show (eqV (.str w) (.str z) || inV (.str z) (ws.map V.str)) = _
    rw [inV_strs ws, eqV_str, Bool.eq_iff_iff]
    simp only [Bool.or_eq_true, decide_eq_true_iff, List.mem_cons]
    exact or_congr ⟨fun e => e.symm, fun e => e.symm⟩ Iff.rfl
theorem idx_first {z : Str} {ws : List Str} {m : Nat} {y : Str} (hm : m < ws.idxOf z) (hy : ws[m]? = some y) : y ≠ z := by
  intro e
  subst e
  induction ws generalizing m with
  | nil => simp at hy
  | cons w ws ih =>
    rw [List.idxOf_cons] at hm
    by_cases hw : (w == y) = true
    · rw [hw] at hm
      simp at hm
    · have hw : (w == y) = false := by simpa using hw
      rw [hw] at hm
      simp only [cond_false] at hm
      cases m with
      | zero =>
        cases hy
        simp at hw
      | succ m => exact ih hy (Nat.lt_of_succ_lt_succ hm)
def sp__read_receive (K : PySem.W.Frag) : Sp := SpOf (fun ((who, a, _) : Int × Addr × List Str) => [.int who, .ref a]) fun (who, a, ws) H Q => SqL K H a (ws.map V.str) ∧ ws.length ≤ 20000 ∧ (∀ z ∈ ws, z.length ≤ 20000) ∧ RetE K ((readReceive who ws).map Ev.data) H Q
set_option maxHeartbeats 4000000 in
theorem ok__read_receive (T : Txt K mg) : DefOk P w K mg base "_read_receive" 4 ["receiver", "words"] (sp__read_receive K) := by
  have G__read_numbers := ok__read_numbers (P := P) (w := w) (base := base) T
  have G__read_carried := ok__read_carried (P := P) (w := w) (base := base) T
  have G__rises := ok__rises (P := P) (w := w) (base := base) T
  refine DefOk.mk' T.d__read_receive sc__read_receive (fun _ _ _ _ _ _ us hl => match us, hl with | [_, _], _ => rfl) (fun _ => rfl) (fun cdv f A outer s H p Q E hr h => ?_)
  obtain ⟨who, a, ws⟩ := p
  obtain ⟨hS, hl, hz, k⟩ := h
  refine ⟨_, (pss_cons (ps_if (pt_cmpR (op_notInK (K := K)) (pe_coS T.c_CARRIED rfl) (pv 1) rfl)
    (pss_one (ps_ret pe_non))
    pss_nil)
    (pss_cons (ps_set (i := 2) sc__read_receive.nd rfl (.inl rfl) (bmK (K := K) (pe_bm PySem.F.plainAttrs_list PySem.F.slot_list_index PySem.F.type_list_index  (mt_indexK (K := K)) (pv 1) (pa_cons (pe_coS T.c_CARRIED rfl) pa_nil))))
    (pss_cons (ps_set (i := 3) sc__read_receive.nd rfl (.inl rfl) (pe_callD G__read_numbers (hr.mono (by decide)) rfl (pa_cons (pe_slice (sl_listK (K := K)) (pv 1) po_none (po_some (pv 2))) pa_nil)))
    (pss_cons (ps_set (i := 4) sc__read_receive.nd rfl (.inl rfl) (pe_callD G__read_carried (hr.mono (by decide)) rfl (pa_cons (pe_slice (sl_listK (K := K)) (pv 1) (po_some (pe_op op_add (pv 2) pe_int)) po_none) pa_nil)))
    (pss_cons (ps_if (PW.pt (pw_or (pt_cmpR op_isN (pv 3) pe_non (nomark _)) (pw_or (pt_cmpR op_isN (pv 4) pe_non (nomark _)) (pw_or (pt_cmpR op_lt (pe_callB (call_lenK (K := K)) (by rfl) T.n_len (by decide +kernel) (pa_cons (pv 3) pa_nil)) pe_int (nomark _)) (pw_or1 (pt_not (pt_val (pe_callD G__rises (hr.mono (by decide)) rfl (pa_cons (pe_slice (sl_listK (K := K)) (pv 3) (po_some pe_int) po_none) pa_nil)))))))))
    (pss_one (ps_ret pe_non))
    pss_nil)
    (pss_one (ps_ret (pe_tup (pa_cons pe_str (pa_cons (pe_tup (pa_cons (pe_ix (ix_listK (K := K)) (pv 3) pe_int (fun _ _ => rfl)) (pa_cons (pv 0) (pa_cons (pe_ix (ix_listK (K := K)) (pv 3) pe_int (fun _ _ => rfl)) (pa_cons (pe_ix (ix_listK (K := K)) (pv 3) pe_int (fun _ _ => rfl)) (pa_cons (pe_callTy (call_tupleK (K := K)) (by rfl) T.n_tuple (by decide +kernel) (pa_cons (pe_slice (sl_listK (K := K)) (pv 3) (po_some pe_int) po_none) pa_nil)) (pa_cons (pv 4) pa_nil))))))) pa_nil)))))))))), ?_⟩
  refine ⟨_, rfl, a, _, rfl, .inl hS, rfl, flat_strs ws, _, rfl, ite2 (fun h1 => ?_) (fun h1 => ?_)⟩
  · rw [if_pos rfl, inV_strs] at h1
    exact k.no (by rw [readReceive, if_pos (show ("carried" : Str) ∉ ws from nd_of h1)]; rfl) (Same.refl H)
  rw [if_pos rfl, inV_strs] at h1
  have hin : ("carried" : Str) ∈ ws := d_of h1
  have hj := List.idxOf_lt_length_of_mem hin
  have ej : ws[ws.idxOf ("carried" : Str)]? = some ("carried" : Str) := by rw [List.getElem?_eq_getElem hj, List.getElem_idxOf]
  have er : readReceive who ws = match readNums (ws.take (ws.idxOf ("carried" : Str))), readCar (ws.drop (ws.idxOf ("carried" : Str) + 1)) with
    | some (s :: n :: e :: held), some cs => if risesI held = true then some (.receive ⟨s, who, n, e, held, cs⟩) else none
    | _, _ => none := by
    rw [readReceive, if_neg (fun z => z hin)] <;> rfl
  generalize hjj : ws.idxOf ("carried" : Str) = j at hj ej er
  refine ⟨_, rfl, .inl ⟨rfl, _, hS⟩, a, _, _, j, .str "carried", rfl, rfl, hS, rfl, flat_strs ws, by rw [List.getElem?_map, ej]; rfl, by rw [eqV_str]; rfl, fun m z' hm hy => ?_, ?_⟩
  · rw [List.getElem?_map] at hy
    obtain ⟨y, hy', rfl⟩ := Option.map_eq_some_iff.mp hy
    rw [eqV_str]
    exact decide_eq_false (idx_first (z := ("carried" : Str)) (ws := ws) (m := m) (by rw [hjj]; exact hm) hy')
  refine ⟨_, rfl, _, rfl, _, rfl, a, _, rfl, hS, fun q nq => ?_⟩
  rw [show cutV (ws.map V.str) none (some (j : Int)) = (ws.take j).map V.str from (cutV_to (b := j) rfl).trans (List.map_take).symm]
  have s1 : Same H (upd H q (.lst ((ws.take j).map V.str))) := nws nq (Same.refl H)
  have e1 : upd H q (.lst ((ws.take j).map V.str)) q = some (.lst ((ws.take j).map V.str)) := upd_same
  generalize upd H q (.lst ((ws.take j).map V.str)) = H1 at s1 e1 ⊢
  refine ⟨(q, ws.take j), rfl, SqL.of e1, by rw [List.length_take]; omega, fun z hz' => hz z (List.mem_of_mem_take hz'), ?_⟩
  have hdl : (ws.drop (j + 1)).length ≤ 20000 := by rw [List.length_drop]; omega
  have ecut : cutV (ws.map V.str) (some ((j : Int) + 1)) none = (ws.drop (j + 1)).map V.str := (cutV_from (a := j + 1) (by omega)).trans (List.map_drop).symm
  cases e : readNums (ws.take j) with
  | none =>
    intro H2 s2
    have sA := s1.trans s2
    have none' : ∀ {H'}, Same H H' → Q .non H' := fun s => k.no (by rw [er, e]; rfl) s
    refine ⟨_, rfl, _, rfl, _, _, rfl, rfl, _, rfl, a, _, rfl, sA.seq hS, fun q2 nq2 => ?_⟩
    rw [ecut]
    have s3 : Same H (upd H2 q2 (.lst ((ws.drop (j + 1)).map V.str))) := sA.trans (nws nq2 (Same.refl H2))
    have e3 : upd H2 q2 (.lst ((ws.drop (j + 1)).map V.str)) q2 = some (.lst ((ws.drop (j + 1)).map V.str)) := upd_same
    have s23 : Same H2 (upd H2 q2 (.lst ((ws.drop (j + 1)).map V.str))) := nws nq2 (Same.refl H2)
    generalize upd H2 q2 (.lst ((ws.drop (j + 1)).map V.str)) = H3 at s3 e3 s23 ⊢
    refine ⟨(q2, ws.drop (j + 1)), rfl, SqL.of e3, hdl, fun z hz' => hz z (List.mem_of_mem_drop hz'), ?_⟩
    cases e2 : readCar (ws.drop (j + 1)) with
    | none => exact fun H4 s4 => ⟨_, rfl, rfl, _, rfl, ite2 (fun _ => none' (s3.trans s4)) (fun z => absurd (decide_eq_true rfl) z)⟩
    | some cs => exact fun l H4 s4 f4 => ⟨_, rfl, rfl, _, rfl, ite2 (fun _ => none' (s3.trans s4)) (fun z => absurd (decide_eq_true rfl) z)⟩
  | some ns =>
    intro l H2 s2 nl el
    have sA := s1.trans s2
    refine ⟨_, rfl, _, rfl, _, _, rfl, rfl, _, rfl, a, _, rfl, sA.seq hS, fun q2 nq2 => ?_⟩
    rw [ecut]
    have s3 : Same H (upd H2 q2 (.lst ((ws.drop (j + 1)).map V.str))) := sA.trans (nws nq2 (Same.refl H2))
    have e3 : upd H2 q2 (.lst ((ws.drop (j + 1)).map V.str)) q2 = some (.lst ((ws.drop (j + 1)).map V.str)) := upd_same
    have s23 : Same H2 (upd H2 q2 (.lst ((ws.drop (j + 1)).map V.str))) := nws nq2 (Same.refl H2)
    generalize upd H2 q2 (.lst ((ws.drop (j + 1)).map V.str)) = H3 at s3 e3 s23 ⊢
    refine ⟨(q2, ws.drop (j + 1)), rfl, SqL.of e3, hdl, fun z hz' => hz z (List.mem_of_mem_drop hz'), ?_⟩
    have nl3 := s23 _ _ el
    cases e2 : readCar (ws.drop (j + 1)) with
    | none =>
      exact fun H4 s4 => ⟨_, rfl, rfl, _, rfl, ite2 (fun z => nomatch (show V.ref l = V.non from of_decide_eq_true z)) (fun _ => ⟨_, rfl, rfl, _, rfl, ite2 (fun _ => k.no (by rw [er, e, e2]; rcases ns with _ | ⟨_, _ | ⟨_, _ | ⟨_, _⟩⟩⟩ <;> rfl) (s3.trans s4)) (fun z => absurd (decide_eq_true rfl) z)⟩)⟩
    | some cs =>
      intro lc H4 s4 f4
      have s5 := s3.trans s4
      have el4 := s4 _ _ nl3
      refine ⟨_, rfl, rfl, _, rfl, ite2 (fun z => nomatch (show V.ref l = V.non from of_decide_eq_true z)) (fun _ => ?_)⟩
      refine ⟨_, rfl, rfl, _, rfl, ite2 (fun z => nomatch (show V.ref lc = V.non from of_decide_eq_true z)) (fun _ => ?_)⟩
      refine ⟨_, rfl, l, _, rfl, .inl (SqL.of el4), _, _, rfl, rfl, _, rfl, ite2 (fun z => ?_) (fun z => ?_)⟩
      · have z : (((ns.map V.int).length : Nat) : Int) < 3 := of_decide_eq_true z
        rw [List.length_map] at z
        refine k.no ?_ s5
        rw [er, e, e2]
        match ns, z with
        | [], _ => rfl
        | [_], _ => rfl
        | [_, _], _ => rfl
        | _ :: _ :: _ :: _, z => simp only [List.length_cons] at z; omega
      have z : ¬ (((ns.map V.int).length : Nat) : Int) < 3 := fun y => z (decide_eq_true y)
      rw [List.length_map] at z
      obtain ⟨n0, n1, n2, held, rfl⟩ : ∃ n0 n1 n2 held, ns = n0 :: n1 :: n2 :: held := by
        match ns, z with
        | [], z => exact absurd (by show ((0 : Nat) : Int) < 3; decide) z
        | [_], z => exact absurd (by show ((1 : Nat) : Int) < 3; decide) z
        | [_, _], z => exact absurd (by show ((2 : Nat) : Int) < 3; decide) z
        | a :: b :: c :: d, _ => exact ⟨a, b, c, d, rfl⟩
      have hnl := (readNums_bd e).1
      have hhl : held.length ≤ 20000 := by rw [List.length_take] at hnl; simp only [List.length_cons] at hnl; omega
      have er2 : readReceive who ws = if risesI held = true then some (.receive ⟨n0, who, n1, n2, held, cs⟩) else none := by rw [er, e, e2]
      have ecut3 : cutV ((n0 :: n1 :: n2 :: held).map V.int) (some 3) none = held.map V.int := (cutV_from (a := 3) rfl).trans rfl
      refine ⟨_, rfl, 3, rfl, l, _, rfl, SqL.of el4, fun q6 nq6 => ?_⟩
      rw [ecut3]
      refine ⟨.ref q6, rfl, risesI held, .isI (SqL.of upd_same) hhl, fun H7 s7 => ⟨_, rfl, ?_⟩⟩
      have s8 : Same H4 H7 := (nws nq6 (Same.refl H4)).trans s7
      cases hri : risesI held with
      | false => exact ite2 (fun _ => k.no (by rw [er2, hri]; rfl) (s5.trans s8)) (fun z => absurd rfl z)
      | true =>
        refine ite2 (fun z => absurd z (by decide)) (fun _ => ?_)
        have el7 := s8 _ _ el4
        refine ⟨_, rfl, l, _, 0, _, rfl, rfl, SqL.of el7, ixv0, _, rfl, _, rfl, l, _, 1, _, rfl, rfl, SqL.of el7, ixv1, _, rfl, l, _, 2, _, rfl, rfl, SqL.of el7, ixv2, ?_⟩
        refine ⟨_, rfl, 3, rfl, l, _, rfl, SqL.of el7, fun q8 nq8 => ?_⟩
        rw [ecut3]
        refine ⟨q8, _, rfl, .inl ⟨SqL.of upd_same, fun q9 nq9 => ?_⟩⟩
        have sT : Same H7 (upd (upd H7 q8 (.lst (held.map V.int))) q9 (.tup (held.map V.int))) := nws nq9 (nws nq8 (Same.refl H7))
        have eT : upd (upd H7 q8 (.lst (held.map V.int))) q9 (.tup (held.map V.int)) q9 = some (.tup (held.map V.int)) := upd_same
        generalize upd (upd H7 q8 (.lst (held.map V.int))) q9 (.tup (held.map V.int)) = H9 at sT eT ⊢
        refine ⟨_, rfl, (by show 6 ≤ sizeLine; decide), fun m nm => ⟨(by show 2 ≤ sizeLine; decide), fun r nr => ?_⟩⟩
        refine k.yes (by rw [er2, hri]; rfl) ((s5.trans s8).trans (sT.trans (nws nr (nws nm (Same.refl H9))))) ?_
        refine .tup (SqT.of upd_same) (.cons (.str _) (.cons (.tup (SqT.of (nw nr upd_same)) (.cons (.int _) (.cons (.int _) (.cons (.int _) (.cons (.int _) (.cons ?_ (.cons ?_ .nil))))))) .nil))
        · exact .tup (SqT.of (nw nr (nw nm eT))) (fz_ints held)
        · exact f4.imm (Imm.same ((s8.trans sT).trans (nws nr (nws nm (Same.refl H9)))))

end
section
open PySem PySem.Spec PyProof.Rows L2
variable {P : Program} {w : World} {K : PySem.W.Frag} {mg : Str → Option Value} {base : Heap}
/-! ### the other events, and any text -/
theorem map_zipI {α β : Type} {f : α → β} : ∀ (l : List α), evens ((l.map f).drop 1) = (evens (l.drop 1)).map f := fun l => by rw [← List.map_drop, map_odds]
theorem paired_ints {K : PySem.W.Frag} {H : Hp} : ∀ {ps : List (Int × Int)} {ts : List Addr}, Paired (fun (t : Addr) (q : V × V) => H t = some (.tup [q.1, q.2])) ts (ps.map fun p => (V.int p.1, V.int p.2)) → FzAll K H (ts.map V.ref) (ps.map pairD)
  | [], ts, h => by
    cases h
    exact .nil
  | p :: ps, ts, h => by
    cases h with
    | cons a b => exact .cons (.tup (SqT.of a) (.cons (.int _) (.cons (.int _) .nil))) (paired_ints b)
theorem zip_ints (a b : List Int) : (a.map V.int).zip (b.map V.int) = (a.zip b).map fun p => (V.int p.1, V.int p.2) := by
  rw [List.zip_map]
  rfl
def sp__read_remove (K : PySem.W.Frag) : Sp := SpOf (fun ((a, _) : Addr × List Str) => [.ref a]) fun (a, ws) H Q => SqL K H a (ws.map V.str) ∧ ws.length ≤ 20000 ∧ (∀ z ∈ ws, z.length ≤ 20000) ∧ RetE K ((readRemove ws).map Ev.data) H Q
set_option maxHeartbeats 4000000 in
theorem ok__read_remove (T : Txt K mg) : DefOk P w K mg base "_read_remove" 3 ["words"] (sp__read_remove K) := by
  have G__read_numbers := ok__read_numbers (P := P) (w := w) (base := base) T
  have G__rises := ok__rises (P := P) (w := w) (base := base) T
  refine DefOk.mk' T.d__read_remove sc__read_remove (fun _ _ _ _ _ _ us hl => match us, hl with | [_], _ => rfl) (fun _ => rfl) (fun cdv f A outer s H p Q E hr h => ?_)
  obtain ⟨a, ws⟩ := p
  obtain ⟨hS, hl, hz, k⟩ := h
  refine ⟨_, (pss_cons (ps_set (i := 1) sc__read_remove.nd rfl (.inl rfl) (pe_callD G__read_numbers (hr.mono (by decide)) rfl (pa_cons (pv 0) pa_nil)))
    (pss_cons (ps_if (PW.pt (pw_or (pt_cmpR op_isN (pv 1) pe_non (nomark _)) (pw_or1 (pt_cmpR op_ne (pe_callB (call_lenK (K := K)) (by rfl) T.n_len (by decide +kernel) (pa_cons (pv 1) pa_nil)) (pe_op op_mul pe_int (pe_op op_fdivN (pe_callB (call_lenK (K := K)) (by rfl) T.n_len (by decide +kernel) (pa_cons (pv 1) pa_nil)) pe_int)) (nomark _)))))
    (pss_one (ps_ret pe_non))
    pss_nil)
    (pss_cons (ps_set (i := 2) sc__read_remove.nd rfl (.inl rfl) (tupZipK (K := K) (pe_tupZip rfl (pa_cons (step2K (K := K) (pe_step2 0 (pv 1))) (pa_cons (step2K (K := K) (pe_step2 1 (pv 1))) pa_nil)) (by rfl) T.n_tuple (by rfl) T.n_zip)))
    (pss_one (ps_ret (pe_ifExp (pt_val (pe_callD G__rises (hr.mono (by decide)) rfl (pa_cons (pv 2) pa_nil))) (pe_tup (pa_cons pe_str (pa_cons (pv 2) pa_nil))) pe_non)))))), ?_⟩
  refine ⟨_, rfl, (a, ws), rfl, hS, hl, hz, ?_⟩
  cases e : readNums ws with
  | none => exact fun H2 s2 => ⟨_, rfl, rfl, _, rfl, ite2 (fun _ => k.no (by rw [readRemove, e]; rfl) s2) (fun z => absurd (decide_eq_true rfl) z)⟩
  | some ns =>
    intro l H2 s2 nl el
    have hnl := (readNums_bd e).1
    refine ⟨_, rfl, rfl, _, rfl, ite2 (fun z => nomatch (show V.ref l = V.non from of_decide_eq_true z)) (fun _ => ?_)⟩
    have efd : (((ns.map V.int).length : Nat) : Int).fdiv 2 = (((ns.map V.int).length / 2 : Nat) : Int) := by
      rw [Int.fdiv_eq_ediv_of_nonneg _ (by decide)]
      rfl
    have er : readRemove ws = if ns.length % 2 = 1 then none else if risesP ((evens ns).zip (evens (ns.drop 1))) = true then some (.remove ((evens ns).zip (evens (ns.drop 1)))) else none := by rw [readRemove, e]
    refine ⟨_, rfl, l, _, rfl, .inl (SqL.of el), _, rfl, l, _, rfl, .inl (SqL.of el), _, _, rfl, rfl, ⟨by decide, by decide⟩, _, _, rfl, rfl, .inl ⟨by decide, by decide⟩, rfl, _, rfl, ite2 (fun h2 => ?_) (fun h2 => ?_)⟩
    · have h2 := nd_of h2
      refine k.no ?_ s2
      rw [er, if_pos (by
        rcases Nat.mod_two_eq_zero_or_one ns.length with z | z
        · exact absurd (congrArg V.int (show (((ns.map V.int).length : Nat) : Int) = 2 * (((ns.map V.int).length : Nat) : Int).fdiv 2 by rw [efd, List.length_map]; omega)) h2
        · exact z)]
      rfl
    have h2 : ns.length % 2 = 0 := by
      have := V.int.inj (d_of h2)
      have : (((ns.map V.int).length : Nat) : Int) = 2 * (((ns.map V.int).length : Nat) : Int).fdiv 2 := this
      rw [efd, List.length_map] at this
      omega
    refine ⟨_, rfl, l, _, rfl, SqL.of el, fun q nq => ?_⟩
    rw [List.drop_zero, map_odds]
    refine ⟨_, rfl, l, _, rfl, SqL.of (nw nq el), fun q2 nq2 => ?_⟩
    rw [map_zipI]
    refine ⟨q, q2, _, _, rfl, SqL.of (nw nq2 upd_same), SqL.of upd_same, ?_, fun H7 p7 ts s7 np e7 pr => ?_⟩
    · rw [List.length_map, List.length_map, evens_half, evens_half, List.length_drop]
      omega
    have s8 : Same H H7 := (s2.trans (nws nq2 (nws nq (Same.refl H2)))).trans s7
    rw [zip_ints] at pr
    have fz := paired_ints (K := K) pr
    have hzl : ((evens ns).zip (evens (ns.drop 1))).length ≤ 20000 := by rw [List.length_zip]; exact Nat.le_trans (Nat.min_le_left _ _) (Nat.le_trans (evens_len _) (by omega))
    refine ⟨_, rfl, .ref p7, rfl, _, .isP (SqT.of e7) fz hzl, fun H8 s9 => ?_⟩
    cases hri : risesP ((evens ns).zip (evens (ns.drop 1))) with
    | false => exact ⟨_, rfl, ite2 (fun z => absurd z (by decide)) (fun _ => k.no (by rw [er, if_neg (by omega), hri]; rfl) (s8.trans s9))⟩
    | true =>
      refine ⟨_, rfl, ite2 (fun _ => ?_) (fun z => absurd rfl z)⟩
      refine ⟨_, rfl, (by show 2 ≤ sizeLine; decide), fun r nr => k.yes (by rw [er, if_neg (by omega), hri]; rfl) ((s8.trans s9).trans (nws nr (Same.refl _))) ?_⟩
      exact .tup (SqT.of upd_same) (.cons (.str _) (.cons (.tup (SqT.of (nw nr (s9 _ _ e7))) (fz.imm (Imm.same (s9.trans (nws nr (Same.refl _)))))) .nil))
def sp__read_write (K : PySem.W.Frag) : Sp := SpOf (fun ((a, _) : Addr × List Str) => [.ref a]) fun (a, ws) H Q => SqL K H a (ws.map V.str) ∧ ws.length ≤ 20000 ∧ (∀ z ∈ ws, z.length ≤ 20000) ∧ RetE K ((readWrite ws).map Ev.data) H Q
theorem fz_opt {K : PySem.W.Frag} {H : Hp} (o : Option Int) : Fz K H (optV o) (optD o) := by
  cases o with
  | none => exact .non
  | some i => exact .int i
set_option maxHeartbeats 4000000 in
theorem ok__read_write (T : Txt K mg) : DefOk P w K mg base "_read_write" 3 ["words"] (sp__read_write K) := by
  have G__read_numbers := ok__read_numbers (P := P) (w := w) (base := base) T
  have G__read_number := ok__read_number (P := P) (w := w) (base := base) T
  refine DefOk.mk' T.d__read_write sc__read_write (fun _ _ _ _ _ _ us hl => match us, hl with | [_], _ => rfl) (fun _ => rfl) (fun cdv f A outer s H p Q E hr h => ?_)
  obtain ⟨a, ws⟩ := p
  obtain ⟨hS, hl, hz, k⟩ := h
  refine ⟨_, (pss_cons (ps_if (pt_cmpR op_ne (pe_callB (call_lenK (K := K)) (by rfl) T.n_len (by decide +kernel) (pa_cons (pv 0) pa_nil)) pe_int (nomark _))
    (pss_one (ps_ret pe_non))
    pss_nil)
    (pss_cons (ps_set (i := 1) sc__read_write.nd rfl (.inl rfl) (pe_callD G__read_numbers (hr.mono (by decide)) rfl (pa_cons (pe_slice (sl_listK (K := K)) (pv 0) po_none (po_some pe_int)) pa_nil)))
    (pss_cons (ps_set (i := 2) sc__read_write.nd rfl (.inl rfl) (pe_ifExp (pt_cmpR op_eq (pe_ix (ix_listK (K := K)) (pv 0) pe_int (fun _ _ => rfl)) (pe_coS T.c_NONE rfl) (nomark _)) pe_non (pe_callD G__read_number (hr.mono (by decide)) rfl (pa_cons (pe_ix (ix_listK (K := K)) (pv 0) pe_int (fun _ _ => rfl)) pa_nil))))
    (pss_cons (ps_if (PW.pt (pw_or (pt_cmpR op_isN (pv 1) pe_non (nomark _)) (pw_or1 (PW.pt (pw_and (pt_cmpR op_isN (pv 2) pe_non (nomark _)) (pw_and1 (pt_cmpR op_ne (pe_ix (ix_listK (K := K)) (pv 0) pe_int (fun _ _ => rfl)) (pe_coS T.c_NONE rfl) (nomark _))))))))
    (pss_one (ps_ret pe_non))
    pss_nil)
    (pss_one (ps_ret (pe_tup (pa_cons pe_str (pa_cons (pe_ix (ix_listK (K := K)) (pv 1) pe_int (fun _ _ => rfl)) (pa_cons (pe_ix (ix_listK (K := K)) (pv 1) pe_int (fun _ _ => rfl)) (pa_cons (pv 2) pa_nil))))))))))), ?_⟩
  refine ⟨_, rfl, a, _, rfl, .inl hS, rfl, _, rfl, ite2 (fun h1 => ?_) (fun h1 => ?_)⟩
  · have h1 := nd_of h1
    refine k.no ?_ (Same.refl H)
    match ws, h1 with
    | [], _ => rfl
    | [_], _ => rfl
    | [_, _], _ => rfl
    | [_, _, _], h1 => exact absurd rfl h1
    | _ :: _ :: _ :: _ :: _, _ => rfl
  have h1 := V.int.inj (d_of h1)
  have h1 : (((ws.map V.str).length : Nat) : Int) = 3 := h1
  rw [List.length_map] at h1
  obtain ⟨x, y, c, rfl⟩ : ∃ x y c, ws = [x, y, c] := by
    match ws, h1 with
    | [], h => simp at h
    | [_], h => simp at h
    | [_, _], h => simp at h
    | [x, y, c], _ => exact ⟨x, y, c, rfl⟩
    | _ :: _ :: _ :: _ :: _, h => simp at h; omega
  have hcut : cutV (([x, y, c] : List Str).map V.str) none (some 2) = ([x, y] : List Str).map V.str := (cutV_to (b := 2) rfl).trans rfl
  refine ⟨_, rfl, 2, rfl, a, _, rfl, hS, fun q nq => ?_⟩
  rw [hcut]
  have s1 : Same H (upd H q (.lst (([x, y] : List Str).map V.str))) := nws nq (Same.refl H)
  have e1 : upd H q (.lst (([x, y] : List Str).map V.str)) q = some (.lst (([x, y] : List Str).map V.str)) := upd_same
  generalize upd H q (.lst (([x, y] : List Str).map V.str)) = H1 at s1 e1 ⊢
  have hc : c.length ≤ 20000 := hz c (by simp)
  refine ⟨(q, [x, y]), rfl, SqL.of e1, (by show 2 ≤ 20000; decide), fun z hz' => hz z (by simp only [List.mem_cons, List.not_mem_nil, or_false] at hz' ⊢; rcases hz' with h | h <;> simp [h]), ?_⟩
  have er : readWrite [x, y, c] = match readNums [x, y] with
    | some [r, f] => if c = "none" then some (.write r f none) else match readNum c with
      | some o => some (.write r f (some o))
      | none => none
    | _ => none := rfl
  cases e : readNums [x, y] with
  | none =>
    intro H2 s2
    have sA := s1.trans s2
    have fin : ∀ H', Same H H' → Q .non H' := fun H' s => k.no (by rw [er, e]; rfl) s
    refine ⟨_, rfl, a, _, 2, _, rfl, rfl, sA.seq hS, ixv2, rfl, _, rfl, ite2 (fun z => ?_) (fun z => ?_)⟩
    · exact ⟨_, rfl, rfl, _, rfl, ite2 (fun _ => fin H2 sA) (fun z => absurd (decide_eq_true rfl) z)⟩
    · exact ⟨_, rfl, a, _, 2, _, rfl, rfl, sA.seq hS, ixv2, c, rfl, hc, fun H3 s3 => ⟨_, rfl, rfl, _, rfl, ite2 (fun _ => fin H3 (sA.trans s3)) (fun z => absurd (decide_eq_true rfl) z)⟩⟩
  | some ns =>
    intro l H2 s2 nl el
    have hnl := (readNums_bd e).1
    obtain ⟨r, f, rfl⟩ : ∃ r f, ns = [r, f] := by
      match ns, hnl with
      | [], h => cases h
      | [_], h => cases h
      | [r, f], _ => exact ⟨r, f, rfl⟩
      | _ :: _ :: _ :: _, h => simp at h
    have sA := s1.trans s2
    have er2 : readWrite [x, y, c] = if c = "none" then some (.write r f none) else match readNum c with
      | some o => some (.write r f (some o))
      | none => none := by rw [er, e]
    have out : ∀ (o : Option Int) (H3 : Hp), Same H2 H3 → readWrite [x, y, c] = some (.write r f o) → (tRet (tTup (tCons (tC (V.str "write")) (tCons (tOp (rIxL K) (tVar 1) (tC (V.int 0))) (tCons (tOp (rIxL K) (tVar 1) (tC (V.int 1))) (tCons (tVar 2) tNil)))))) { nx := fun x H' => Q V.non H', rt := Q } [some (.ref a), some (.ref l), some (optV o)] H3 := fun o H3 s3 he => by
      refine ⟨_, rfl, l, _, 0, _, rfl, rfl, SqL.of (s3 _ _ el), ixv0, _, rfl, l, _, 1, _, rfl, rfl, SqL.of (s3 _ _ el), ixv1, _, rfl, (by show 4 ≤ sizeLine; decide), fun p np => ?_⟩
      exact k.yes (by rw [he]; rfl) ((sA.trans s3).trans (nws np (Same.refl _))) (.tup (SqT.of upd_same) (.cons (.str _) (.cons (.int _) (.cons (.int _) (.cons (fz_opt o) .nil)))))
    refine ⟨_, rfl, a, _, 2, _, rfl, rfl, sA.seq hS, ixv2, rfl, _, rfl, ite2 (fun z => ?_) (fun z => ?_)⟩
    · have hc0 : c = "none" := V.str.inj (of_decide_eq_true z)
      refine ⟨_, rfl, rfl, _, rfl, ite2 (fun z => nomatch (show V.ref l = V.non from of_decide_eq_true z)) (fun _ => ?_)⟩
      refine ⟨_, rfl, rfl, _, rfl, ite2 (fun _ => ?_) (fun z => absurd (decide_eq_true rfl) z)⟩
      refine ⟨_, rfl, a, _, 2, _, rfl, rfl, sA.seq hS, ixv2, rfl, _, rfl, ite2 (fun z => absurd (congrArg V.str hc0) (nd_of z)) (fun _ => ?_)⟩
      exact out none H2 (Same.refl H2) (by rw [er2, if_pos hc0])
    · have hc0 : ¬ c = "none" := fun e => z (decide_eq_true (congrArg V.str e))
      refine ⟨_, rfl, a, _, 2, _, rfl, rfl, sA.seq hS, ixv2, c, rfl, hc, fun H3 s3 => ?_⟩
      refine ⟨_, rfl, rfl, _, rfl, ite2 (fun z => nomatch (show V.ref l = V.non from of_decide_eq_true z)) (fun _ => ?_)⟩
      cases e3 : readNum c with
      | none =>
        refine ⟨_, rfl, rfl, _, rfl, ite2 (fun _ => ?_) (fun z => absurd (decide_eq_true rfl) z)⟩
        refine ⟨_, rfl, a, _, 2, _, rfl, rfl, (sA.trans s3).seq hS, ixv2, rfl, _, rfl, ite2 (fun _ => k.no (by rw [er2, if_neg hc0, e3]; rfl) (sA.trans s3)) (fun z => absurd (V.str.inj (d_of z)) hc0)⟩
      | some o =>
        refine ⟨_, rfl, rfl, _, rfl, ite2 (fun z => nomatch (show V.int o = V.non from of_decide_eq_true z)) (fun _ => ?_)⟩
        exact out (some o) H3 s3 (by rw [er2, if_neg hc0, e3])

end
section
open PySem PySem.Spec PyProof.Rows L2
variable {P : Program} {w : World} {K : PySem.W.Frag} {mg : Str → Option Value} {base : Heap}
/-! ### plain events, any text -/
def manyT : List (Key × V) := [(.inr "make", .int 1), (.inr "read", .int 2), (.inr "drop", .int 1), (.inr "collect", .int 0), (.inr "report", .int 0)]
def countOf (w : Str) : Option Int := if w = "make" then some 1 else if w = "read" then some 2 else if w = "drop" then some 1 else if w = "collect" then some 0 else if w = "report" then some 0 else none
theorem many_get (w : Str) : valV manyT (.inr w) = (countOf w).map V.int := by
  have one : ∀ (z : Str) (v : V) (r : List (Key × V)), valV ((.inr z, v) :: r) (.inr w) = if w = z then some v else valV r (.inr w) := fun z v r => by
    by_cases e : w = z
    · rw [if_pos e]
      exact valV_pos (congrArg Sum.inr e.symm)
    · rw [if_neg e]
      unfold valV
      rw [List.find?_cons_of_neg (by simpa using fun h => e h.symm)]
  unfold manyT countOf
  rw [one, one, one, one, one]
  repeat' split
  all_goals rfl
theorem many_merge : mergeK [] manyT = manyT := by decide +kernel
theorem plain_no {w : Str} {ws : List Str} {ns : List Int} (h : readNums ws = some ns) (hw : w ≠ "send") (hc : countOf w ≠ some (ns.length : Int)) : readPlain w ws = none := by
  unfold readPlain
  rw [h]
  dsimp only
  unfold countOf at hc
  rw [if_neg hw]
  by_cases h1 : w = "make"
  · rw [if_pos h1] at hc ⊢
    match ns, hc with
    | [], _ => rfl
    | [_], hc => exact absurd rfl hc
    | _ :: _ :: _, _ => rfl
  · rw [if_neg h1] at hc ⊢
    by_cases h2 : w = "read"
    · rw [if_pos h2] at hc ⊢
      match ns, hc with
      | [], _ => rfl
      | [_], _ => rfl
      | [_, _], hc => exact absurd rfl hc
      | _ :: _ :: _ :: _, _ => rfl
    · rw [if_neg h2] at hc ⊢
      by_cases h3 : w = "drop"
      · rw [if_pos h3] at hc ⊢
        match ns, hc with
        | [], _ => rfl
        | [_], hc => exact absurd rfl hc
        | _ :: _ :: _, _ => rfl
      · rw [if_neg h3] at hc ⊢
        by_cases h4 : w = "collect"
        · rw [if_pos h4] at hc ⊢
          match ns, hc with
          | [], hc => exact absurd rfl hc
          | _ :: _, _ => rfl
        · rw [if_neg h4] at hc ⊢
          by_cases h5 : w = "report"
          · rw [if_pos h5] at hc ⊢
            match ns, hc with
            | [], hc => exact absurd rfl hc
            | _ :: _, _ => rfl
          · rw [if_neg h5]
theorem plain_yes {w : Str} {ws : List Str} {ns : List Int} (h : readNums ws = some ns) (hw : w ≠ "send") (hc : countOf w = some (ns.length : Int)) : ∃ e, readPlain w ws = some e ∧ e.data = .tuple (.str w :: ns.map .int) := by
  unfold readPlain
  rw [h]
  dsimp only
  unfold countOf at hc
  rw [if_neg hw]
  by_cases h1 : w = "make"
  · rw [if_pos h1] at hc ⊢
    have hl : (1 : Int) = (ns.length : Int) := Option.some.inj hc
    match ns, hl with
    | [n], _ => exact ⟨_, rfl, by rw [h1]; rfl⟩
    | [], hl => simp at hl
    | _ :: _ :: _, hl => simp only [List.length_cons] at hl; omega
  · rw [if_neg h1] at hc ⊢
    by_cases h2 : w = "read"
    · rw [if_pos h2] at hc ⊢
      have hl : (2 : Int) = (ns.length : Int) := Option.some.inj hc
      match ns, hl with
      | [r, f], _ => exact ⟨_, rfl, by rw [h2]; rfl⟩
      | [], hl => simp at hl
      | [_], hl => simp at hl
      | _ :: _ :: _ :: _, hl => simp only [List.length_cons] at hl; omega
    · rw [if_neg h2] at hc ⊢
      by_cases h3 : w = "drop"
      · rw [if_pos h3] at hc ⊢
        have hl : (1 : Int) = (ns.length : Int) := Option.some.inj hc
        match ns, hl with
        | [n], _ => exact ⟨_, rfl, by rw [h3]; rfl⟩
        | [], hl => simp at hl
        | _ :: _ :: _, hl => simp only [List.length_cons] at hl; omega
      · rw [if_neg h3] at hc ⊢
        by_cases h4 : w = "collect"
        · rw [if_pos h4] at hc ⊢
          have hl : (0 : Int) = (ns.length : Int) := Option.some.inj hc
          match ns, hl with
          | [], _ => exact ⟨_, rfl, by rw [h4]; rfl⟩
          | _ :: _, hl => simp only [List.length_cons] at hl; omega
        · rw [if_neg h4] at hc ⊢
          by_cases h5 : w = "report"
          · rw [if_pos h5] at hc ⊢
            have hl : (0 : Int) = (ns.length : Int) := Option.some.inj hc
            match ns, hl with
            | [], _ => exact ⟨_, rfl, by rw [h5]; rfl⟩
            | _ :: _, hl => simp only [List.length_cons] at hl; omega
          · rw [if_neg h5] at hc
            cases hc
def sendOf : List Int → Option Ev
  | to :: rs => if rs.length ≤ 4 then some (.send to rs) else none
  | [] => none
theorem plain_send {w : Str} {ws : List Str} {ns : List Int} (h : readNums ws = some ns) (hw : w = "send") : readPlain w ws = sendOf ns := by
  unfold readPlain
  rw [h]
  dsimp only
  rw [if_pos hw]
  cases ns <;> rfl
def sp__read_plain (K : PySem.W.Frag) : Sp := SpOf (fun ((w, a, _) : Str × Addr × List Str) => [.str w, .ref a]) fun (w, a, ws) H Q => SqL K H a (ws.map V.str) ∧ ws.length ≤ 20000 ∧ (∀ z ∈ ws, z.length ≤ 20000) ∧ RetE K ((readPlain w ws).map Ev.data) H Q
set_option maxHeartbeats 4000000 in
theorem ok__read_plain (T : Txt K mg) : DefOk P w K mg base "_read_plain" 3 ["word", "words"] (sp__read_plain K) := by
  have G__read_numbers := ok__read_numbers (P := P) (w := w) (base := base) T
  refine DefOk.mk' T.d__read_plain sc__read_plain (fun _ _ _ _ _ _ us hl => match us, hl with | [_, _], _ => rfl) (fun _ => rfl) (fun cdv f A outer s H p Q E hr h => ?_)
  obtain ⟨w, a, ws⟩ := p
  obtain ⟨hS, hl, hz, k⟩ := h
  refine ⟨_, (pss_cons (ps_set (i := 2) sc__read_plain.nd rfl (.inl rfl) (pe_callD G__read_numbers (hr.mono (by decide)) rfl (pa_cons (pv 1) pa_nil)))
    (pss_cons (ps_if (pt_cmpR op_isN (pv 2) pe_non (nomark _))
    (pss_one (ps_ret pe_non))
    pss_nil)
    (pss_cons (ps_if (pt_cmpR op_eq (pv 0) pe_str (nomark _))
    (pss_one (ps_ret (pe_ifExp (pt_chain op_le op_le pe_int (pe_callB (call_lenK (K := K)) (by rfl) T.n_len (by decide +kernel) (pa_cons (pv 2) pa_nil)) (pe_op op_add pe_int (pe_coI T.c_CARRIED_MOST rfl))) (pe_tup (pa_cons pe_str (pa_cons (pe_ix (ix_listK (K := K)) (pv 2) pe_int (fun _ _ => rfl)) (pa_cons (pe_callTy (call_tupleK (K := K)) (by rfl) T.n_tuple (by decide +kernel) (pa_cons (pe_slice (sl_listK (K := K)) (pv 2) (po_some pe_int) po_none) pa_nil)) pa_nil)))) pe_non)))
    pss_nil)
    (pss_cons (ps_set (i := 3) sc__read_plain.nd rfl (.inl rfl) (pe_disp (pps_cons pe_str pe_int (pps_cons pe_str pe_int (pps_cons pe_str pe_int (pps_cons pe_str pe_int (pps_cons pe_str pe_int pps_nil))))) rfl rfl (by intro h; cases h) (by decide)))
    (pss_one (ps_ret (pe_ifExp (pt_cmpR op_eq (pe_dget1 hr.hu (pv 3) (pv 0) ⟨rfl, rfl, rfl, rfl⟩) (pe_callB (call_lenK (K := K)) (by rfl) T.n_len (by decide +kernel) (pa_cons (pv 2) pa_nil)) (nomark _)) (pe_op (op_catTK (K := K)) (pe_tup (pa_cons (pv 0) pa_nil)) (pe_callTy (call_tupleK (K := K)) (by rfl) T.n_tuple (by decide +kernel) (pa_cons (pv 2) pa_nil))) pe_non))))))), ?_⟩
  refine ⟨_, rfl, (a, ws), rfl, hS, hl, hz, ?_⟩
  cases e : readNums ws with
  | none => exact fun H2 s2 => ⟨_, rfl, rfl, _, rfl, ite2 (fun _ => k.no (by rw [readPlain, e]; rfl) s2) (fun z => absurd (decide_eq_true rfl) z)⟩
  | some ns =>
    intro l H2 s2 nl el
    have hnl := (readNums_bd e).1
    refine ⟨_, rfl, rfl, _, rfl, ite2 (fun z => nomatch (show V.ref l = V.non from of_decide_eq_true z)) (fun _ => ?_)⟩
    refine ⟨_, rfl, rfl, _, rfl, ite2 (fun z => ?_) (fun z => ?_)⟩
    · have hw : w = "send" := V.str.inj (of_decide_eq_true z)
      have er := plain_send e hw
      refine ⟨_, rfl, l, _, rfl, .inl (SqL.of el), _, _, rfl, rfl, _, rfl, ite2 (fun h1 => ?_) (fun h1 => ?_)⟩
      rotate_left
      · have h1 : ¬ (1 : Int) ≤ ((ns.map V.int).length : Nat) := fun z => h1 (decide_eq_true z)
        rw [List.length_map] at h1
        refine ⟨_, rfl, k.no ?_ s2⟩
        rw [er]
        match ns, h1 with
        | [], _ => rfl
        | _ :: _, h1 => exact absurd (by simp only [List.length_cons]; omega) h1
      have h1 : (1 : Int) ≤ ((ns.map V.int).length : Nat) := of_decide_eq_true h1
      rw [List.length_map] at h1
      obtain ⟨to, rs, rfl⟩ : ∃ to rs, ns = to :: rs := by
        match ns, h1 with
        | [], h1 => simp at h1
        | to :: rs, _ => exact ⟨to, rs, rfl⟩
      refine ⟨_, _, rfl, rfl, _, _, rfl, rfl, _, rfl, ite2 (fun h2 => ?_) (fun h2 => ?_)⟩
      · have h2 : (((to :: rs).map V.int).length : Nat) ≤ (1 + 4 : Int) := of_decide_eq_true h2
        rw [List.length_map, List.length_cons] at h2
        refine ⟨_, rfl, l, _, 0, _, rfl, rfl, SqL.of el, ixv0, _, rfl, 1, rfl, l, _, rfl, SqL.of el, fun q nq => ?_⟩
        rw [show cutV ((to :: rs).map V.int) (some 1) none = rs.map V.int from cut_one]
        refine ⟨q, _, rfl, .inl ⟨SqL.of upd_same, fun t nt => ⟨(by show 3 ≤ sizeLine; decide), fun r nr => ?_⟩⟩⟩
        refine k.yes (by rw [er]; show Option.map Ev.data (if rs.length ≤ 4 then some (Ev.send to rs) else none) = _; rw [if_pos (by omega)]; rfl) (s2.trans (nws nr (nws nt (nws nq (Same.refl H2))))) ?_
        exact .tup (SqT.of upd_same) (.cons (.str _) (.cons (.int _) (.cons (.tup (SqT.of (nw nr upd_same)) (fz_ints rs)) .nil)))
      · have h2 : ¬ (((to :: rs).map V.int).length : Nat) ≤ (1 + 4 : Int) := fun z => h2 (decide_eq_true z)
        rw [List.length_map, List.length_cons] at h2
        refine k.no ?_ s2
        rw [er]
        show Option.map Ev.data (if rs.length ≤ 4 then some (Ev.send to rs) else none) = _
        rw [if_neg (by omega)]
        rfl
    · have hw : w ≠ "send" := fun e => z (decide_eq_true (congrArg V.str e))
      intro q nq
      refine ⟨upd_same, manyT, rfl, by decide, ?_⟩
      rw [many_merge, upd_upd]
      have s3 : Same H2 (upd H2 q (.dK manyT)) := nws nq (Same.refl H2)
      have e3 : upd H2 q (.dK manyT) q = some (.dK manyT) := upd_same
      generalize upd H2 q (.dK manyT) = H3 at s3 e3 ⊢
      have el3 := s3 _ _ el
      refine ⟨_, rfl, q, rfl, .inl ⟨_, .inl e3⟩, _, rfl, _, DGet.k (k := .inr w) e3, _, rfl, l, _, rfl, .inl (SqL.of el3), ?_, ?_⟩
      · rw [many_get]
        cases countOf w <;> rfl
      rw [many_get]
      refine ⟨_, rfl, ite2 (fun h2 => ?_) (fun h2 => ?_)⟩
      · have h2 := of_decide_eq_true h2
        have hc : countOf w = some (ns.length : Int) := by
          cases hcw : countOf w with
          | none => rw [hcw] at h2; cases h2
          | some c =>
            rw [hcw] at h2
            have h2 := V.int.inj (show V.int c = V.int ((ns.map V.int).length : Nat) from h2)
            rw [h2, List.length_map]
        obtain ⟨ev, he, hd⟩ := plain_yes e hw hc
        refine ⟨_, rfl, (by show 1 ≤ sizeLine; decide), fun t nt => ?_⟩
        refine ⟨_, rfl, l, _, rfl, .inl ⟨SqL.of (nw nt el3), fun t2 nt2 => ?_⟩⟩
        have et : upd (upd H3 t (.tup [V.str w])) t2 (.tup (ns.map V.int)) t = some (.tup [V.str w]) := nw nt2 upd_same
        have et2 : upd (upd H3 t (.tup [V.str w])) t2 (.tup (ns.map V.int)) t2 = some (.tup (ns.map V.int)) := upd_same
        have s4 : Same H3 (upd (upd H3 t (.tup [V.str w])) t2 (.tup (ns.map V.int))) := nws nt2 (nws nt (Same.refl H3))
        generalize upd (upd H3 t (.tup [V.str w])) t2 (.tup (ns.map V.int)) = H4 at et et2 s4 ⊢
        have s5 := (s2.trans s3).trans s4
        refine ⟨t, t2, _, _, rfl, rfl, SqT.of et, SqT.of et2, by rw [List.length_map]; exact Nat.le_of_lt (small100k (by show 1 + ns.length ≤ 100000; omega)), (fun z => nomatch z), fun _ z => ?_, fun _ _ p np => ?_⟩
        · have z : ns = [] := List.map_eq_nil_iff.mp z
          refine k.yes (by rw [he]; rfl) s5 ?_
          rw [hd, z]
          exact .tup (SqT.of et) (.cons (.str _) .nil)
        · refine k.yes (by rw [he]; rfl) (s5.trans (nws np (Same.refl H4))) ?_
          rw [hd]
          exact .tup (SqT.of upd_same) (.cons (.str _) (fz_ints ns))
      · refine k.no ?_ (s2.trans s3)
        rw [plain_no e hw (fun hc => h2 (decide_eq_true (by rw [hc]; show V.int _ = V.int _; rw [List.length_map])))]
        rfl
theorem spl_bound : ∀ (l acc : List Nat), TL.spl [32] 0 acc l ≠ [] ∧ (TL.spl [32] 0 acc l).length ≤ l.length + 1 ∧ ∀ p ∈ TL.spl [32] 0 acc l, p.length ≤ acc.length + l.length
  | [], acc => by
    rw [TL.spl_nil]
    exact ⟨by simp, Nat.le_refl _, fun p hp => by rw [List.mem_singleton.mp hp]; exact Nat.le_refl _⟩
  | c :: r, acc => by
    by_cases h : c = 32
    · subst h
      rw [TL.spl_hit (show TL.pre [32] (32 :: r) = true from rfl)]
      obtain ⟨h1, h2, h3⟩ := spl_bound r []
      refine ⟨by simp, ?_, fun p hp => ?_⟩
      · show (TL.spl [32] 0 [] r).length + 1 ≤ r.length + 1 + 1
        omega
      · rcases List.mem_cons.mp hp with rfl | hp
        · exact Nat.le_add_right _ _
        · have := h3 p hp
          simp only [List.length_cons, List.length_nil] at this ⊢
          omega
    · rw [TL.spl_miss (TL.pre_of_head [] r h)]
      obtain ⟨h1, h2, h3⟩ := spl_bound r (acc ++ [c])
      refine ⟨h1, by simp only [List.length_cons]; omega, fun p hp => ?_⟩
      have := h3 p hp
      simp only [List.length_append, List.length_cons, List.length_nil] at this ⊢
      omega
theorem split_bound (z : Str) : Txt.split z " " ≠ [] ∧ (Txt.split z " ").length ≤ z.length + 1 ∧ ∀ p ∈ Txt.split z " ", p.length ≤ z.length := by
  have e := TL.split_spl z " " (by decide +kernel) (TL.kind_ok (by decide +kernel))
  rw [show TL.tl (" " : Str) = [32] by decide +kernel] at e
  obtain ⟨h1, h2, h3⟩ := spl_bound (TL.tl z) []
  rw [← e] at h1 h2 h3
  refine ⟨fun q => h1 (by rw [q]; rfl), ?_, fun p hp => ?_⟩
  · rw [List.length_map, ← TL.len_tl] at h2
    exact h2
  · have := h3 _ (List.mem_map_of_mem hp)
    rw [TL.len_tl, TL.len_tl]
    simpa using this
theorem okT_tsz {who : Int} {e : Ev} (h : e.okT who) (hb : ∀ m, e = .receive m → m.held.length ≤ 1000) (hr : ∀ es, e = .remove es → es.length ≤ 1000) : e.tsz := by
  cases e with
  | make n => exact Nb.ns h
  | read r f => exact ⟨h.1.ns, h.2.ns⟩
  | write r f o => exact ⟨h.1.ns, h.2.1.ns, fun i hi => (h.2.2 i hi).ns⟩
  | drop n => exact Nb.ns h
  | send to rs => exact ⟨h.1.ns, fun r hr => (h.2.1 r hr).ns, by have := h.2.2; omega⟩
  | receive m => exact ⟨h.2.1.ns, h.2.2.1.ns, h.2.2.2.1.ns, fun e he => (h.2.2.2.2.1 e he).ns, fun c hc => (h.2.2.2.2.2.2.1 c hc).ns, hb m rfl, by have := h.2.2.2.2.2.2.2; omega⟩
  | collect => trivial
  | report => trivial
  | remove es => exact ⟨fun e he => ⟨(h.1 e he).1.ns, (h.1 e he).2.ns⟩, hr es rfl⟩
theorem readReceive_len {who : Int} {ws : List Str} {m : MsgM} (h : readReceive who ws = some (.receive m)) : m.held.length ≤ ws.length := by
  unfold readReceive at h
  split at h
  · cases h
  · split at h
    · rename_i s n e' held cs hns hcs
      split at h
      · cases h
        have := (readNums_bd hns).1
        rw [List.length_take] at this
        simp only [List.length_cons] at this
        show held.length ≤ _
        omega
      · cases h
    · cases h
theorem readRemove_len {ws : List Str} {es : List (Int × Int)} (h : readRemove ws = some (.remove es)) : es.length ≤ ws.length := by
  unfold readRemove at h
  split at h
  · cases h
  · rename_i ns hns
    split at h
    · cases h
    · split at h
      · cases h
        have := (readNums_bd hns).1
        rw [List.length_zip]
        exact Nat.le_trans (Nat.min_le_left _ _) (Nat.le_trans (evens_len _) (by omega))
      · cases h
theorem readPlain_word {w : Str} {ws : List Str} {e : Ev} (h : readPlain w ws = some e) : (∀ m, e ≠ .receive m) ∧ ∀ es, e ≠ .remove es := by
  unfold readPlain at h
  repeat' split at h
  all_goals (first | (cases h; done) | (cases h; exact ⟨(fun _ z => nomatch z), (fun _ z => nomatch z)⟩))
theorem readWrite_word {ws : List Str} {e : Ev} (h : readWrite ws = some e) : (∀ m, e ≠ .receive m) ∧ ∀ es, e ≠ .remove es := by
  unfold readWrite at h
  repeat' split at h
  all_goals (first | (cases h; done) | (cases h; exact ⟨(fun _ z => nomatch z), (fun _ z => nomatch z)⟩))
theorem readReceive_word {who : Int} {ws : List Str} {e : Ev} (h : readReceive who ws = some e) : ∃ m, e = .receive m := by
  unfold readReceive at h
  repeat' split at h
  all_goals (first | (cases h; done) | (cases h; exact ⟨_, rfl⟩))
theorem readRemove_word {ws : List Str} {e : Ev} (h : readRemove ws = some e) : ∃ es, e = .remove es := by
  unfold readRemove at h
  repeat' split at h
  all_goals (first | (cases h; done) | (cases h; exact ⟨_, rfl⟩))
theorem readWords_tsz {who : Int} {ws : List Str} {e : Ev} (h : readWords who ws = some e) (hl : ws.length ≤ 1000) : e.tsz := by
  have hok := readWords_okT h
  unfold readWords at h
  split at h
  · cases h
  · rename_i w r
    simp only [List.length_cons] at hl
    split at h
    · obtain ⟨m, rfl⟩ := readReceive_word h
      have := readReceive_len h
      exact okT_tsz hok (fun m' q => by cases q; omega) (fun _ q => nomatch q)
    · split at h
      · obtain ⟨es, rfl⟩ := readRemove_word h
        have := readRemove_len h
        exact okT_tsz hok (fun _ q => nomatch q) (fun es' q => by cases q; omega)
      · split at h
        · have q := readWrite_word h
          exact okT_tsz hok (fun m e => absurd e (q.1 m)) fun es e => absurd e (q.2 es)
        · have q := readPlain_word h
          exact okT_tsz hok (fun m e => absurd e (q.1 m)) fun es e => absurd e (q.2 es)
theorem readEv_tsz {who : Int} {z : Str} {e : Ev} (h : readEv who z = some e) (hl : z.length ≤ 999) : e.tsz := by
  unfold readEv at h
  split at h
  · cases h
  · rename_i hw
    split at h
    · cases h
      exact readWords_tsz hw (by have := (split_bound z).2.1; omega)
    · cases h

end
section
open PySem PySem.Spec PyProof.Rows L2
variable {P : Program} {w : World} {K : PySem.W.Frag} {mg : Str → Option Value} {base : Heap}
def sp_read_event (K : PySem.W.Frag) : Sp := SpOf (fun ((who, z) : Int × Str) => [.int who, .str z]) fun (who, z) H Q => z.length ≤ 999 ∧ RetE K ((readEv who z).map Ev.data) H Q
set_option maxHeartbeats 4000000 in
theorem ok_read_event (T : Txt K mg) : DefOk P w K mg base "read_event" 5 ["number", "text"] (sp_read_event K) := by
  have G__read_receive := ok__read_receive (P := P) (w := w) (base := base) T
  have G__read_remove := ok__read_remove (P := P) (w := w) (base := base) T
  have G__read_write := ok__read_write (P := P) (w := w) (base := base) T
  have G__read_plain := ok__read_plain (P := P) (w := w) (base := base) T
  have G_write_event := ok_write_event (P := P) (w := w) (base := base) T
  refine DefOk.mk' T.d_read_event sc_read_event (fun _ _ _ _ _ _ us hl => match us, hl with | [_, _], _ => rfl) (fun _ => rfl) (fun cdv f A outer s H p Q E hr h => ?_)
  obtain ⟨who, z⟩ := p
  obtain ⟨hz, k⟩ := h
  refine ⟨_, (pss_cons (ps_set (i := 2) sc_read_event.nd rfl (.inl rfl) (pe_split (pv 1) pe_str))
    (pss_cons (ps_if (pt_cmpR op_eq (pe_ix (ix_listK (K := K)) (pv 2) pe_int (fun _ _ => rfl)) pe_str (nomark _))
    (pss_one (ps_set (i := 3) sc_read_event.nd rfl (.inl rfl) (pe_callD G__read_receive (hr.mono (by decide)) rfl (pa_cons (pv 0) (pa_cons (pe_slice (sl_listK (K := K)) (pv 2) (po_some pe_int) po_none) pa_nil)))))
    (pss_one (ps_if (pt_cmpR op_eq (pe_ix (ix_listK (K := K)) (pv 2) pe_int (fun _ _ => rfl)) pe_str (nomark _))
    (pss_one (ps_set (i := 3) sc_read_event.nd rfl (.inl rfl) (pe_callD G__read_remove (hr.mono (by decide)) rfl (pa_cons (pe_slice (sl_listK (K := K)) (pv 2) (po_some pe_int) po_none) pa_nil))))
    (pss_one (ps_if (pt_cmpR op_eq (pe_ix (ix_listK (K := K)) (pv 2) pe_int (fun _ _ => rfl)) pe_str (nomark _))
    (pss_one (ps_set (i := 3) sc_read_event.nd rfl (.inl rfl) (pe_callD G__read_write (hr.mono (by decide)) rfl (pa_cons (pe_slice (sl_listK (K := K)) (pv 2) (po_some pe_int) po_none) pa_nil))))
    (pss_one (ps_set (i := 3) sc_read_event.nd rfl (.inl rfl) (pe_callD G__read_plain (hr.mono (by decide)) rfl (pa_cons (pe_ix (ix_listK (K := K)) (pv 2) pe_int (fun _ _ => rfl)) (pa_cons (pe_slice (sl_listK (K := K)) (pv 2) (po_some pe_int) po_none) pa_nil))))))))))
    (pss_one (ps_ret (pe_ifExp (PW.pt (pw_and (pt_cmpR op_notN (pv 3) pe_non (nomark _)) (pw_and1 (pt_cmpR op_eq (pe_callD G_write_event (hr.mono (by decide)) rfl (pa_cons (pv 3) pa_nil)) (pv 1) (nomark _))))) (pv 3) pe_non))))), ?_⟩
  obtain ⟨b1, b2, b3⟩ := split_bound z
  obtain ⟨w, r, hwr⟩ := List.exists_cons_of_ne_nil b1
  have b2' : r.length ≤ 999 := by rw [hwr] at b2; simp only [List.length_cons] at b2; omega
  refine ⟨_, rfl, ⟨_, rfl⟩, z, _, rfl, rfl, by decide +kernel, Nat.le_of_lt (small100k (by omega)), fun p np => ?_⟩
  rw [hwr]
  have s1 : Same H (upd H p (.lst ((w :: r).map V.str))) := nws np (Same.refl H)
  have e1 : upd H p (.lst ((w :: r).map V.str)) p = some (.lst ((w :: r).map V.str)) := upd_same
  generalize upd H p (.lst ((w :: r).map V.str)) = H1 at s1 e1 ⊢
  have hrz : ∀ x ∈ r, x.length ≤ 20000 := fun x hx => by have := b3 x (by rw [hwr]; exact List.mem_cons_of_mem _ hx); omega
  have ecut : cutV ((w :: r).map V.str) (some 1) none = r.map V.str := cut_one
  have fin : ∀ (o : Option Ev), readWords who (w :: r) = o → ∀ H2, Same H H2 → RetE K (o.map Ev.data) H2 (fun v H3 => (tRet (tIf (tAnd (tTest (tOp (fun x y H Q => y = V.non ∧ Q (V.bl !decide (x = V.non)) H) (tVar 3) (tC V.non))) (tTest (tOp rEq (tCallG (sp_write_event K) E0 (tCons (tVar 3) tNil)) (tVar 1)))) (tVar 3) (tC V.non))) { nx := fun x H' => Q V.non H', rt := Q } [some (.int who), some (.str z), some (.ref p), some v] H3) := fun o ho H2 s2 => by
    cases o with
    | none => exact fun H3 s3 => ⟨_, rfl, rfl, _, rfl, ite2 (fun z => absurd z (by decide)) (fun _ => k.no (by unfold readEv; rw [hwr, ho]; rfl) (s2.trans s3))⟩
    | some e =>
      intro l H3 s3 f
      have er : readEv who z = if e.textS = z then some e else none := by unfold readEv; rw [hwr, ho]
      have htz : e.tsz := readWords_tsz ho (by simp only [List.length_cons]; omega)
      refine ⟨_, rfl, rfl, _, rfl, ite2 (fun _ => ?_) (fun z => absurd rfl z)⟩
      refine ⟨_, rfl, (.ref l, e), rfl, f, htz, fun H4 s4 => ⟨_, rfl, rfl, _, rfl, ite2 (fun h => ?_) (fun h => ?_)⟩⟩
      · have h : e.textS = z := V.str.inj (of_decide_eq_true h)
        exact ⟨_, rfl, k.yes (by rw [er, if_pos h]; rfl) ((s2.trans s3).trans s4) (f.imm (Imm.same s4))⟩
      · have h : ¬ e.textS = z := fun q => h (decide_eq_true (congrArg V.str q))
        exact k.no (by rw [er, if_neg h]; rfl) ((s2.trans s3).trans s4)
  refine ⟨_, rfl, p, _, 0, _, rfl, rfl, SqL.of e1, ixv0, rfl, _, rfl, ite2 (fun h1 => ?_) (fun h1 => ?_)⟩
  · have h1 : w = "receive" := V.str.inj (of_decide_eq_true h1)
    refine ⟨_, rfl, _, rfl, 1, rfl, p, _, rfl, SqL.of e1, fun q nq => ?_⟩
    rw [ecut]
    exact ⟨(who, q, r), rfl, SqL.of upd_same, by omega, hrz, fin _ (by unfold readWords; dsimp only; rw [if_pos h1]) _ (s1.trans (nws nq (Same.refl H1)))⟩
  have h1 : ¬ w = "receive" := fun e => h1 (decide_eq_true (congrArg V.str e))
  refine ⟨_, rfl, p, _, 0, _, rfl, rfl, SqL.of e1, ixv0, rfl, _, rfl, ite2 (fun h2 => ?_) (fun h2 => ?_)⟩
  · have h2 : w = "remove" := V.str.inj (of_decide_eq_true h2)
    refine ⟨_, rfl, 1, rfl, p, _, rfl, SqL.of e1, fun q nq => ?_⟩
    rw [ecut]
    exact ⟨(q, r), rfl, SqL.of upd_same, by omega, hrz, fin _ (by unfold readWords; dsimp only; rw [if_neg h1, if_pos h2]) _ (s1.trans (nws nq (Same.refl H1)))⟩
  have h2 : ¬ w = "remove" := fun e => h2 (decide_eq_true (congrArg V.str e))
  refine ⟨_, rfl, p, _, 0, _, rfl, rfl, SqL.of e1, ixv0, rfl, _, rfl, ite2 (fun h3 => ?_) (fun h3 => ?_)⟩
  · have h3 : w = "write" := V.str.inj (of_decide_eq_true h3)
    refine ⟨_, rfl, 1, rfl, p, _, rfl, SqL.of e1, fun q nq => ?_⟩
    rw [ecut]
    exact ⟨(q, r), rfl, SqL.of upd_same, by omega, hrz, fin _ (by unfold readWords; dsimp only; rw [if_neg h1, if_neg h2, if_pos h3]) _ (s1.trans (nws nq (Same.refl H1)))⟩
  have h3 : ¬ w = "write" := fun e => h3 (decide_eq_true (congrArg V.str e))
  refine ⟨_, rfl, p, _, 0, _, rfl, rfl, SqL.of e1, ixv0, _, rfl, 1, rfl, p, _, rfl, SqL.of e1, fun q nq => ?_⟩
  rw [ecut]
  exact ⟨(w, q, r), rfl, SqL.of upd_same, by omega, hrz, fin _ (by unfold readWords; dsimp only; rw [if_neg h1, if_neg h2, if_neg h3]) _ (s1.trans (nws nq (Same.refl H1)))⟩

end
section
open PySem PySem.Spec PyProof.Rows L2
variable {P : Program} {w : World} {K : PySem.W.Frag} {mg : Str → Option Value} {base : Heap}
/-! ### the draws of a law -/
def sp__law_cell (K : PySem.W.Frag) : Sp := SpOf (fun ((a, _, i) : Addr × List Int × Int) => [.ref a, .int i]) fun (a, ns, i) H Q => SqL K H a (ns.map V.int) ∧ 0 ≤ i ∧ ∀ v, Q (.int v) H
set_option maxHeartbeats 4000000 in
theorem ok__law_cell (T : Txt K mg) : DefOk P w K mg base "_law_cell" 1 ["_law_script", "_law_k"] (sp__law_cell K) := by
  refine DefOk.mk' T.d__law_cell sc__law_cell (fun _ _ _ _ _ _ us hl => match us, hl with | [_, _], _ => rfl) (fun _ => rfl) (fun cdv f A outer s H p Q E hr h => ?_)
  obtain ⟨a, ns, i⟩ := p
  obtain ⟨hS, hi, k⟩ := h
  refine ⟨_, (pss_cons (ps_if (pt_cmpR op_lt (pv 1) (pe_callB (call_lenK (K := K)) (by rfl) T.n_len (by decide +kernel) (pa_cons (pv 0) pa_nil)) (nomark _))
    (pss_one (ps_ret (pe_ix (ix_listK (K := K)) (pv 0) (pv 1) (fun _ _ => rfl))))
    pss_nil)
    (pss_one (ps_ret pe_int))), ?_⟩
  refine ⟨_, rfl, .ref a, rfl, a, _, rfl, .inl hS, _, _, rfl, rfl, _, rfl, ite2 (fun h => ?_) (fun h => ?_)⟩
  · have h : i < ((ns.map V.int).length : Int) := of_decide_eq_true h
    rw [List.length_map] at h
    obtain ⟨j, rfl⟩ : ∃ j : Nat, i = (j : Int) := ⟨i.toNat, by omega⟩
    have hj : j < ns.length := by omega
    refine ⟨_, rfl, _, rfl, a, _, _, .int ns[j], rfl, rfl, hS, atI_nat ?_, k _⟩
    rw [List.getElem?_map, List.getElem?_eq_getElem hj]
    rfl
  · exact k _
def sp__law_digits (K : PySem.W.Frag) : Sp := SpOf (fun ((a, _, lo, hi) : Addr × List Int × Int × Int) => [.ref a, .int lo, .int hi]) fun (a, ns, lo, hi) H Q =>
  SqL K H a (ns.map V.int) ∧ 0 ≤ lo ∧ lo ≤ hi ∧ hi ≤ 1000 ∧ ∀ (l : Addr) (ds : List Int), H l = none → ds.length ≤ 60 * (hi - lo).toNat → Q (.ref l) (upd H l (.lst (ds.map V.int)))
set_option maxHeartbeats 4000000 in
theorem ok__law_digits (T : Txt K mg) : DefOk P w K mg base "_law_digits" 2 ["_law_script", "_law_first", "_law_last"] (sp__law_digits K) := by
  have G__law_cell := ok__law_cell (P := P) (w := w) (base := base) T
  refine DefOk.mk' T.d__law_digits sc__law_digits (fun _ _ _ _ _ _ us hl => match us, hl with | [_, _, _], _ => rfl) (fun _ => rfl) (fun cdv f A outer s H p Q E hr h => ?_)
  obtain ⟨a, ns, lo, hi⟩ := p
  obtain ⟨hS, h0, h1, h2, k⟩ := h
  refine ⟨_, (pss_cons (ps_set (i := 3) sc__law_digits.nd rfl (.inl rfl) (pe_lst pa_nil))
    (pss_cons (ps_for PassesOwn.never rfl (pi_range2 rfl T.n_range (pa_cons (pv 1) (pa_cons (pv 2) pa_nil))) (pg_name (i := 4) sc__law_digits.nd rfl (.inl rfl))
    (pss_cons (ps_set (i := 5) sc__law_digits.nd rfl (.inl rfl) (pe_callD G__law_cell (hr.mono (by decide)) rfl (pa_cons (pv 0) (pa_cons (pv 4) pa_nil))))
    (C8.pss_cut (ps_if (pt_cmpR op_lt (pv 5) pe_int (nomark _))
    (pss_one (ps_set (i := 5) sc__law_digits.nd rfl (.inl rfl) (pe_op op_sub pe_int (pe_op op_mul pe_int (pv 5)))))
    pss_nil)
    (pss_one (ps_if (pt_cmpR op_ge (pv 5) pe_int (nomark _))
    (pss_one (ps_for PassesOwn.never rfl (pi_range1 rfl T.n_range (pa_cons pe_int pa_nil)) (pg_name (i := 6) sc__law_digits.nd rfl (.inl rfl))
    (pss_one (ps_if (pt_cmpR op_gt (pv 5) pe_int (nomark _))
    (pss_cons (ps_expr (bmK (K := K) (pe_bm PySem.F.plainAttrs_list PySem.F.slot_list_append PySem.F.type_list_append mt_append (pv 3) (pa_cons (pe_op op_modN (pe_callTy call_int1 (by rfl) T.n_int (by decide +kernel) (pa_cons (pv 5) pa_nil)) pe_int) pa_nil))))
    (pss_one (ps_set (i := 5) sc__law_digits.nd rfl (.inl rfl) (pe_op op_fdivN (pv 5) pe_int))))
    pss_nil))))
    (pss_cons (ps_set (i := 7) sc__law_digits.nd rfl (.inl rfl) (pe_op op_modN (pe_callTy call_int1 (by rfl) T.n_int (by decide +kernel) (pa_cons (pe_op op_add (pe_op op_add (pe_op op_mul (pv 5) pe_int) (pe_op op_mul (pv 4) pe_int)) pe_int) pa_nil)) pe_int))
    (pss_one (ps_for PassesOwn.never rfl (pi_range1 rfl T.n_range (pa_cons pe_int pa_nil)) (pg_name (i := 6) sc__law_digits.nd rfl (.inl rfl))
    (pss_cons (ps_set (i := 7) sc__law_digits.nd rfl (.inl rfl) (pe_op op_modN (pe_callTy call_int1 (by rfl) T.n_int (by decide +kernel) (pa_cons (pe_op op_add (pe_op op_add (pe_op op_mul (pv 7) pe_int) (pe_op op_mul pe_int (pv 6))) pe_int) pa_nil)) pe_int))
    (pss_one (ps_expr (bmK (K := K) (pe_bm PySem.F.plainAttrs_list PySem.F.slot_list_append PySem.F.type_list_append mt_append (pv 3) (pa_cons (pe_op op_modN (pe_callTy call_int1 (by rfl) T.n_int (by decide +kernel) (pa_cons (pe_op op_fdivN (pv 7) pe_int) pa_nil)) pe_int) pa_nil))))))))))))))
    (pss_one (ps_ret (pv 3))))), ?_⟩
  refine ⟨Nat.zero_le _, fun o no => ?_⟩
  have hSo : ∀ ds : List Int, SqL K (upd H o (.lst (ds.map V.int))) a (ns.map V.int) := fun ds => (Fr.same (Fr.new no)).seq hS
  refine ⟨_, rfl, _, rfl, _, _, rfl, ⟨by omega, by omega, by omega, by omega⟩, for_range (lo := lo) (n := (hi - lo).toNat)
    (fun i σ H' => ∃ (ds : List Int) (v4 v5 v6 v7 : Option V), σ = [some (.ref a), some (.int lo), some (.int hi), some (.ref o), v4, v5, v6, v7] ∧ ds.length ≤ 60 * i ∧ H' = upd H o (.lst (ds.map V.int)))
    ⟨[], none, none, none, none, rfl, Nat.le_refl _, rfl⟩ ?_ ?_⟩
  · rintro i σ H' hi' ⟨ds, v4, v5, v6, v7, rfl, hl, rfl⟩
    refine ⟨_, rfl, _, rfl, (a, ns, lo + i), rfl, hSo ds, by show 0 ≤ lo + (i : Int); omega, fun c => ?_⟩
    refine ⟨fun σ H' => ∃ z, σ = [some (.ref a), some (.int lo), some (.int hi), some (.ref o), some (.int (lo + i)), some (.int z), v6, v7] ∧ H' = upd H o (.lst (ds.map V.int)), ?_, ?_⟩
    · refine ⟨_, rfl, _, _, rfl, rfl, _, rfl, ite2 (fun _ => ?_) (fun _ => ⟨c, rfl, rfl⟩)⟩
      exact ⟨_, rfl, _, _, rfl, rfl, .inl ⟨by decide, by decide⟩, _, _, rfl, rfl, _, rfl, rfl⟩
    · rintro σ H' ⟨z, rfl, rfl⟩
      refine ⟨_, rfl, _, _, rfl, rfl, _, rfl, ite2 (fun _ => ?_) (fun _ => ?_)⟩
      · refine ⟨60, rfl, by decide, by decide, for_range (lo := 0) (n := 60)
          (fun j σ H' => ∃ (ds' : List Int) (z : Int) (v6 : Option V), σ = [some (.ref a), some (.int lo), some (.int hi), some (.ref o), some (.int (lo + i)), some (.int z), v6, v7] ∧ ds'.length ≤ 60 * i + j ∧ H' = upd H o (.lst (ds'.map V.int)))
          ⟨ds, z, _, rfl, hl, rfl⟩ ?_ fun σ H' ⟨ds', z, v6, e, hl', e'⟩ => ⟨ds', _, _, _, _, e, by omega, e'⟩⟩
        rintro j σ H' hj ⟨ds', z, v6, rfl, hl', rfl⟩
        refine ⟨_, rfl, _, _, rfl, rfl, _, rfl, ite2 (fun _ => ?_) (fun _ => ⟨ds', z, _, rfl, by omega, rfl⟩)⟩
        refine ⟨_, rfl, .inl ⟨rfl, _, SqL.of upd_same⟩, _, rfl, .inl ⟨_, rfl, _, _, rfl, rfl, (by show (1000 : Int) ≠ 0; decide), o, _, _, rfl, rfl, upd_same, ?_, _, rfl, _, _, rfl, rfl, ⟨by decide, by decide⟩, ?_⟩⟩
        · rw [List.length_map]
          exact small100k (by omega)
        · refine ⟨_, _, _, rfl, ?_, upd_snocI⟩
          rw [List.length_append]
          show ds'.length + 1 ≤ _
          omega
      · refine ⟨_, rfl, _, _, rfl, rfl, .inr ⟨by decide, by decide⟩, _, rfl, _, _, rfl, rfl, .inr ⟨by decide, by decide⟩, _, _, rfl, rfl, _, _, rfl, rfl, .inl ⟨_, rfl, _, _, rfl, rfl, (by show (2147483399 : Int) ≠ 0; decide), ?_⟩⟩
        refine ⟨12, rfl, by decide, by decide, for_range (lo := 0) (n := 12)
          (fun j σ H' => ∃ (ds' : List Int) (y : Int) (v6 : Option V), σ = [some (.ref a), some (.int lo), some (.int hi), some (.ref o), some (.int (lo + i)), some (.int z), v6, some (.int y)] ∧ ds'.length ≤ 60 * i + j ∧ H' = upd H o (.lst (ds'.map V.int)))
          ⟨ds, _, _, rfl, hl, rfl⟩ ?_ fun σ H' ⟨ds', y, v6, e, hl', e'⟩ => ⟨ds', _, _, _, _, e, by omega, e'⟩⟩
        rintro j σ H' hj ⟨ds', y, v6, rfl, hl', rfl⟩
        refine ⟨_, rfl, _, _, rfl, rfl, .inr ⟨by decide, by decide⟩, _, rfl, _, _, rfl, rfl, .inl ⟨by decide, by decide⟩, _, _, rfl, rfl, _, _, rfl, rfl, .inl ⟨_, rfl, _, _, rfl, rfl, (by show (2147483563 : Int) ≠ 0; decide), ?_⟩⟩
        refine ⟨_, rfl, .inl ⟨rfl, _, SqL.of upd_same⟩, _, rfl, _, _, rfl, rfl, ⟨by decide, by decide⟩, .inl ⟨_, rfl, _, _, rfl, rfl, (by show (1000 : Int) ≠ 0; decide), o, _, _, rfl, rfl, upd_same, ?_, ?_⟩⟩
        · rw [List.length_map]
          exact small100k (by omega)
        · refine ⟨_, _, _, rfl, ?_, upd_snocI⟩
          rw [List.length_append]
          show ds'.length + 1 ≤ _
          omega
  · rintro σ H' ⟨ds, v4, v5, v6, v7, rfl, hl, rfl⟩
    exact ⟨_, rfl, k o ds no hl⟩


/-! the box of the draws, as a part of the heap -/
def boxC (b : Addr) : Asr := exA fun x : Addr × List Int × Int => star [prop (0 ≤ x.2.2), pt b (.lst [.ref x.1, .int x.2.2]), pt x.1 (.lst (x.2.1.map V.int))]
theorem box_open {b : Addr} {l : List Asr} {H : Hp} : Holds (boxC b :: l) H ↔ ∃ (a : Addr) (ds : List Int) (z : Int), 0 ≤ z ∧ Holds (pt b (.lst [.ref a, .int z]) :: pt a (.lst (ds.map V.int)) :: l) H := by
  refine holds_ex.trans ⟨?_, ?_⟩
  · rintro ⟨⟨a, ds, z⟩, h⟩
    obtain ⟨h1, h2⟩ := holds_prop.mp (holds_star.mp h)
    exact ⟨a, ds, z, h1, h2⟩
  · rintro ⟨a, ds, z, h1, h2⟩
    exact ⟨(a, ds, z), holds_star.mpr (holds_prop.mpr ⟨h1, h2⟩)⟩
def sp__law_draw (K : PySem.W.Frag) : Sp := SpOf (fun ((b, m, _) : Addr × Int × List Asr) => [.ref b, .int m]) fun (b, m, L) H Q => Holds (boxC b :: L) H ∧ 0 < m ∧ ∀ (r : Int) (H' : Hp), 0 ≤ r → r < m → Holds (boxC b :: L) H' → Imm H H' → Q (.int r) H'
set_option maxHeartbeats 4000000 in
theorem ok__law_draw (T : Txt K mg) : DefOk P w K mg base "_law_draw" 1 ["_law_box", "_law_many"] (sp__law_draw K) := by
  refine DefOk.mk' T.d__law_draw sc__law_draw (fun _ _ _ _ _ _ us hl => match us, hl with | [_, _], _ => rfl) (fun _ => rfl) (fun cdv f A outer s H p Q E hr h => ?_)
  obtain ⟨b, m, L⟩ := p
  obtain ⟨hB, hm, k⟩ := h
  refine ⟨_, (pss_cons (ps_set (i := 2) sc__law_draw.nd rfl (.inl rfl) (pe_ix (ix_listK (K := K)) (pv 0) pe_int (fun _ _ => rfl)))
    (pss_cons (ps_asg (pe_op op_add (pv 2) pe_int) (pg_sub (pv 0) pe_int set_list))
    (pss_cons (ps_if (pt_cmpR op_lt (pv 2) (pe_callB (call_lenK (K := K)) (by rfl) T.n_len (by decide +kernel) (pa_cons (pe_ix (ix_listK (K := K)) (pv 0) pe_int (fun _ _ => rfl)) pa_nil)) (nomark _))
    (pss_one (ps_ret (pe_op op_modN (pe_callTy call_int1 (by rfl) T.n_int (by decide +kernel) (pa_cons (pe_ix (ix_listK (K := K)) (pe_ix (ix_listK (K := K)) (pv 0) pe_int (fun _ _ => rfl)) (pv 2) (fun _ _ => rfl)) pa_nil)) (pv 1))))
    pss_nil)
    (pss_one (ps_ret (pe_op op_modN (pe_callTy call_int1 (by rfl) T.n_int (by decide +kernel) (pa_cons (pe_op op_add (pe_op op_mul (pv 2) pe_int) pe_int) pa_nil)) (pv 1))))))), ?_⟩
  obtain ⟨l, ds, z, hz, h⟩ := box_open.mp hB
  have hb : H b = some (.lst [.ref l, .int z]) := h.at
  have h1 : Holds (pt b (.lst [.ref l, .int (z + 1)]) :: pt l (.lst (ds.map V.int)) :: L) (upd H b (.lst [.ref l, .int (z + 1)])) := h.set
  have i1 : Imm H (upd H b (.lst [.ref l, .int (z + 1)])) := h.modPI (i := 0) rfl _
  refine ⟨_, rfl, b, _, 1, .int z, rfl, rfl, SqL.of hb, rfl, _, rfl, _, _, rfl, rfl, _, rfl, b, _, 1, 1, rfl, rfl, hb, rfl, ?_⟩
  rw [show ([V.ref l, V.int z].set 1 (V.int (z + 1))) = [V.ref l, V.int (z + 1)] from rfl]
  generalize upd H b (.lst [.ref l, .int (z + 1)]) = H1 at h1 i1 ⊢
  have B' : Holds (boxC b :: L) H1 := box_open.mpr ⟨l, ds, z + 1, by omega, h1⟩
  have hb1 : H1 b = some (.lst [.ref l, .int (z + 1)]) := h1.at
  have hl2 : SqL K H1 l (ds.map V.int) := SqL.of (h1.rd (i := 1) rfl)
  refine ⟨_, rfl, _, rfl, b, _, 0, .ref l, rfl, rfl, SqL.of hb1, rfl, l, _, rfl, .inl hl2, _, _, rfl, rfl, _, rfl, ite2 (fun h => ?_) (fun _ => ?_)⟩
  · have h : z < ((ds.map V.int).length : Int) := of_decide_eq_true h
    rw [List.length_map] at h
    obtain ⟨j, rfl⟩ : ∃ j : Nat, z = (j : Int) := ⟨z.toNat, by omega⟩
    have hj : j < ds.length := by omega
    refine ⟨_, rfl, b, _, 0, .ref l, rfl, rfl, SqL.of hb1, rfl, _, rfl, l, _, _, .int ds[j], rfl, rfl, hl2, atI_nat (by rw [List.getElem?_map, List.getElem?_eq_getElem hj]; rfl), .inl ⟨_, rfl, _, rfl, _, _, rfl, rfl, (by show m ≠ 0; omega), ?_⟩⟩
    exact k _ _ (Int.fmod_nonneg_of_pos _ hm) (Int.fmod_lt_of_pos _ hm) B' i1
  · refine ⟨_, rfl, _, _, rfl, rfl, .inr ⟨by decide, by decide⟩, _, _, rfl, rfl, .inl ⟨_, rfl, _, rfl, _, _, rfl, rfl, (by show m ≠ 0; omega), ?_⟩⟩
    exact k _ _ (Int.fmod_nonneg_of_pos _ hm) (Int.fmod_lt_of_pos _ hm) B' i1

def sp__law_alike (K : PySem.W.Frag) : Sp := SpOf (fun ((x, y, _, _, _) : V × V × PyData × Nat × Nat) => [x, y]) fun (x, y, d, n, m) H Q => Dp K H x d ∧ Dp K H y d ∧ Sr n m d ∧ n ≤ 60 ∧ m ≤ 2 ^ 20 ∧ Q (.bl true) H
set_option maxHeartbeats 4000000 in
theorem ok__law_alike (T : Txt K mg) : DefOk P w K mg base "_law_alike" 1 ["_law_one", "_law_two"] (sp__law_alike K) := by
  refine DefOk.mk' T.d__law_alike sc__law_alike (fun _ _ _ _ _ _ us hl => match us, hl with | [_, _], _ => rfl) (fun _ => rfl) (fun cdv f A outer s H p Q E hr h => ?_)
  obtain ⟨x, y, d, n, m⟩ := p
  obtain ⟨h1, h2, hs, hn, hm, k⟩ := h
  refine ⟨_, (pss_one (ps_ret (pe_cmpR op_eq (pe_callB (call_repr (K := K) ⟨hr.gd, hr.units⟩) (by rfl) T.n_repr (by decide +kernel) (pa_cons (pv 0) pa_nil)) (pe_callB (call_repr (K := K) ⟨hr.gd, hr.units⟩) (by rfl) T.n_repr (by decide +kernel) (pa_cons (pv 1) pa_nil)) (nomark _)))), ?_⟩
  refine ⟨_, rfl, x, d, n, m, rfl, h1, hs, hn, hm, _, rfl, y, d, n, m, rfl, h2, hs, hn, hm, rfl, ?_⟩
  rw [decide_eq_true rfl]
  exact k

end
section
open PySem PySem.Spec PyProof.Rows L2
variable {P : Program} {w : World} {K : PySem.W.Frag} {mg : Str → Option Value} {base : Heap}
/-! ### events drawn by the law -/
theorem Nb.sr {n : Int} {k : Nat} (h : Nb n) : Sr k 40 (.int n) := sr_int (by have := h.1; have := h.2; omega)
theorem sr_strS {n : Nat} {z : Str} (h : z.length ≤ 40) (hc : ∀ c ∈ z.cps.toList, c < 0x110000) : Sr n 40 (.str z) := (sr_str hc).mono (Nat.le_refl _) h
theorem kind_sr {n : Nat} (b : Bool) : Sr n 40 (.str (kindS b)) := by cases b <;> exact sr_strS (by decide +kernel) (by decide +kernel)
theorem car_sr {c : Bool × Int} (h : Nb c.2) : Sr 1 82 (carD c) := sr_tuple (n := 0) (m := 40) (L := 2) (fun d hd => by
  simp only [List.mem_cons, List.not_mem_nil, or_false] at hd
  rcases hd with rfl | rfl
  · exact kind_sr _
  · exact h.sr) (Nat.le_refl _)
theorem pairNb_sr {p : Int × Int} (h : Nb p.1 ∧ Nb p.2) : Sr 1 82 (pairD p) := sr_tuple (n := 0) (m := 40) (L := 2) (fun d hd => by
  simp only [List.mem_cons, List.not_mem_nil, or_false] at hd
  rcases hd with rfl | rfl
  · exact h.1.sr
  · exact h.2.sr) (Nat.le_refl _)
theorem ints_sr {ns : List Int} (h : ∀ n ∈ ns, Nb n) (hl : ns.length ≤ 1000) : Sr 1 41000 (.tuple (ns.map .int)) := sr_tuple (n := 0) (m := 40) (L := 1000) (fun d hd => by
  obtain ⟨n, hn, rfl⟩ := List.mem_map.mp hd
  exact (h n hn).sr) (by rw [List.length_map]; exact hl)
theorem msg_sr {who : Int} {m : MsgM} (h : (Ev.receive m).okT who) (hw : Nb who) (hl : m.held.length ≤ 1000) : Sr 3 246010 m.data := by
  obtain ⟨h0, h1, h2, h3, h4, h5, h6, h7⟩ := h
  have hr : Nb m.receiver := h0 ▸ hw
  refine (sr_tuple (n := 2) (m := 41000) (L := 6) (fun d hd => ?_) (Nat.le_refl _)).mono (Nat.le_refl _) (by decide)
  simp only [List.mem_cons, List.not_mem_nil, or_false] at hd
  rcases hd with rfl | rfl | rfl | rfl | rfl | rfl
  · exact h1.sr.mono (Nat.le_refl _) (by decide)
  · exact hr.sr.mono (Nat.le_refl _) (by decide)
  · exact h2.sr.mono (Nat.le_refl _) (by decide)
  · exact h3.sr.mono (Nat.le_refl _) (by decide)
  · exact (ints_sr h4 hl).mono (by decide) (by decide)
  · refine (sr_tuple (n := 1) (m := 82) (L := 200) (fun d hd => ?_) (by rw [List.length_map]; omega)).mono (by decide) (by decide)
    obtain ⟨c, hc, rfl⟩ := List.mem_map.mp hd
    exact car_sr (h6 c hc)
def Ev.brief : Ev → Prop
  | .receive m => m.held.length ≤ 9
  | .remove es => es.length ≤ 9
  | _ => True
theorem ev_sr {who : Int} {e : Ev} (h : e.okT who) (hw : Nb who) (ht : e.tsz) : Sr 4 1000000 e.data := by
  have word : ∀ {n : Nat} (z : Str), z.length ≤ 40 → (∀ c ∈ z.cps.toList, c < 0x110000) → Sr n 246010 (.str z) := fun z h1 h2 => (sr_strS h1 h2).mono (Nat.le_refl _) (by decide)
  have nb : ∀ {n : Int} {k : Nat}, Nb n → Sr k 246010 (.int n) := fun h => h.sr.mono (Nat.le_refl _) (by decide)
  have tup : ∀ (ds : List PyData), ds.length ≤ 4 → (∀ d ∈ ds, Sr 3 246010 d) → Sr 4 1000000 (.tuple ds) := fun ds hl h => (sr_tuple (n := 3) (m := 246010) (L := 4) h hl).mono (Nat.le_refl _) (by decide)
  cases e with
  | make n =>
    refine tup _ (by show 2 ≤ 4; decide) fun d hd => ?_
    simp only [List.mem_cons, List.not_mem_nil, or_false] at hd
    rcases hd with rfl | rfl
    · exact word _ (by decide +kernel) (by decide +kernel)
    · exact nb h
  | read r f =>
    refine tup _ (by show 3 ≤ 4; decide) fun d hd => ?_
    simp only [List.mem_cons, List.not_mem_nil, or_false] at hd
    rcases hd with rfl | rfl | rfl
    · exact word _ (by decide +kernel) (by decide +kernel)
    · exact nb h.1
    · exact nb h.2
  | write r f o =>
    refine tup _ (by show 4 ≤ 4; decide) fun d hd => ?_
    simp only [List.mem_cons, List.not_mem_nil, or_false] at hd
    rcases hd with rfl | rfl | rfl | rfl
    · exact word _ (by decide +kernel) (by decide +kernel)
    · exact nb h.1
    · exact nb h.2.1
    · cases o with
      | none => exact sr_non.mono (Nat.le_refl _) (by decide)
      | some i => exact nb (h.2.2 i rfl)
  | drop n =>
    refine tup _ (by show 2 ≤ 4; decide) fun d hd => ?_
    simp only [List.mem_cons, List.not_mem_nil, or_false] at hd
    rcases hd with rfl | rfl
    · exact word _ (by decide +kernel) (by decide +kernel)
    · exact nb h
  | send to rs =>
    refine tup _ (by show 3 ≤ 4; decide) fun d hd => ?_
    simp only [List.mem_cons, List.not_mem_nil, or_false] at hd
    rcases hd with rfl | rfl | rfl
    · exact word _ (by decide +kernel) (by decide +kernel)
    · exact nb h.1
    · exact (ints_sr h.2.1 (by have := h.2.2; omega)).mono (by decide) (by decide)
  | receive m =>
    refine tup _ (by show 2 ≤ 4; decide) fun d hd => ?_
    simp only [List.mem_cons, List.not_mem_nil, or_false] at hd
    rcases hd with rfl | rfl
    · exact word _ (by decide +kernel) (by decide +kernel)
    · exact msg_sr h hw ht.2.2.2.2.2.1
  | collect =>
    refine tup _ (by show 1 ≤ 4; decide) fun d hd => ?_
    rw [List.mem_singleton.mp hd]
    exact word _ (by decide +kernel) (by decide +kernel)
  | report =>
    refine tup _ (by show 1 ≤ 4; decide) fun d hd => ?_
    rw [List.mem_singleton.mp hd]
    exact word _ (by decide +kernel) (by decide +kernel)
  | remove es =>
    refine tup _ (by show 2 ≤ 4; decide) fun d hd => ?_
    simp only [List.mem_cons, List.not_mem_nil, or_false] at hd
    rcases hd with rfl | rfl
    · exact word _ (by decide +kernel) (by decide +kernel)
    · refine (sr_tuple (n := 1) (m := 82) (L := 1000) (fun d hd => ?_) (by rw [List.length_map]; exact ht.2)).mono (by decide) (by decide)
      obtain ⟨c, hc, rfl⟩ := List.mem_map.mp hd
      exact pairNb_sr (h.1 c hc)
theorem joinL_len : ∀ ps : List (List Nat), (TL.joinL [32] ps).length ≤ (ps.map fun p => p.length + 1).sum
  | [] => Nat.le_refl _
  | [p] => by show p.length ≤ p.length + 1 + 0; omega
  | p :: q :: r => by
    have := joinL_len (q :: r)
    show (p ++ ([32] ++ TL.joinL [32] (q :: r))).length ≤ p.length + 1 + ((q :: r).map fun p => p.length + 1).sum
    rw [List.length_append, List.length_append]
    show p.length + (1 + _) ≤ _
    omega
theorem sum_le {l : List Nat} {b : Nat} (h : ∀ x ∈ l, x ≤ b) : l.sum ≤ l.length * b := by
  induction l with
  | nil => simp
  | cons x l ih =>
    have h1 := h x List.mem_cons_self
    have h2 := ih fun y hy => h y (List.mem_cons_of_mem _ hy)
    rw [List.sum_cons, List.length_cons, Nat.succ_mul]
    omega
theorem word_len (e : Ev) : e.wordS.length ≤ 18 := by
  have q : ∀ z ∈ (["make", "read", "write", "drop", "send", "receive", "collect", "report", "remove"] : List Str), z.length ≤ 18 := by decide +kernel
  cases e with
  | make _ => exact q "make" (by decide +kernel)
  | read _ _ => exact q "read" (by decide +kernel)
  | write _ _ _ => exact q "write" (by decide +kernel)
  | drop _ => exact q "drop" (by decide +kernel)
  | send _ _ => exact q "send" (by decide +kernel)
  | receive _ => exact q "receive" (by decide +kernel)
  | collect => exact q "collect" (by decide +kernel)
  | report => exact q "report" (by decide +kernel)
  | remove _ => exact q "remove" (by decide +kernel)
theorem textS_len {e : Ev} (h : e.tsz) : e.textS.length ≤ (e.restS.length + 1) * 19 := by
  obtain ⟨h1, h2⟩ := h.short
  unfold Ev.textS
  rw [TL.len_tl, TL.join_eq, TL.tl_join, show TL.tl (" " : Str) = [32] by decide +kernel]
  refine Nat.le_trans (joinL_len _) ?_
  refine Nat.le_trans (sum_le (b := 19) fun x hx => ?_) (by rw [List.length_map, List.length_map, List.length_append]; show (1 + e.restS.length) * 19 ≤ _; omega)
  obtain ⟨p, hp, rfl⟩ := List.mem_map.mp hx
  obtain ⟨z, hz, rfl⟩ := List.mem_map.mp hp
  rw [← TL.len_tl]
  rcases List.mem_append.mp hz with hz | hz
  · rw [List.mem_singleton.mp hz]
    have := word_len e
    omega
  · have := h2 z hz
    omega
theorem brief_len {who : Int} {e : Ev} (h : e.okT who) (hb : e.brief) : e.tsz ∧ e.textS.length ≤ 494 := by
  have ht : e.tsz := okT_tsz h (fun m q => by subst q; have : m.held.length ≤ 9 := hb; omega) fun es q => by subst q; have : es.length ≤ 9 := hb; omega
  refine ⟨ht, Nat.le_trans (textS_len ht) ?_⟩
  have : e.restS.length ≤ 25 := by
    cases e with
    | make _ => show 1 ≤ 25; decide
    | read _ _ => show 2 ≤ 25; decide
    | write _ _ _ => show 3 ≤ 25; decide
    | drop _ => show 1 ≤ 25; decide
    | send to rs => show ([numS to] ++ rs.map numS).length ≤ 25; rw [List.length_append, List.length_map]; have := h.2.2; simp only [List.length_cons, List.length_nil]; omega
    | receive m =>
      have h1 : m.held.length ≤ 9 := hb
      have h2 := h.2.2.2.2.2.2.2
      show m.wordsS.length ≤ 25
      unfold MsgM.wordsS
      rw [List.length_append, List.length_append, List.length_append, List.length_map, carW_len]
      simp only [List.length_cons, List.length_nil]
      omega
    | collect => show 0 ≤ 25; decide
    | report => show 0 ≤ 25; decide
    | remove es => show (pairW es).length ≤ 25; rw [pairW_len]; have : es.length ≤ 9 := hb; omega
  omega
def sp__law_rank (K : PySem.W.Frag) : Sp := SpOf (fun ((a, _, n) : Addr × List Int × Int) => [.ref a, .int n]) fun (a, ns, n) H Q => SqL K H a (ns.map V.int) ∧ n ∈ ns ∧ Q (.int ((ns.idxOf n / 2 : Nat) : Int)) H
theorem eqV_int (a b : Int) : eqV (.int a) (.int b) = decide (a = b) := by
  show (a == b) = _
  rw [Bool.eq_iff_iff]
  simp
theorem idx_firstI {z : Int} {ws : List Int} {m : Nat} {y : Int} (hm : m < ws.idxOf z) (hy : ws[m]? = some y) : y ≠ z := by
  intro e
  subst e
  induction ws generalizing m with
  | nil => simp at hy
  | cons w ws ih =>
    rw [List.idxOf_cons] at hm
    by_cases hw : (w == y) = true
    · rw [hw] at hm
      simp at hm
    · have hw : (w == y) = false := by simpa using hw
      rw [hw] at hm
      simp only [cond_false] at hm
      cases m with
      | zero =>
        cases hy
        simp at hw
      | succ m => exact ih hy (Nat.lt_of_succ_lt_succ hm)
set_option maxHeartbeats 4000000 in
theorem ok__law_rank (T : Txt K mg) : DefOk P w K mg base "_law_rank" 1 ["_law_held", "_law_number"] (sp__law_rank K) := by
  refine DefOk.mk' T.d__law_rank sc__law_rank (fun _ _ _ _ _ _ us hl => match us, hl with | [_, _], _ => rfl) (fun _ => rfl) (fun cdv f A outer s H p Q E hr h => ?_)
  obtain ⟨a, ns, n⟩ := p
  obtain ⟨hS, hn, k⟩ := h
  refine ⟨_, (pss_one (ps_ret (pe_op op_fdivN (bmK (K := K) (pe_bm PySem.F.plainAttrs_list PySem.F.slot_list_index PySem.F.type_list_index  (mt_indexK (K := K)) (pv 0) (pa_cons (pv 1) pa_nil))) pe_int))), ?_⟩
  have hj := List.idxOf_lt_length_of_mem hn
  refine ⟨_, rfl, .inl ⟨rfl, _, hS⟩, _, rfl, a, _, _, ns.idxOf n, .int n, rfl, rfl, hS, rfl, ?_, by rw [List.getElem?_map, List.getElem?_eq_getElem hj, List.getElem_idxOf]; rfl, by rw [eqV_int]; exact decide_eq_true rfl, fun m z' hm hy => ?_, _, _, rfl, rfl, ⟨by decide, by decide⟩, ?_⟩
  · rw [List.all_eq_true]
    intro x hx
    obtain ⟨i, _, rfl⟩ := List.mem_map.mp hx
    rfl
  · rw [List.getElem?_map] at hy
    obtain ⟨y, hy', rfl⟩ := Option.map_eq_some_iff.mp hy
    rw [eqV_int]
    exact decide_eq_false (idx_firstI hm hy')
  · show Q (V.int (((ns.idxOf n : Nat) : Int).fdiv 2)) H
    rw [Int.fdiv_eq_ediv_of_nonneg _ (by decide)]
    exact k

end
section
open PySem PySem.Spec PyProof.Rows L2
variable {P : Program} {w : World} {K : PySem.W.Frag} {mg : Str → Option Value} {base : Heap}
/-! ### an event drawn -/
theorem atI_inV {α : Type} {vs : List α} {r : Int} (h0 : 0 ≤ r) (h1 : r < vs.length) : ∃ v, v ∈ vs ∧ atI vs r = some v := by
  obtain ⟨j, rfl⟩ : ∃ j : Nat, r = (j : Int) := ⟨r.toNat, by omega⟩
  have hj : j < vs.length := by omega
  exact ⟨vs[j], List.getElem_mem hj, atI_nat (List.getElem?_eq_getElem hj)⟩
theorem perm_nb {l m : List Int} (h : l.Perm m) (hm : ∀ n ∈ m, Nb n) : ∀ n ∈ l, Nb n := fun n hn => hm n (h.mem_iff.mp hn)
theorem risesI_pw {l : List Int} (h : l.Pairwise (· < ·)) : risesI l = true := by
  induction l with
  | nil => rfl
  | cons a l ih =>
    cases l with
    | nil => rfl
    | cons b r =>
      have h2 := List.pairwise_cons.mp h
      show (decide (a < b) && risesI (b :: r)) = true
      rw [decide_eq_true (h2.1 b List.mem_cons_self), ih h2.2]
      rfl
theorem idxOf_at {l : List Int} (h : l.Pairwise (· < ·)) {i : Nat} {n : Int} (hn : l[i]? = some n) : l.idxOf n = i := by
  have hm := List.mem_of_getElem? hn
  have hj := List.idxOf_lt_length_of_mem hm
  have e : l[l.idxOf n] = n := List.getElem_idxOf ..
  have hi : i < l.length := (List.getElem?_eq_some_iff.mp hn).1
  have e2 : l[i] = n := (List.getElem?_eq_some_iff.mp hn).2
  have p := List.pairwise_iff_getElem.mp h
  rcases Nat.lt_trichotomy (l.idxOf n) i with z | z | z
  · have := p _ _ hj hi z
    omega
  · exact z
  · have := p _ _ hi hj z
    omega
theorem risesP_get : ∀ {l : List (Int × Int)}, (∀ i a b, l[i]? = some a → l[i + 1]? = some b → ltPB a b = true) → risesP l = true
  | [], _ => rfl
  | [_], _ => rfl
  | a :: b :: r, h => by
    show (ltPB a b && risesP (b :: r)) = true
    rw [h 0 a b rfl rfl, risesP_get fun i x y hx hy => h (i + 1) x y hx hy]
    rfl
theorem ranks_rise {l : List Int} (h : l.Pairwise (· < ·)) : risesP (l.map fun n => (((l.idxOf n / 2 : Nat) : Int), n)) = true := by
  refine risesP_get fun i a b ha hb => ?_
  rw [List.getElem?_map] at ha hb
  obtain ⟨x, hx, rfl⟩ := Option.map_eq_some_iff.mp ha
  obtain ⟨y, hy, rfl⟩ := Option.map_eq_some_iff.mp hb
  rw [idxOf_at h hx, idxOf_at h hy]
  have hi := (List.getElem?_eq_some_iff.mp hx)
  have hi2 := (List.getElem?_eq_some_iff.mp hy)
  have := List.pairwise_iff_getElem.mp h i (i + 1) hi.1 hi2.1 (by omega)
  rw [hi.2, hi2.2] at this
  unfold ltPB
  by_cases e : i / 2 = (i + 1) / 2
  · rw [e, decide_eq_true (show (x : Int) < y from this)]
    simp
  · have : ((i / 2 : Nat) : Int) < (((i + 1) / 2 : Nat) : Int) := by omega
    rw [decide_eq_true this]
    rfl
def sp__law_any_event (K : PySem.W.Frag) : Sp := SpOf (fun ((b, _) : Addr × List Asr) => [.ref b]) fun (b, L) H Q => Holds (boxC b :: L) H ∧ ∀ (t : Addr) (e : Ev) (H' : Hp), Holds (boxC b :: L) H' → Imm H H' → Fz K H' (.ref t) e.data → e.okT 2 → e.brief → Q (.ref t) H'
set_option maxHeartbeats 4000000 in
theorem ok__law_any_event (T : Txt K mg) : DefOk P w K mg base "_law_any_event" 2 ["_law_box"] (sp__law_any_event K) := by
  have G__law_draw := ok__law_draw (P := P) (w := w) (base := base) T
  have G__law_rank := ok__law_rank (P := P) (w := w) (base := base) T
  refine DefOk.mk' T.d__law_any_event sc__law_any_event (fun _ _ _ _ _ _ us hl => match us, hl with | [_], _ => rfl) (fun _ => rfl) (fun cdv f A outer s H p Q E hr h => ?_)
  obtain ⟨b, L⟩ := p
  obtain ⟨hB, k⟩ := h
  refine ⟨_, (pss_cons (ps_set (i := 1) sc__law_any_event.nd rfl (.inl rfl) (pe_callD G__law_draw (hr.mono (by decide)) rfl (pa_cons (pv 0) (pa_cons pe_int pa_nil))))
    (pss_cons (ps_set (i := 2) sc__law_any_event.nd rfl (.inr rfl) (pe_lc (own := [("_law_k", 6)]) (g := gName 6) (tt := tYes) rfl sc__law_any_event.nd (pi_range1 rfl T.n_range (pa_cons pe_int pa_nil)) (blkOk_by (own := [("_law_k", 6)]) (N := N__law_any_event) (sc := defScope s__law_any_event) (by decide +kernel)) (fun _ _ _ _ _ => pg_name (i := 6) sc__law_any_event.nd rfl (.inl rfl)) (fun _ _ _ _ _ => pts_nil) (fun _ _ _ _ _ => (pe_ix (ix_listK (K := K)) (pe_lst (pa_cons pe_int (pa_cons (pe_callD G__law_draw (hr.mono (by decide)) rfl (pa_cons (pv 0) (pa_cons pe_int pa_nil))) (pa_cons pe_int (pa_cons (pe_callD G__law_draw (hr.mono (by decide)) rfl (pa_cons (pv 0) (pa_cons pe_int pa_nil))) pa_nil))))) (pe_callD G__law_draw (hr.mono (by decide)) rfl (pa_cons (pv 0) (pa_cons pe_int pa_nil))) (fun _ _ => rfl)))))
    (pss_cons (ps_if (pt_cmpR op_eq (pv 1) pe_int (nomark _))
    (pss_one (ps_ret (pe_tup (pa_cons pe_str (pa_cons (pe_ix (ix_listK (K := K)) (pv 2) pe_int (fun _ _ => rfl)) pa_nil)))))
    pss_nil)
    (pss_cons (ps_if (pt_cmpR op_eq (pv 1) pe_int (nomark _))
    (pss_one (ps_ret (pe_tup (pa_cons pe_str (pa_cons (pe_ix (ix_listK (K := K)) (pv 2) pe_int (fun _ _ => rfl)) (pa_cons (pe_ix (ix_listK (K := K)) (pv 2) pe_int (fun _ _ => rfl)) pa_nil))))))
    pss_nil)
    (pss_cons (ps_if (pt_cmpR op_eq (pv 1) pe_int (nomark _))
    (pss_one (ps_ret (pe_tup (pa_cons pe_str (pa_cons (pe_ix (ix_listK (K := K)) (pv 2) pe_int (fun _ _ => rfl)) (pa_cons (pe_ix (ix_listK (K := K)) (pv 2) pe_int (fun _ _ => rfl)) (pa_cons (pe_ix (ix_listK (K := K)) (pe_lst (pa_cons pe_non (pa_cons (pe_ix (ix_listK (K := K)) (pv 2) pe_int (fun _ _ => rfl)) pa_nil))) (pe_callD G__law_draw (hr.mono (by decide)) rfl (pa_cons (pv 0) (pa_cons pe_int pa_nil))) (fun _ _ => rfl)) pa_nil)))))))
    pss_nil)
    (pss_cons (ps_if (pt_cmpR op_eq (pv 1) pe_int (nomark _))
    (pss_one (ps_ret (pe_tup (pa_cons pe_str (pa_cons (pe_ix (ix_listK (K := K)) (pv 2) pe_int (fun _ _ => rfl)) pa_nil)))))
    pss_nil)
    (pss_cons (ps_if (pt_cmpR op_eq (pv 1) pe_int (nomark _))
    (pss_one (ps_ret (pe_tup (pa_cons pe_str (pa_cons (pe_ix (ix_listK (K := K)) (pv 2) pe_int (fun _ _ => rfl)) (pa_cons (pe_callTy (call_tupleK (K := K)) (by rfl) T.n_tuple (by decide +kernel) (pa_cons (pe_slice (sl_listK (K := K)) (pv 2) (po_some pe_int) (po_some (pe_op op_add pe_int (pe_callD G__law_draw (hr.mono (by decide)) rfl (pa_cons (pv 0) (pa_cons pe_int pa_nil)))))) pa_nil)) pa_nil))))))
    pss_nil)
    (pss_cons (ps_if (pt_cmpR op_eq (pv 1) pe_int (nomark _))
    (pss_one (ps_ret (pe_ix (ix_listK (K := K)) (pe_lst (pa_cons (pe_tup (pa_cons pe_str pa_nil)) (pa_cons (pe_tup (pa_cons pe_str pa_nil)) pa_nil))) (pe_callD G__law_draw (hr.mono (by decide)) rfl (pa_cons (pv 0) (pa_cons pe_int pa_nil))) (fun _ _ => rfl))))
    pss_nil)
    (pss_cons (ps_set (i := 3) sc__law_any_event.nd rfl (.inr rfl) (pe_lst pa_nil))
    (pss_cons (ps_for PassesOwn.never rfl (ilistK (K := K) (pi_list (pe_callB cr_sortedI (by rfl) T.n_sorted (by decide +kernel) (pa_cons (pe_slice (sl_listK (K := K)) (pv 2) (po_some pe_int) po_none) pa_nil)))) (pg_name (i := 4) sc__law_any_event.nd rfl (.inl rfl))
    (pss_one (ps_if (PW.pt (pw_and (pt_cmpR (op_notInK (K := K)) (pv 4) (pv 3) rfl) (pw_and1 (pt_cmpR op_eq (pe_callD G__law_draw (hr.mono (by decide)) rfl (pa_cons (pv 0) (pa_cons pe_int pa_nil))) pe_int (nomark _)))))
    (pss_one (ps_expr (bmK (K := K) (pe_bm PySem.F.plainAttrs_list PySem.F.slot_list_append PySem.F.type_list_append mt_append (pv 3) (pa_cons (pv 4) pa_nil)))))
    pss_nil)))
    (pss_cons (ps_if (pt_cmpR op_eq (pv 1) pe_int (nomark _))
    (pss_one (ps_ret (pe_tup (pa_cons pe_str (pa_cons (pe_callTy (call_tupleK (K := K)) (by rfl) T.n_tuple (by decide +kernel) (pa_cons (pe_lc (own := [("_law_number", 4)]) (g := gName 4) (tt := tYes) rfl sc__law_any_event.nd (ilistK (K := K) (pi_list (pv 3))) (blkOk_by (own := [("_law_number", 4)]) (N := N__law_any_event) (sc := defScope s__law_any_event) (by decide +kernel)) (fun _ _ _ _ _ => pg_name (i := 4) sc__law_any_event.nd rfl (.inl rfl)) (fun _ _ _ _ _ => pts_nil) (fun _ _ _ _ _ => (pe_tup (pa_cons (pe_callD G__law_rank (hr.mono (by decide)) rfl (pa_cons (pv 3) (pa_cons (pv 4) pa_nil))) (pa_cons (pv 4) pa_nil))))) pa_nil)) pa_nil)))))
    pss_nil)
    (pss_cons (ps_set (i := 5) sc__law_any_event.nd rfl (.inl rfl) (pe_callTy (call_tupleK (K := K)) (by rfl) T.n_tuple (by decide +kernel) (pa_cons (pe_lc (own := [("_law_k", 6)]) (g := gName 6) (tt := tYes) rfl sc__law_any_event.nd (pi_range1 rfl T.n_range (pa_cons (pe_callD G__law_draw (hr.mono (by decide)) rfl (pa_cons (pv 0) (pa_cons pe_int pa_nil))) pa_nil)) (blkOk_by (own := [("_law_k", 6)]) (N := N__law_any_event) (sc := defScope s__law_any_event) (by decide +kernel)) (fun _ _ _ _ _ => pg_name (i := 6) sc__law_any_event.nd rfl (.inl rfl)) (fun _ _ _ _ _ => pts_nil) (fun _ _ _ _ _ => (pe_tup (pa_cons (pe_ix (ix_listK (K := K)) (pe_lst (pa_cons pe_str (pa_cons pe_str pa_nil))) (pe_callD G__law_draw (hr.mono (by decide)) rfl (pa_cons (pv 0) (pa_cons pe_int pa_nil))) (fun _ _ => rfl)) (pa_cons (pe_ix (ix_listK (K := K)) (pv 2) (pv 6) (fun _ _ => rfl)) pa_nil))))) pa_nil)))
    (pss_one (ps_ret (pe_tup (pa_cons pe_str (pa_cons (pe_tup (pa_cons (pe_ix (ix_listK (K := K)) (pv 2) pe_int (fun _ _ => rfl)) (pa_cons pe_int (pa_cons (pe_ix (ix_listK (K := K)) (pv 2) pe_int (fun _ _ => rfl)) (pa_cons (pe_ix (ix_listK (K := K)) (pv 2) pe_int (fun _ _ => rfl)) (pa_cons (pe_callTy (call_tupleK (K := K)) (by rfl) T.n_tuple (by decide +kernel) (pa_cons (pv 3) pa_nil)) (pa_cons (pv 5) pa_nil))))))) pa_nil))))))))))))))))), ?_⟩
  refine ⟨_, rfl, (b, 9, _), rfl, hB, by decide, fun kd H1 kd0 kd1 h1 i1 => ?_⟩
  refine ⟨12, rfl, by decide, by decide, fun D nD => ?_⟩
  refine lc_range (lo := 0) (n := 12) (fun j H' => ∃ ns : List Int, Holds (boxC b :: pt D (.lst (ns.map V.int)) :: L) H' ∧ Imm H H' ∧ ns.length = j ∧ ∀ n ∈ ns, Nb n) ⟨[], (h1.mk nD).pick 1, i1.trans (Imm.new nD), rfl, (fun _ h => nomatch h)⟩ ?_ ?_
  · rintro j H2 hj ⟨ns, h2, i2, hl, hns⟩
    refine ⟨rfl, _, rfl, (b, 10, _), rfl, h2, by decide, fun r1 H3 r10 r11 h3 i3 => ?_⟩
    refine ⟨_, rfl, (b, 1000, _), rfl, h3, by decide, fun r2 H4 r20 r21 h4 i4 => ?_⟩
    refine ⟨(by show 4 ≤ sizeLine; decide), fun q nq => ?_⟩
    have h5 : Holds (boxC b :: pt q (.lst [.int 0, .int r1, .int 99999, .int r2]) :: pt D (.lst (ns.map V.int)) :: L) (upd H4 q (.lst [.int 0, .int r1, .int 99999, .int r2])) := (h4.mk nq).pick 1
    have i5 : Imm H4 (upd H4 q (.lst [.int 0, .int r1, .int 99999, .int r2])) := Imm.new nq
    generalize upd H4 q (.lst [.int 0, .int r1, .int 99999, .int r2]) = H5 at h5 i5 ⊢
    refine ⟨_, rfl, (b, 4, _), rfl, h5, by decide, fun r H6 r0 r1' h6 i6 => ?_⟩
    have hq : H6 q = some (.lst [.int 0, .int r1, .int 99999, .int r2]) := h6.rd (i := 1) rfl
    obtain ⟨v, hv, hat⟩ := atI_inV (vs := [V.int 0, .int r1, .int 99999, .int r2]) r0 r1'
    obtain ⟨n, rfl, hn⟩ : ∃ n, v = .int n ∧ Nb n := by
      simp only [List.mem_cons, List.not_mem_nil, or_false] at hv
      rcases hv with rfl | rfl | rfl | rfl
      · exact ⟨_, rfl, by decide, by decide⟩
      · exact ⟨_, rfl, r10, by omega⟩
      · exact ⟨_, rfl, by decide, by decide⟩
      · exact ⟨_, rfl, r20, by omega⟩
    refine ⟨q, _, _, _, rfl, rfl, SqL.of hq, hat, ?_⟩
    have h7 : Holds (boxC b :: pt D (.lst (ns.map V.int)) :: L) H6 := ((h6.pick 1).tail)
    have eD : H6 D = some (.lst (ns.map V.int)) := h7.rd (i := 1) rfl
    refine ⟨_, eD, by rw [List.length_map]; exact small1000 (by omega), ns ++ [n], ?_, ((((i2.trans i3).trans i4).trans i5).trans i6).trans (Imm.wr eD rfl), by rw [List.length_append, List.length_singleton, hl], fun m hm => ?_⟩
    · rw [show (ns ++ [n]).map V.int = ns.map V.int ++ [V.int n] by rw [List.map_append]; rfl]
      exact h7.modP 1 rfl (o' := .lst (ns.map V.int ++ [V.int n]))
    · rcases List.mem_append.mp hm with y | y
      · exact hns m y
      · rw [List.mem_singleton.mp y]; exact hn
  rintro H2 ⟨ns, h2, i2, hl, hns⟩
  have num : ∀ {H' : Hp} (_ : Holds (boxC b :: pt D (.lst (ns.map V.int)) :: L) H') (j : Nat), j < 12 → ∃ n, atI (ns.map V.int) (j : Int) = some (.int n) ∧ Nb n ∧ SqL K H' D (ns.map V.int) := fun {H'} h' j hj => by
    have hj' : j < ns.length := by omega
    exact ⟨ns[j], atI_nat (by rw [List.getElem?_map, List.getElem?_eq_getElem hj']; rfl), hns _ (List.getElem_mem hj'), SqL.of (h'.rd (i := 1) rfl)⟩
  have dr : ∀ {H' : Hp}, Holds (boxC b :: pt D (.lst (ns.map V.int)) :: L) H' → Holds (boxC b :: L) H' := fun h' => (h'.pick 1).tail
  obtain ⟨n0, a0, b0, sD⟩ := num h2 0 (by decide)
  obtain ⟨n1, a1, b1, _⟩ := num h2 1 (by decide)
  obtain ⟨n2, a2, b2, _⟩ := num h2 2 (by decide)
  refine ⟨_, rfl, rfl, _, rfl, ite2 (fun _ => ?_) (fun _ => ?_)⟩
  · refine ⟨_, rfl, D, _, 0, _, rfl, rfl, sD, a0, (by show 2 ≤ sizeLine; decide), fun t nt => ?_⟩
    exact k t (.make n0) _ ((dr h2).newI nt) (i2.trans (Imm.new nt)) (.tup (SqT.of upd_same) (.cons (.str _) (.cons (.int _) .nil))) b0 trivial
  refine ⟨_, rfl, rfl, _, rfl, ite2 (fun _ => ?_) (fun _ => ?_)⟩
  · refine ⟨_, rfl, D, _, 0, _, rfl, rfl, sD, a0, _, rfl, D, _, 1, _, rfl, rfl, sD, a1, (by show 3 ≤ sizeLine; decide), fun t nt => ?_⟩
    exact k t (.read n0 n1) _ ((dr h2).newI nt) (i2.trans (Imm.new nt)) (.tup (SqT.of upd_same) (.cons (.str _) (.cons (.int _) (.cons (.int _) .nil)))) ⟨b0, b1⟩ trivial
  refine ⟨_, rfl, rfl, _, rfl, ite2 (fun _ => ?_) (fun _ => ?_)⟩
  · refine ⟨_, rfl, D, _, 0, _, rfl, rfl, sD, a0, _, rfl, D, _, 1, _, rfl, rfl, sD, a1, _, rfl, D, _, 2, _, rfl, rfl, sD, a2, (by show 2 ≤ sizeLine; decide), fun q nq => ?_⟩
    have h3 : Holds (boxC b :: pt q (.lst [.non, .int n2]) :: pt D (.lst (ns.map V.int)) :: L) (upd H2 q (.lst [.non, .int n2])) := (h2.mk nq).pick 1
    have i3 : Imm H2 (upd H2 q (.lst [.non, .int n2])) := Imm.new nq
    generalize upd H2 q (.lst [.non, .int n2]) = H3 at h3 i3 ⊢
    refine ⟨_, rfl, (b, 2, _), rfl, h3, by decide, fun r H4 r0 r1 h4 i4 => ?_⟩
    obtain ⟨v, hv, hat⟩ := atI_inV (vs := [V.non, .int n2]) r0 r1
    obtain ⟨o, rfl, ho⟩ : ∃ o, v = optV o ∧ ∀ i, o = some i → Nb i := by
      simp only [List.mem_cons, List.not_mem_nil, or_false] at hv
      rcases hv with rfl | rfl
      · exact ⟨none, rfl, fun i hi => nomatch hi⟩
      · exact ⟨some n2, rfl, fun i hi => by cases hi; exact b2⟩
    refine ⟨q, _, _, _, rfl, rfl, SqL.of (h4.rd (i := 1) rfl), hat, (by show 4 ≤ sizeLine; decide), fun t nt => ?_⟩
    exact k t (.write n0 n1 o) _ ((dr ((h4.pick 1).tail)).newI nt) (((i2.trans i3).trans i4).trans (Imm.new nt)) (.tup (SqT.of upd_same) (.cons (.str _) (.cons (.int _) (.cons (.int _) (.cons (fz_opt o) .nil))))) ⟨b0, b1, ho⟩ trivial
  refine ⟨_, rfl, rfl, _, rfl, ite2 (fun _ => ?_) (fun _ => ?_)⟩
  · refine ⟨_, rfl, D, _, 0, _, rfl, rfl, sD, a0, (by show 2 ≤ sizeLine; decide), fun t nt => ?_⟩
    exact k t (.drop n0) _ ((dr h2).newI nt) (i2.trans (Imm.new nt)) (.tup (SqT.of upd_same) (.cons (.str _) (.cons (.int _) .nil))) b0 trivial
  refine ⟨_, rfl, rfl, _, rfl, ite2 (fun _ => ?_) (fun _ => ?_)⟩
  · refine ⟨_, rfl, D, _, 0, _, rfl, rfl, sD, a0, _, rfl, 1, rfl, _, rfl, (b, 5, _), rfl, h2, by decide, fun r H3 r0 r1 h3 i3 => ?_⟩
    obtain ⟨m, rfl⟩ : ∃ m : Nat, r = (m : Int) := ⟨r.toNat, by omega⟩
    refine ⟨_, _, rfl, rfl, _, rfl, D, _, rfl, SqL.of (h3.rd (i := 1) rfl), fun q nq => ?_⟩
    rw [show cutV (ns.map V.int) (some 1) (some (1 + (m : Int))) = ((ns.drop 1).take m).map V.int from (cutV_of (a := 1) (b := 1 + m) rfl (by omega) (by omega) (by rw [List.length_map]; omega)).trans (by rw [← List.map_drop, ← List.map_take, Nat.add_sub_cancel_left])]
    refine ⟨q, _, rfl, .inl ⟨SqL.of upd_same, fun t nt => ⟨(by show 3 ≤ sizeLine; decide), fun t2 nt2 => ?_⟩⟩⟩
    refine k t2 (.send n0 ((ns.drop 1).take m)) _ ((((dr h3).newI nq).newI nt).newI nt2) ((((i2.trans i3).trans (Imm.new nq)).trans (Imm.new nt)).trans (Imm.new nt2)) (.tup (SqT.of upd_same) (.cons (.str _) (.cons (.int _) (.cons (.tup (SqT.of (nw nt2 upd_same)) (fz_ints _)) .nil)))) ⟨b0, fun x hx => hns x (List.mem_of_mem_drop (List.mem_of_mem_take hx)), ?_⟩ trivial
    rw [List.length_take]
    omega
  refine ⟨_, rfl, rfl, _, rfl, ite2 (fun _ => ?_) (fun _ => ?_)⟩
  · refine ⟨(by show 1 ≤ sizeLine; decide), fun t1 nt1 => ⟨(by show 1 ≤ sizeLine; decide), fun t2 nt2 => ⟨(by show 2 ≤ sizeLine; decide), fun q nq => ?_⟩⟩⟩
    have h3 : Holds (boxC b :: pt q (.lst [.ref t1, .ref t2]) :: L) (upd (upd (upd H2 t1 (.tup [.str "collect"])) t2 (.tup [.str "report"])) q (.lst [.ref t1, .ref t2])) := ((((dr h2).newI nt1).newI nt2).mk nq).pick 1
    have i3 : Imm H2 (upd (upd (upd H2 t1 (.tup [.str "collect"])) t2 (.tup [.str "report"])) q (.lst [.ref t1, .ref t2])) := ((Imm.new nt1).trans (Imm.new nt2)).trans (Imm.new nq)
    have e1 : upd (upd (upd H2 t1 (.tup [.str "collect"])) t2 (.tup [.str "report"])) q (.lst [.ref t1, .ref t2]) t1 = some (.tup [.str "collect"]) := nw nq (nw nt2 upd_same)
    have e2 : upd (upd (upd H2 t1 (.tup [.str "collect"])) t2 (.tup [.str "report"])) q (.lst [.ref t1, .ref t2]) t2 = some (.tup [.str "report"]) := nw nq upd_same
    generalize upd (upd (upd H2 t1 (.tup [.str "collect"])) t2 (.tup [.str "report"])) q (.lst [.ref t1, .ref t2]) = H3 at h3 i3 e1 e2 ⊢
    refine ⟨_, rfl, (b, 2, _), rfl, h3, by decide, fun r H4 r0 r1 h4 i4 => ?_⟩
    obtain ⟨v, hv, hat⟩ := atI_inV (vs := [V.ref t1, .ref t2]) r0 r1
    refine ⟨q, _, _, _, rfl, rfl, SqL.of (h4.rd (i := 1) rfl), hat, ?_⟩
    simp only [List.mem_cons, List.not_mem_nil, or_false] at hv
    rcases hv with rfl | rfl
    · exact k t1 .collect _ ((h4.pick 1).tail) ((i2.trans i3).trans i4) (.tup (SqT.of (i4 _ _ e1 rfl)) (.cons (.str _) .nil)) trivial trivial
    · exact k t2 .report _ ((h4.pick 1).tail) ((i2.trans i3).trans i4) (.tup (SqT.of (i4 _ _ e2 rfl)) (.cons (.str _) .nil)) trivial trivial
  refine ⟨Nat.zero_le _, fun E nE => ?_⟩
  have h3 : Holds (boxC b :: pt E (.lst (([] : List Int).map V.int)) :: pt D (.lst (ns.map V.int)) :: L) (upd H2 E (.lst [])) := (h2.mk nE).pick 1
  have i3 : Imm H2 (upd H2 E (.lst [])) := Imm.new nE
  show gName 3 (.ref E) _ (upd H2 E (.lst [])) _
  generalize upd H2 E (.lst []) = H3 at h3 i3 ⊢
  refine ⟨_, rfl, 3, rfl, D, _, rfl, SqL.of (h3.rd (i := 2) rfl), fun q nq => ?_⟩
  rw [show cutV (ns.map V.int) (some 3) none = (ns.drop 3).map V.int from (cutV_from (a := 3) rfl).trans (List.map_drop).symm]
  refine ⟨q, ns.drop 3, rfl, SqL.of upd_same, fun ns' p perm pw np => ?_⟩
  have h4 : Holds (boxC b :: pt E (.lst (([] : List Int).map V.int)) :: pt p (.lst (ns'.map V.int)) :: pt D (.lst (ns.map V.int)) :: L) (upd (upd H3 q (.lst ((ns.drop 3).map V.int))) p (.lst (ns'.map V.int))) := ((h3.newI nq).mk np (o := .lst (ns'.map V.int))).back 2
  have i4 : Imm H3 (upd (upd H3 q (.lst ((ns.drop 3).map V.int))) p (.lst (ns'.map V.int))) := (Imm.new nq).trans (Imm.new np)
  generalize upd (upd H3 q (.lst ((ns.drop 3).map V.int))) p (.lst (ns'.map V.int)) = H4 at h4 i4 ⊢
  have hnb' : ∀ n ∈ ns', Nb n := perm_nb perm fun n hn => hns n (List.mem_of_mem_drop hn)
  have hl' : ns'.length = 9 := by rw [perm.length_eq, List.length_drop]; omega
  refine ⟨p, rfl, ⟨_, SqL.of (h4.rd (i := 2) rfl)⟩, for_list (xs := ns'.map V.int) (fun i σ H' => ∃ (held : List Int) (v4 : Option V), σ = [some (.ref b), some (.int kd), some (.ref D), some (.ref E), v4, none, none] ∧
    Holds (boxC b :: pt E (.lst (held.map V.int)) :: pt p (.lst (ns'.map V.int)) :: pt D (.lst (ns.map V.int)) :: L) H' ∧ Imm H4 H' ∧ held.Pairwise (· < ·) ∧ (∀ n ∈ held, n ∈ ns'.take i) ∧ held.length ≤ i) ⟨[], none, rfl, h4, Imm.refl _, .nil, (fun _ h => nomatch h), Nat.le_refl _⟩ (fun i σ H' _ ⟨_, _, _, h, _⟩ => SqL.of (h.rd (i := 2) rfl)) ?_ ?_⟩
  · rintro i x σ H5 hx ⟨held, v4, rfl, h5, i5, hpw, hmem, hhl⟩
    rw [List.getElem?_map] at hx
    obtain ⟨n, hn, rfl⟩ := Option.map_eq_some_iff.mp hx
    have hi : i < ns'.length := (List.getElem?_eq_some_iff.mp hn).1
    have eE : H5 E = some (.lst (held.map V.int)) := h5.rd (i := 1) rfl
    have keep : ∀ {H'}, Holds (boxC b :: pt E (.lst (held.map V.int)) :: pt p (.lst (ns'.map V.int)) :: pt D (.lst (ns.map V.int)) :: L) H' → Imm H5 H' → ∃ (held' : List Int) (v4' : Option V), ([some (.ref b), some (.int kd), some (.ref D), some (.ref E), some (.int n), none, none] : L2.St) = [some (.ref b), some (.int kd), some (.ref D), some (.ref E), v4', none, none] ∧
      Holds (boxC b :: pt E (.lst (held'.map V.int)) :: pt p (.lst (ns'.map V.int)) :: pt D (.lst (ns.map V.int)) :: L) H' ∧ Imm H4 H' ∧ held'.Pairwise (· < ·) ∧ (∀ n ∈ held', n ∈ ns'.take (i + 1)) ∧ held'.length ≤ i + 1 := fun h' i' =>
        ⟨held, _, rfl, h', i5.trans i', hpw, fun m hm => by rw [take_sn hn]; exact List.mem_append_left _ (hmem m hm), by omega⟩
    have flat : (held.map V.int).all flatV = true := by
      rw [List.all_eq_true]
      intro x hx
      obtain ⟨m, _, rfl⟩ := List.mem_map.mp hx
      rfl
    refine ⟨_, rfl, _, rfl, E, _, rfl, .inl (SqL.of eE), rfl, flat, _, rfl, ite2 (fun hnot => ?_) (fun _ => keep h5 (Imm.refl _))⟩
    refine ⟨_, rfl, (b, 2, _), rfl, h5, by decide, fun r H6 r0 r1 h6 i6 => ⟨rfl, _, rfl, ite2 (fun _ => ?_) (fun _ => keep h6 i6)⟩⟩
    have eE6 : H6 E = some (.lst (held.map V.int)) := h6.rd (i := 1) rfl
    have hni : n ∉ held := fun hm => by
      rw [if_pos rfl] at hnot
      have : inV (.int n) (held.map V.int) = true := by
        unfold inV
        rw [List.any_eq_true]
        exact ⟨.int n, List.mem_map_of_mem hm, by rw [eqV_int]; exact decide_eq_true rfl⟩
      rw [this] at hnot
      cases hnot
    refine ⟨_, rfl, .inl ⟨rfl, _, SqL.of eE6⟩, _, rfl, E, _, _, rfl, rfl, eE6, by rw [List.length_map]; exact small1000 (by omega), ?_⟩
    refine ⟨held ++ [n], _, rfl, ?_, (i5.trans i6).trans (Imm.wr eE6 rfl), ?_, fun m hm => ?_, by rw [List.length_append, List.length_singleton]; omega⟩
    · rw [show (held ++ [n]).map V.int = held.map V.int ++ [V.int n] by rw [List.map_append]; rfl]
      exact h6.modP 1 rfl (o' := .lst (held.map V.int ++ [V.int n]))
    · refine List.pairwise_append.mpr ⟨hpw, List.pairwise_singleton _ _, fun x hx y hy => ?_⟩
      rw [List.mem_singleton.mp hy]
      have hxm := hmem x hx
      obtain ⟨j, hj, ej⟩ := List.getElem_of_mem hxm
      rw [List.length_take] at hj
      rw [List.getElem_take] at ej
      have := List.pairwise_iff_getElem.mp pw j i (by omega) hi (by omega)
      rw [ej, (List.getElem?_eq_some_iff.mp hn).2] at this
      have hne : x ≠ n := fun e => hni (e ▸ hx)
      omega
    · rw [take_sn hn]
      rcases List.mem_append.mp hm with y | y
      · exact List.mem_append_left _ (hmem m y)
      · exact List.mem_append_right _ y
  rintro σ H5 ⟨held, v4, rfl, h5, i5, hpw, hmem, hhl⟩
  rw [List.length_map] at hmem hhl
  have hnbh : ∀ n ∈ held, Nb n := fun n hn => hnb' n (List.mem_of_mem_take (hmem n hn))
  have iA := ((i2.trans i3).trans i4).trans i5
  have h5 : Holds (boxC b :: pt E (.lst (held.map V.int)) :: pt D (.lst (ns.map V.int)) :: L) H5 := (((h5.pick 2).tail))
  have eE : H5 E = some (.lst (held.map V.int)) := h5.rd (i := 1) rfl
  refine ⟨_, rfl, rfl, _, rfl, ite2 (fun _ => ?_) (fun _ => ?_)⟩
  · refine ⟨_, rfl, E, rfl, ⟨_, SqL.of eE⟩, fun F nF => ?_⟩
    refine lc_list (xs := held.map V.int) (fun i H' => ∃ vs, Holds (pt F (.lst vs) :: boxC b :: pt E (.lst (held.map V.int)) :: pt D (.lst (ns.map V.int)) :: L) H' ∧ Imm H5 H' ∧ FzAll K H' vs (((held.take i).map fun n => (((held.idxOf n / 2 : Nat) : Int), n)).map pairD)) ⟨[], h5.mk nF, Imm.new nF, .nil⟩ (fun i H' _ ⟨_, h, _⟩ => SqL.of (h.rd (i := 2) rfl)) ?_ ?_
    · rintro i x H' hx ⟨vs, h', i', f'⟩
      rw [List.getElem?_map] at hx
      obtain ⟨n, hn, rfl⟩ := Option.map_eq_some_iff.mp hx
      refine ⟨rfl, _, rfl, _, rfl, (E, held, n), rfl, SqL.of (h'.rd (i := 2) rfl), List.mem_of_getElem? hn, _, rfl, (by show 2 ≤ sizeLine; decide), fun t nt => ?_⟩
      have h6 : Holds (pt F (.lst vs) :: boxC b :: pt E (.lst (held.map V.int)) :: pt D (.lst (ns.map V.int)) :: L) (upd H' t (.tup [.int ((held.idxOf n / 2 : Nat) : Int), .int n])) := h'.newI nt
      have et : upd H' t (.tup [.int ((held.idxOf n / 2 : Nat) : Int), .int n]) t = some (.tup [.int ((held.idxOf n / 2 : Nat) : Int), .int n]) := upd_same
      have i6 : Imm H' (upd H' t (.tup [.int ((held.idxOf n / 2 : Nat) : Int), .int n])) := Imm.new nt
      generalize upd H' t (.tup [.int ((held.idxOf n / 2 : Nat) : Int), .int n]) = H6 at h6 et i6 ⊢
      have eF : H6 F = some (.lst vs) := h6.rd (i := 0) rfl
      have hvl : vs.length ≤ 1000 := by rw [f'.length, List.length_map, List.length_map, List.length_take]; omega
      refine ⟨_, eF, small1000 hvl, vs ++ [V.ref t], h6.modP 0 rfl (o' := .lst (vs ++ [V.ref t])), (i'.trans i6).trans (Imm.wr eF rfl), ?_⟩
      rw [take_sn hn, List.map_append, List.map_append]
      exact ((f'.imm i6).imm (Imm.wr eF rfl)).app (.cons (.tup (SqT.of (Imm.wr eF rfl _ _ et rfl)) (.cons (.int _) (.cons (.int _) .nil))) .nil)
    rintro H6 ⟨vs, h6, i6, f6⟩
    rw [List.length_map, List.take_length] at f6
    have hvl : vs.length = held.length := by rw [f6.length, List.length_map, List.length_map]
    refine ⟨F, _, rfl, .inl ⟨SqL.of (h6.rd (i := 0) rfl), fun t nt => ⟨(by show 2 ≤ sizeLine; decide), fun t2 nt2 => ?_⟩⟩⟩
    have iN : Imm H6 (upd (upd H6 t (.tup vs)) t2 (.tup [.str "remove", .ref t])) := (Imm.new nt).trans (Imm.new nt2)
    refine k t2 (.remove (held.map fun n => (((held.idxOf n / 2 : Nat) : Int), n))) _ ((((dr ((h6.tail.pick 1).tail)).newI nt).newI nt2)) ((iA.trans i6).trans iN) (.tup (SqT.of upd_same) (.cons (.str _) (.cons (.tup (SqT.of (nw nt2 upd_same)) (f6.imm iN)) .nil))) ⟨?_, ranks_rise hpw⟩ (by show (held.map _).length ≤ 9; rw [List.length_map]; omega)
    intro e he
    obtain ⟨n, hn, rfl⟩ := List.mem_map.mp he
    have := List.idxOf_lt_length_of_mem hn
    exact ⟨⟨by show (0 : Int) ≤ ((held.idxOf n / 2 : Nat) : Int); omega, by show ((held.idxOf n / 2 : Nat) : Int) < 100000; omega⟩, hnbh n hn⟩
  refine ⟨_, rfl, (b, 5, _), rfl, h5, by decide, fun r H6 r0 r1 h6 i6 => ?_⟩
  refine ⟨r, rfl, by omega, by omega, fun F nF => ?_⟩
  have iB := iA.trans i6
  refine lc_range (lo := 0) (n := r.toNat) (fun j H' => ∃ (vs : List V) (cs : List (Bool × Int)), Holds (pt F (.lst vs) :: boxC b :: pt E (.lst (held.map V.int)) :: pt D (.lst (ns.map V.int)) :: L) H' ∧ Imm H6 H' ∧ FzAll K H' vs (cs.map carD) ∧ cs.length = j ∧ ∀ c ∈ cs, Nb c.2) ⟨[], [], h6.mk nF, Imm.new nF, .nil, rfl, (fun _ h => nomatch h)⟩ ?_ ?_
  · rintro j H' hj ⟨vs, cs, h', i', f', hcl, hcb⟩
    refine ⟨rfl, (by show 2 ≤ sizeLine; decide), fun q nq => ?_⟩
    have h5 : Holds (boxC b :: pt q (.lst [.str "export", .str "return"]) :: pt F (.lst vs) :: pt E (.lst (held.map V.int)) :: pt D (.lst (ns.map V.int)) :: L) (upd H' q (.lst [.str "export", .str "return"])) := (h'.mk nq).pick 2
    have i5 : Imm H' (upd H' q (.lst [.str "export", .str "return"])) := Imm.new nq
    generalize upd H' q (.lst [.str "export", .str "return"]) = H8 at h5 i5 ⊢
    refine ⟨_, rfl, (b, 2, _), rfl, h5, by decide, fun x H9 x0 x1 h9 i9 => ?_⟩
    obtain ⟨v, hv, hat⟩ := atI_inV (vs := [V.str "export", .str "return"]) x0 x1
    obtain ⟨kb, rfl⟩ : ∃ kb, v = .str (kindS kb) := by
      simp only [List.mem_cons, List.not_mem_nil, or_false] at hv
      rcases hv with rfl | rfl
      · exact ⟨true, rfl⟩
      · exact ⟨false, rfl⟩
    have h10 : Holds (pt F (.lst vs) :: boxC b :: pt E (.lst (held.map V.int)) :: pt D (.lst (ns.map V.int)) :: L) H9 := ((h9.pick 1).tail).pick 1
    have hj12 : j < 12 := by omega
    have hjl : j < ns.length := by omega
    refine ⟨q, _, _, _, rfl, rfl, SqL.of (h9.rd (i := 1) rfl), hat, _, rfl, _, rfl, D, _, _, .int ns[j], rfl, rfl, SqL.of (h10.rd (i := 3) rfl), by rw [Int.zero_add]; exact atI_nat (j := j) (by rw [List.getElem?_map, List.getElem?_eq_getElem hjl]; rfl), (by show 2 ≤ sizeLine; decide), fun t nt => ?_⟩
    have h11 := h10.newI (p := t) (o := .tup [.str (kindS kb), .int ns[j]]) nt
    have et : upd H9 t (.tup [.str (kindS kb), .int ns[j]]) t = some (.tup [.str (kindS kb), .int ns[j]]) := upd_same
    have i11 : Imm H9 (upd H9 t (.tup [.str (kindS kb), .int ns[j]])) := Imm.new nt
    generalize upd H9 t (.tup [.str (kindS kb), .int ns[j]]) = H11 at h11 et i11 ⊢
    have eF : H11 F = some (.lst vs) := h11.rd (i := 0) rfl
    have hvl : vs.length ≤ 1000 := by rw [f'.length, List.length_map]; omega
    have iz := (i5.trans i9).trans i11
    refine ⟨_, eF, small1000 hvl, vs ++ [V.ref t], cs ++ [(kb, ns[j])], h11.modP 0 rfl (o' := .lst (vs ++ [V.ref t])), ((i'.trans iz).trans (Imm.wr eF rfl)), ?_, by rw [List.length_append, hcl]; rfl, fun c hc => ?_⟩
    · rw [List.map_append]
      exact ((f'.imm iz).imm (Imm.wr eF rfl)).app (.cons (.tup (SqT.of (Imm.wr eF rfl _ _ et rfl)) (.cons (.str _) (.cons (.int _) .nil))) .nil)
    · rcases List.mem_append.mp hc with y | y
      · exact hcb c y
      · rw [List.mem_singleton.mp y]
        exact hns _ (List.getElem_mem hjl)
  rintro H7 ⟨vs, cs, h7, i7, f7, hcl, hcb⟩
  have iC := iB.trans i7
  refine ⟨F, _, rfl, .inl ⟨SqL.of (h7.rd (i := 0) rfl), fun tc ntc => ?_⟩⟩
  have h8 : Holds (boxC b :: pt E (.lst (held.map V.int)) :: pt D (.lst (ns.map V.int)) :: L) (upd H7 tc (.tup vs)) := h7.tail.newI ntc
  have etc : upd H7 tc (.tup vs) tc = some (.tup vs) := upd_same
  have f8 : FzAll K (upd H7 tc (.tup vs)) vs (cs.map carD) := f7.imm (Imm.new ntc)
  have iD : Imm H (upd H7 tc (.tup vs)) := iC.trans (Imm.new ntc)
  show gName 5 (.ref tc) _ (upd H7 tc (.tup vs)) _
  generalize upd H7 tc (.tup vs) = H8 at h8 etc f8 iD ⊢
  have sD8 : SqL K H8 D (ns.map V.int) := SqL.of (h8.rd (i := 2) rfl)
  refine ⟨_, rfl, D, _, 0, _, rfl, rfl, sD8, a0, _, rfl, D, _, 1, _, rfl, rfl, sD8, a1, _, rfl, D, _, 2, _, rfl, rfl, sD8, a2, ?_⟩
  refine ⟨_, rfl, E, _, rfl, .inl ⟨SqL.of (h8.rd (i := 1) rfl), fun th nth => ?_⟩⟩
  refine ⟨_, rfl, (by show 6 ≤ sizeLine; decide), fun m nm => ⟨(by show 2 ≤ sizeLine; decide), fun t nt => ?_⟩⟩
  have iN : Imm H8 (upd (upd (upd H8 th (.tup (held.map V.int))) m (.tup [.int n0, .int 2, .int n1, .int n2, .ref th, .ref tc])) t (.tup [.str "receive", .ref m])) := ((Imm.new nth).trans (Imm.new nm)).trans (Imm.new nt)
  refine k t (.receive ⟨n0, 2, n1, n2, held, cs⟩) _ ((((dr ((h8.pick 1).tail)).newI nth).newI nm).newI nt) (iD.trans iN) ?_ ⟨rfl, b0, b1, b2, hnbh, risesI_pw hpw, hcb, by rw [hcl]; omega⟩ (by show held.length ≤ 9; omega)
  refine .tup (SqT.of upd_same) (.cons (.str _) (.cons (.tup (SqT.of (nw nt upd_same)) (.cons (.int _) (.cons (.int _) (.cons (.int _) (.cons (.int _) (.cons ?_ (.cons ?_ .nil))))))) .nil))
  · exact .tup (SqT.of (nw nt (nw nm upd_same))) (fz_ints held)
  · exact .tup (SqT.of (iN _ _ etc rfl)) (f8.imm iN)

end
section
open PySem PySem.Spec PyProof.Rows L2
variable {P : Program} {w : World} {K : PySem.W.Frag} {mg : Str → Option Value} {base : Heap}
/-! ### a text spoilt -/
theorem cutS_to {z : Str} {a : Int} (h0 : 0 ≤ a) : (cutS z none (some a)).length ≤ a.toNat := by
  obtain ⟨n, rfl⟩ : ∃ n : Nat, a = (n : Int) := ⟨a.toNat, by omega⟩
  unfold cutS
  rw [show HT.sIx z.length z.length (some (n : Int)) = min n z.length from HT.sIx_nat _ _ _, show HT.sIx z.length 0 none = 0 from HT.sIx_none _ _]
  show (List.toArray _).size ≤ _
  rw [List.size_toArray, List.length_take]
  omega
theorem cutS_from {z : Str} {a : Int} (h0 : 0 ≤ a) : (cutS z (some a) none).length ≤ z.length - a.toNat := by
  obtain ⟨n, rfl⟩ : ∃ n : Nat, a = (n : Int) := ⟨a.toNat, by omega⟩
  unfold cutS
  rw [show HT.sIx z.length z.length none = z.length from HT.sIx_none _ _, show HT.sIx z.length 0 (some (n : Int)) = min n z.length from HT.sIx_nat _ _ _]
  show (List.toArray _).size ≤ _
  rw [List.size_toArray, List.length_take, List.length_drop]
  omega
theorem len_app (a b : Str) : (a ++ b).length = a.length + b.length := by rw [TL.len_tl, TL.tl_append, List.length_append, ← TL.len_tl, ← TL.len_tl]
def menuS : List Str := ["", "make", "make 1 2", "make 100000", "make 01", "read 1", "write 1 2", "write 1 2 nil", "drop", "send", "send 1 2 3 4 5 6", "collect 1", "report ", "remove 1", "remove 1 2 1 2", "remove 1 2 0 3", "receive 1 2 3", "receive 1 2 carried", "receive 1 2 3 5 4 carried", "receive 1 2 3 carried export", "receive 1 2 3 carried keep 1", "receive 1 2 3 carried export 1 export 1 export 1 export 1 export 1"]
theorem menu_short : ∀ z ∈ menuS, z.length ≤ 999 := by decide +kernel
def sp__law_spoilt (K : PySem.W.Frag) : Sp := SpOf (fun ((b, z, _) : Addr × Str × List Asr) => [.ref b, .str z]) fun (b, z, L) H Q => Holds (boxC b :: L) H ∧ 1 ≤ z.length ∧ z.length ≤ 900 ∧ ∀ (z' : Str) (H' : Hp), z'.length ≤ 999 → Holds (boxC b :: L) H' → Imm H H' → Q (.str z') H'
set_option maxHeartbeats 4000000 in
theorem ok__law_spoilt (T : Txt K mg) : DefOk P w K mg base "_law_spoilt" 2 ["_law_box", "_law_text"] (sp__law_spoilt K) := by
  have G__law_draw := ok__law_draw (P := P) (w := w) (base := base) T
  refine DefOk.mk' T.d__law_spoilt sc__law_spoilt (fun _ _ _ _ _ _ us hl => match us, hl with | [_, _], _ => rfl) (fun _ => rfl) (fun cdv f A outer s H p Q E hr h => ?_)
  obtain ⟨b, z, L⟩ := p
  obtain ⟨hB, hz1, hz2, k⟩ := h
  refine ⟨_, (pss_cons (ps_set (i := 2) sc__law_spoilt.nd rfl (.inl rfl) (pe_callD G__law_draw (hr.mono (by decide)) rfl (pa_cons (pv 0) (pa_cons (pe_callB call_len_str (by rfl) T.n_len (by decide +kernel) (pa_cons (pv 1) pa_nil)) pa_nil))))
    (pss_cons (ps_set (i := 3) sc__law_spoilt.nd rfl (.inl rfl) (pe_ix ix_str pe_str (pe_callD G__law_draw (hr.mono (by decide)) rfl (pa_cons (pv 0) (pa_cons pe_int pa_nil))) (fun _ _ => rfl)))
    (pss_cons (ps_set (i := 4) sc__law_spoilt.nd rfl (.inl rfl) (pe_callD G__law_draw (hr.mono (by decide)) rfl (pa_cons (pv 0) (pa_cons pe_int pa_nil))))
    (pss_cons (ps_if (pt_cmpR op_eq (pv 4) pe_int (nomark _))
    (pss_one (ps_ret (pe_op op_add_str (pe_slice sl_str (pv 1) po_none (po_some (pv 2))) (pe_slice sl_str (pv 1) (po_some (pe_op op_add (pv 2) pe_int)) po_none))))
    pss_nil)
    (pss_cons (ps_if (pt_cmpR op_eq (pv 4) pe_int (nomark _))
    (pss_one (ps_ret (pe_op op_add_str (pe_op op_add_str (pe_slice sl_str (pv 1) po_none (po_some (pv 2))) (pv 3)) (pe_slice sl_str (pv 1) (po_some (pv 2)) po_none))))
    pss_nil)
    (pss_cons (ps_if (pt_cmpR op_eq (pv 4) pe_int (nomark _))
    (pss_one (ps_ret (pe_op op_add_str (pe_op op_add_str (pe_slice sl_str (pv 1) po_none (po_some (pv 2))) (pv 3)) (pe_slice sl_str (pv 1) (po_some (pe_op op_add (pv 2) pe_int)) po_none))))
    pss_nil)
    (pss_cons (ps_set (i := 5) sc__law_spoilt.nd rfl (.inl rfl) (pe_lst (pa_cons pe_str (pa_cons pe_str (pa_cons pe_str (pa_cons pe_str (pa_cons pe_str (pa_cons pe_str (pa_cons pe_str (pa_cons pe_str (pa_cons pe_str (pa_cons pe_str (pa_cons pe_str (pa_cons pe_str pa_nil))))))))))))))
    (pss_cons (ps_set (i := 5) sc__law_spoilt.nd rfl (.inl rfl) (pe_op op_cat (pv 5) (pe_lst (pa_cons pe_str (pa_cons pe_str (pa_cons pe_str (pa_cons pe_str (pa_cons pe_str (pa_cons pe_str (pa_cons pe_str pa_nil))))))))))
    (pss_cons (ps_set (i := 5) sc__law_spoilt.nd rfl (.inl rfl) (pe_op op_cat (pv 5) (pe_lst (pa_cons pe_str (pa_cons pe_str (pa_cons pe_str pa_nil))))))
    (pss_one (ps_ret (pe_ix (ix_listK (K := K)) (pv 5) (pe_callD G__law_draw (hr.mono (by decide)) rfl (pa_cons (pv 0) (pa_cons pe_int pa_nil))) (fun _ _ => rfl))))))))))))), ?_⟩
  have sz : ∀ n : Nat, n ≤ 1000 → n ≤ sizeLine := fun n h => Nat.le_of_lt (small1000 (by omega))
  have hsz := sz z.length (by omega)
  refine ⟨_, rfl, _, rfl, z, rfl, hsz, (b, (z.length : Int), _), rfl, hB, by omega, fun r H1 r0 r1 h1 i1 => ?_⟩
  refine ⟨_, rfl, (b, 6, _), rfl, h1, by decide, fun s H2 s0 s1 h2 i2 => ?_⟩
  obtain ⟨c, _, hat⟩ := atI_inV (vs := (" 0a9-," : Str).cps.toList) s0 (by rw [show (" 0a9-," : Str).cps.toList.length = 6 by decide +kernel]; exact s1)
  refine ⟨_, s, c, rfl, rfl, by decide +kernel, hat, ?_⟩
  refine ⟨_, rfl, (b, 4, _), rfl, h2, by decide, fun kd H3 _ _ h3 i3 => ?_⟩
  have iA := (i1.trans i2).trans i3
  have c1 := cutS_to (z := z) r0
  have c2 := cutS_from (z := z) r0
  have c3 := cutS_from (z := z) (a := r + 1) (by omega)
  have hr : r.toNat < z.length := by omega
  have one : (⟨#[c]⟩ : Str).length = 1 := rfl
  have l1 := len_app (cutS z none (some r)) (cutS z (some (r + 1)) none)
  have l2 := len_app (cutS z none (some r)) ⟨#[c]⟩
  have l3 := len_app (cutS z none (some r) ++ ⟨#[c]⟩) (cutS z (some r) none)
  have l4 := len_app (cutS z none (some r) ++ ⟨#[c]⟩) (cutS z (some (r + 1)) none)
  refine ⟨_, rfl, rfl, _, rfl, ite2 (fun _ => ?_) (fun _ => ?_)⟩
  · exact ⟨_, rfl, _, rfl, _, rfl, z, rfl, hsz, _, rfl, _, rfl, _, _, rfl, rfl, _, rfl, z, rfl, hsz, _, _, rfl, rfl, sz _ (by omega), k _ _ (by omega) h3 iA⟩
  refine ⟨_, rfl, rfl, _, rfl, ite2 (fun _ => ?_) (fun _ => ?_)⟩
  · exact ⟨_, rfl, _, rfl, _, rfl, z, rfl, hsz, _, rfl, _, _, rfl, rfl, sz _ (by omega), _, rfl, _, rfl, _, rfl, z, rfl, hsz, _, _, rfl, rfl, sz _ (by omega), k _ _ (by omega) h3 iA⟩
  refine ⟨_, rfl, rfl, _, rfl, ite2 (fun _ => ?_) (fun _ => ?_)⟩
  · exact ⟨_, rfl, _, rfl, _, rfl, z, rfl, hsz, _, rfl, _, _, rfl, rfl, sz _ (by omega), _, rfl, _, rfl, _, _, rfl, rfl, _, rfl, z, rfl, hsz, _, _, rfl, rfl, sz _ (by omega), k _ _ (by omega) h3 iA⟩
  refine ⟨(by show 12 ≤ sizeLine; decide), fun p np => ?_⟩
  refine ⟨_, rfl, (by show 7 ≤ sizeLine; decide), fun p2 np2 => ⟨p, p2, _, _, rfl, rfl, nw np2 upd_same, upd_same, (by show 12 + 7 ≤ sizeLine; decide), fun p3 np3 => ?_⟩⟩
  refine ⟨_, rfl, (by show 3 ≤ sizeLine; decide), fun p4 np4 => ⟨p3, p4, _, _, rfl, rfl, nw np4 upd_same, upd_same, (by show 19 + 3 ≤ sizeLine; decide), fun p5 np5 => ?_⟩⟩
  have e5 : upd (upd (upd (upd (upd H3 p (.lst ((menuS.take 12).map V.str))) p2 (.lst (((menuS.drop 12).take 7).map V.str))) p3 (.lst (((menuS.take 12).map V.str) ++ ((menuS.drop 12).take 7).map V.str))) p4 (.lst ((menuS.drop 19).map V.str))) p5 (.lst ((((menuS.take 12).map V.str) ++ ((menuS.drop 12).take 7).map V.str) ++ (menuS.drop 19).map V.str)) p5 = some (.lst (menuS.map V.str)) := upd_same
  have h6 : Holds (boxC b :: pt p5 (.lst (menuS.map V.str)) :: L) (upd (upd (upd (upd (upd H3 p (.lst ((menuS.take 12).map V.str))) p2 (.lst (((menuS.drop 12).take 7).map V.str))) p3 (.lst (((menuS.take 12).map V.str) ++ ((menuS.drop 12).take 7).map V.str))) p4 (.lst ((menuS.drop 19).map V.str))) p5 (.lst (menuS.map V.str))) := (((((h3.newI np).newI np2).newI np3).newI np4).mk np5).pick 1
  have i6 : Imm H3 (upd (upd (upd (upd (upd H3 p (.lst ((menuS.take 12).map V.str))) p2 (.lst (((menuS.drop 12).take 7).map V.str))) p3 (.lst (((menuS.take 12).map V.str) ++ ((menuS.drop 12).take 7).map V.str))) p4 (.lst ((menuS.drop 19).map V.str))) p5 (.lst (menuS.map V.str))) := ((((Imm.new np).trans (Imm.new np2)).trans (Imm.new np3)).trans (Imm.new np4)).trans (Imm.new np5)
  refine ⟨_, rfl, _, rfl, (b, 22, _), rfl, h6, by decide, fun x H7 x0 x1 h7 i7 => ?_⟩
  obtain ⟨v, hv, hat⟩ := atI_inV (vs := menuS.map V.str) x0 (by rw [List.length_map]; exact x1)
  obtain ⟨z2, hz2, rfl⟩ := List.mem_map.mp hv
  exact ⟨p5, _, _, _, rfl, rfl, SqL.of (h7.rd (i := 1) rfl), hat, k z2 _ (menu_short z2 hz2) ((h7.pick 1).tail) ((iA.trans i6).trans i7)⟩
def badS : List Str := ["", "make 100000", "make 01", "write 1 2 nil", "send 1 2 3 4 5 6", "remove 1 2 1 2", "receive 1 2 3 5 4 carried", "receive 1 2 3", "remove 1 2 0 3", "make -5", "receive 1 2 3 carried export 1 export 1 export 1 export 1 export 1", "make 1 2", "drop"]
theorem bad_none : ∀ z ∈ badS, (readEv 0 z).isNone = true := by decide +kernel
theorem bad_short : ∀ z ∈ badS, z.length ≤ 999 := by decide +kernel
theorem seqM {t1 t2 : TS} {D : Ends} {σ : L2.St} {H : Hp} (M : L2.St → Hp → Prop) (h2 : ∀ σ H, M σ H → t2 D σ H) (h1 : (∀ σ H, M σ H → t2 D σ H) → tSeq t1 t2 D σ H) : tSeq t1 t2 D σ H := h1 h2
theorem hnilV {H : Hp} : Holds [] H := ⟨fun _ => False, fun _ h => h⟩
def sp_law (K : PySem.W.Frag) : Sp := SpOf (fun ((a, _) : Addr × List Int) => [.ref a]) fun (a, ns) H Q => SqL K H a (ns.map V.int) ∧ ns.length ≤ 63 ∧ ∀ H', Q (.bl true) H'
set_option maxHeartbeats 4000000 in
theorem ok_law (T : Txt K mg) : DefOk P w K mg base "law" 6 ["_law_script"] (sp_law K) := by
  have G__law_digits := ok__law_digits (P := P) (w := w) (base := base) T
  have G__law_any_event := ok__law_any_event (P := P) (w := w) (base := base) T
  have G__law_event_text := ok__law_event_text (P := P) (w := w) (base := base) T
  have G__law_spoilt := ok__law_spoilt (P := P) (w := w) (base := base) T
  have G_read_event := ok_read_event (P := P) (w := w) (base := base) T
  have G_write_event := ok_write_event (P := P) (w := w) (base := base) T
  have G__law_alike := ok__law_alike (P := P) (w := w) (base := base) T
  refine DefOk.mk' T.d_law sc_law (fun _ _ _ _ _ _ us hl => match us, hl with | [_], _ => rfl) (fun _ => rfl) (fun cdv f A outer s H p Q E hr h => ?_)
  obtain ⟨a, ns⟩ := p
  obtain ⟨hS, hl, k⟩ := h
  refine ⟨_, (pss_cons (ps_set (i := 1) sc_law.nd rfl (.inl rfl) (pe_lst (pa_cons (pe_callD G__law_digits (hr.mono (by decide)) rfl (pa_cons (pv 0) (pa_cons pe_int (pa_cons pe_int pa_nil)))) (pa_cons pe_int pa_nil))))
    (pss_cons (ps_for PassesOwn.never rfl (pi_range1 rfl T.n_range (pa_cons pe_int pa_nil)) (pg_name (i := 2) sc_law.nd rfl (.inl rfl))
    (pss_cons (ps_set (i := 3) sc_law.nd rfl (.inl rfl) (pe_callD G__law_any_event (hr.mono (by decide)) rfl (pa_cons (pv 1) pa_nil)))
    (pss_cons (ps_set (i := 4) sc_law.nd rfl (.inl rfl) (pe_callD G__law_event_text (hr.mono (by decide)) rfl (pa_cons (pv 3) pa_nil)))
    (pss_cons (ps_if (PW.pt (pw_or (pt_cmpR op_ne (pe_callD G_write_event (hr.mono (by decide)) rfl (pa_cons (pv 3) pa_nil)) (pv 4) (nomark _)) (pw_or1 (pt_not (pt_val (pe_callD G__law_alike (hr.mono (by decide)) rfl (pa_cons (pe_callD G_read_event (hr.mono (by decide)) rfl (pa_cons pe_int (pa_cons (pv 4) pa_nil))) (pa_cons (pv 3) pa_nil))))))))
    (pss_one (ps_ret pe_bl))
    pss_nil)
    (pss_cons (ps_set (i := 5) sc_law.nd rfl (.inl rfl) (pe_callD G__law_spoilt (hr.mono (by decide)) rfl (pa_cons (pv 1) (pa_cons (pv 4) pa_nil))))
    (pss_cons (ps_set (i := 6) sc_law.nd rfl (.inl rfl) (pe_callD G_read_event (hr.mono (by decide)) rfl (pa_cons pe_int (pa_cons (pv 5) pa_nil))))
    (pss_cons (ps_if (PW.pt (pw_and (pt_cmpR op_notN (pv 6) pe_non (nomark _)) (pw_and1 (PW.pt (pw_or (pt_cmpR op_ne (pe_callD G__law_event_text (hr.mono (by decide)) rfl (pa_cons (pv 6) pa_nil)) (pv 5) (nomark _)) (pw_or1 (pt_not (pt_val (pe_callD G__law_alike (hr.mono (by decide)) rfl (pa_cons (pe_callD G_read_event (hr.mono (by decide)) rfl (pa_cons pe_int (pa_cons (pe_callD G__law_event_text (hr.mono (by decide)) rfl (pa_cons (pv 6) pa_nil)) pa_nil))) (pa_cons (pv 6) pa_nil)))))))))))
    (pss_one (ps_ret pe_bl))
    pss_nil)
    (pss_cons (ps_if (PW.pt (pw_or (pt_cmpR op_notN (pe_callD G_read_event (hr.mono (by decide)) rfl (pa_cons pe_int (pa_cons (pe_op op_add_str (pv 4) pe_str) pa_nil))) pe_non (nomark _)) (pw_or1 (pt_cmpR op_notN (pe_callD G_read_event (hr.mono (by decide)) rfl (pa_cons pe_int (pa_cons (pe_op op_add_str pe_str (pv 4)) pa_nil))) pe_non (nomark _)))))
    (pss_one (ps_ret pe_bl))
    pss_nil)
    (pss_one (ps_if (pt_cmpR op_eq (pe_ix (ix_tupK (K := K)) (pv 3) pe_int (fun _ _ => rfl)) pe_str (nomark _))
    (pss_cons (ps_set (i := 7) sc_law.nd rfl (.inl rfl) (pe_ix (ix_tupK (K := K)) (pv 3) pe_int (fun _ _ => rfl)))
    (pss_one (ps_if (pt_not (pt_val (pe_callD G__law_alike (hr.mono (by decide)) rfl (pa_cons (pe_callD G_read_event (hr.mono (by decide)) rfl (pa_cons pe_int (pa_cons (pv 4) pa_nil))) (pa_cons (pe_tup (pa_cons pe_str (pa_cons (pe_op (op_catTK (K := K)) (pe_tup (pa_cons (pe_ix (ix_tupK (K := K)) (pv 7) pe_int (fun _ _ => rfl)) (pa_cons pe_int pa_nil))) (pe_slice (sl_tupK (K := K)) (pv 7) (po_some pe_int) po_none)) pa_nil))) pa_nil)))))
    (pss_one (ps_ret pe_bl))
    pss_nil)))
    pss_nil))))))))))
    (pss_cons (ps_for PassesOwn.never rfl (itupK (K := K) (pi_tup (pe_tup (pa_cons pe_str (pa_cons pe_str (pa_cons pe_str (pa_cons pe_str (pa_cons pe_str (pa_cons pe_str (pa_cons pe_str (pa_cons pe_str (pa_cons pe_str (pa_cons pe_str (pa_cons pe_str (pa_cons pe_str (pa_cons pe_str pa_nil)))))))))))))))) (pg_name (i := 8) sc_law.nd rfl (.inl rfl))
    (pss_one (ps_if (pt_cmpR op_notN (pe_callD G_read_event (hr.mono (by decide)) rfl (pa_cons pe_int (pa_cons (pv 8) pa_nil))) pe_non (nomark _))
    (pss_one (ps_ret pe_bl))
    pss_nil)))
    (pss_one (ps_ret pe_bl))))), ?_⟩
  have sz : ∀ n : Nat, n ≤ 1000 → n ≤ sizeLine := fun n h => Nat.le_of_lt (small1000 (by omega))
  refine ⟨_, rfl, (a, ns, 0, 63), rfl, hS, by decide, by decide, by decide, fun l ds nl _ => ⟨sz _ (Nat.le_of_ble_eq_true rfl), fun b nb => ?_⟩⟩
  have hB : Holds [boxC b] (upd (upd H l (.lst (ds.map V.int))) b (.lst [.ref l, .int 0])) := box_open.mpr ⟨l, ds, 0, Int.le_refl _, (hnilV.mk nl).mk nb⟩
  generalize upd (upd H l (.lst (ds.map V.int))) b (.lst [.ref l, .int 0]) = H2 at hB ⊢
  refine ⟨12, rfl, by decide, by decide, for_range (lo := 0) (n := 12) (fun i σ H' => ∃ v2 v3 v4 v5 v6 v7, σ = [some (.ref a), some (.ref b), v2, v3, v4, v5, v6, v7, none] ∧ Holds [boxC b] H') ⟨none, none, none, none, none, none, rfl, hB⟩ ?_ ?_⟩
  · rintro i σ H3 hi ⟨v2, v3, v4, v5, v6, v7, rfl, h3⟩
    refine ⟨_, rfl, (b, []), rfl, h3, fun t e H4 h4 _ fe hok hbr => ?_⟩
    obtain ⟨ht, hlen⟩ := brief_len hok hbr
    have hsr := ev_sr hok ⟨by decide, by decide⟩ ht
    refine ⟨_, rfl, (.ref t, e), rfl, fe, ht, fun H5 s5 => ?_⟩
    have f5 := fe.imm (Imm.same s5)
    refine ⟨_, rfl, (.ref t, e), rfl, f5, ht, fun H6 s6 => ⟨_, rfl, rfl, _, rfl, ite2 (fun z => absurd rfl (nd_of z)) (fun _ => ?_)⟩⟩
    have f6 := f5.imm (Imm.same s6)
    refine ⟨_, rfl, (2, e.textS), rfl, by omega, ?_⟩
    rw [readEv_ok hok]
    refine fun l1 H7 s7 f7 => ⟨_, rfl, (.ref l1, .ref t, e.data, 4, 1000000), rfl, f7.dp, (f6.imm (Imm.same s7)).dp, hsr, by decide, by decide, _, rfl, ite2 (fun z => nomatch z) (fun _ => ?_)⟩
    have h7 := (((h4.same s5).same s6).same s7)
    have hpos : 1 ≤ e.textS.length := by
      have e1 : TL.tl e.textS = TL.joinL [32] (([e.wordS] ++ e.restS).map TL.tl) := by
        unfold Ev.textS
        rw [TL.join_eq, TL.tl_join]
        rw [show TL.tl (" " : Str) = [32] by decide +kernel]
      rw [TL.len_tl, e1]
      exact List.length_pos_iff.mpr (joinL_ends (by simp) fun p hp => by
        obtain ⟨z, hz, rfl⟩ := List.mem_map.mp hp
        exact hok.good z hz).1
    refine ⟨_, rfl, _, rfl, (b, e.textS, []), rfl, h7, hpos, by omega, fun z' H8 hz' h8 i8 => ?_⟩
    have f8 := (f6.imm (Imm.same s7)).imm i8
    dsimp only [gName]
    refine seqM (M := fun σ H' => ∃ u, σ = [some (.ref a), some (.ref b), some (.int (0 + (i : Int))), some (.ref t), some (.str e.textS), some (.str z'), some u, v7, none] ∧ Holds [boxC b] H' ∧ Fz K H' (.ref t) e.data ∧
      (u = .non ∨ ∃ lu eu, u = .ref lu ∧ Fz K H' u eu.data ∧ readEv 2 z' = some eu)) ?_ fun fin => ?_
    rotate_left
    · refine ⟨_, rfl, (2, z'), rfl, hz', ?_⟩
      cases er : readEv 2 z' with
      | none => exact fun H9 s9 => fin _ _ ⟨_, rfl, h8.same s9, f8.imm (Imm.same s9), .inl rfl⟩
      | some eu => exact fun lu H9 s9 f9 => fin _ _ ⟨_, rfl, h8.same s9, f8.imm (Imm.same s9), .inr ⟨lu, eu, rfl, f9, er⟩⟩
    rintro σ H9 ⟨u, rfl, h9, f9, hu⟩
    refine seqM (M := fun σ H' => ∃ u, σ = [some (.ref a), some (.ref b), some (.int (0 + (i : Int))), some (.ref t), some (.str e.textS), some (.str z'), some u, v7, none] ∧ Holds [boxC b] H' ∧ Fz K H' (.ref t) e.data) ?_ fun fin => ?_
    rotate_left
    · rcases hu with rfl | ⟨lu, eu, rfl, fu, er⟩
      · exact ⟨_, rfl, rfl, _, rfl, ite2 (fun z => absurd z (by decide)) (fun _ => fin _ _ ⟨_, rfl, h9, f9⟩)⟩
      · have hoku := readEv_okT er
        have htu := readEv_tsz er hz'
        have hsu := ev_sr hoku ⟨by decide, by decide⟩ htu
        have hteq := readEv_text er
        refine ⟨_, rfl, rfl, _, rfl, ite2 (fun _ => ?_) (fun z => absurd rfl z)⟩
        refine ⟨_, rfl, (.ref lu, eu), rfl, fu, htu, fun H10 s10 => ⟨_, rfl, rfl, _, rfl, ite2 (fun z => absurd (congrArg V.str hteq) (nd_of z)) (fun _ => ?_)⟩⟩
        have fu10 := fu.imm (Imm.same s10)
        refine ⟨_, rfl, (.ref lu, eu), rfl, fu10, htu, fun H11 s11 => ⟨(2, eu.textS), rfl, by rw [hteq]; exact hz', ?_⟩⟩
        rw [hteq, er]
        refine fun l2 H12 s12 f12 => ⟨_, rfl, (.ref l2, .ref lu, eu.data, 4, 1000000), rfl, f12.dp, ((fu10.imm (Imm.same s11)).imm (Imm.same s12)).dp, hsu, by decide, by decide, _, rfl, ite2 (fun z => nomatch z) (fun _ => ?_)⟩
        exact fin _ _ ⟨_, rfl, ((h9.same s10).same s11).same s12, ((f9.imm (Imm.same s10)).imm (Imm.same s11)).imm (Imm.same s12)⟩
    rintro σ H10 ⟨u, rfl, h10, f10⟩
    have lb1 := len_app e.textS " "
    have lb2 := len_app " " e.textS
    have lb3 : (" " : Str).length = 1 := by decide +kernel
    refine ⟨_, rfl, _, _, rfl, rfl, sz _ (by omega), (2, e.textS ++ " "), rfl, by omega, ?_⟩
    rw [(readEv_blank (who := 2) (z := e.textS)).1]
    refine fun H11 s11 => ⟨rfl, _, rfl, ite2 (fun z => absurd z (by decide)) (fun _ => ?_)⟩
    refine ⟨_, rfl, _, _, rfl, rfl, sz _ (by omega), (2, " " ++ e.textS), rfl, by omega, ?_⟩
    rw [(readEv_blank (who := 2) (z := e.textS)).2]
    refine fun H12 s12 => ⟨rfl, _, rfl, ite2 (fun z => absurd z (by decide)) (fun _ => ?_)⟩
    have h12 := (h10.same s11).same s12
    have f12 := (f10.imm (Imm.same s11)).imm (Imm.same s12)
    obtain ⟨t', vs, ett, hT, hR⟩ := fz_evR f12
    cases ett
    have last : ∀ (H' : Hp) (v7' : Option V), Holds [boxC b] H' → ∃ v2 v3 v4 v5 v6 v7, ([some (.ref a), some (.ref b), some (.int (0 + (i : Int))), some (.ref t), some (.str e.textS), some (.str z'), some u, v7', none] : L2.St) = [some (.ref a), some (.ref b), v2, v3, v4, v5, v6, v7, none] ∧ Holds [boxC b] H' := fun H' v7' h => ⟨_, _, _, _, _, _, rfl, h⟩
    refine ⟨_, rfl, t, _, 0, _, rfl, rfl, hT, ixv0, rfl, _, rfl, ite2 (fun z => ?_) (fun _ => last _ _ h12)⟩
    have hw : e.wordS = "receive" := V.str.inj (of_decide_eq_true z)
    obtain ⟨m, rfl⟩ : ∃ m, e = .receive m := by
      cases e with
      | receive m => exact ⟨m, rfl⟩
      | make _ => exact absurd hw (show ("make" : Str) ≠ "receive" by decide +kernel)
      | read _ _ => exact absurd hw (show ("read" : Str) ≠ "receive" by decide +kernel)
      | write _ _ _ => exact absurd hw (show ("write" : Str) ≠ "receive" by decide +kernel)
      | drop _ => exact absurd hw (show ("drop" : Str) ≠ "receive" by decide +kernel)
      | send _ _ => exact absurd hw (show ("send" : Str) ≠ "receive" by decide +kernel)
      | collect => exact absurd hw (show ("collect" : Str) ≠ "receive" by decide +kernel)
      | report => exact absurd hw (show ("report" : Str) ≠ "receive" by decide +kernel)
      | remove _ => exact absurd hw (show ("remove" : Str) ≠ "receive" by decide +kernel)
    obtain ⟨um, rfl, hum⟩ := hR
    obtain ⟨tm, th, tc, cs, rfl, hMT, hh, hc, fc⟩ := fz_msg hum
    have hok3 : (Ev.receive { m with receiver := 3 }).okT 3 := ⟨rfl, hok.2⟩
    refine ⟨_, rfl, t, _, 1, _, rfl, rfl, hT, ixv1, ?_⟩
    refine ⟨_, rfl, (3, (Ev.receive m).textS), rfl, by omega, ?_⟩
    rw [show (Ev.receive m).textS = (Ev.receive { m with receiver := 3 }).textS from rfl, readEv_ok hok3]
    intro l3 H13 s13 f13
    have iS : Imm H12 H13 := Imm.same s13
    have hMT := sqT_imm iS hMT
    have hh := sqT_imm iS hh
    have hc := sqT_imm iS hc
    have fc := fc.imm iS
    refine ⟨_, rfl, tm, _, 0, _, rfl, rfl, hMT, ixv0, (by show 2 ≤ sizeLine; decide), fun p np => ?_⟩
    have h14 := (h12.same s13).newI (p := p) (o := .tup [.int m.sender, .int 3]) np
    have i14 : Imm H13 (upd H13 p (.tup [.int m.sender, .int 3])) := Imm.new np
    have ep : upd H13 p (.tup [.int m.sender, .int 3]) p = some (.tup [.int m.sender, .int 3]) := upd_same
    generalize upd H13 p (.tup [.int m.sender, .int 3]) = H14 at h14 i14 ep ⊢
    refine ⟨_, rfl, 2, rfl, tm, _, rfl, sqT_imm i14 hMT, fun z => ?_, fun _ p2 np2 => ?_⟩
    · have e : HT.sIx 6 0 (some ((2 : Nat) : Int)) = min 2 6 := HT.sIx_nat _ _ _
      have := z.1.symm.trans e
      cases this
    rw [show cutV [V.int m.sender, .int m.receiver, .int m.number, .int m.seen, .ref th, .ref tc] (some 2) none = [.int m.number, .int m.seen, .ref th, .ref tc] from (cutV_from (a := 2) rfl).trans rfl]
    refine ⟨p, p2, _, _, rfl, rfl, SqT.of (nw np2 ep), SqT.of upd_same, (by show 2 + 4 ≤ sizeLine; decide), (fun z => nomatch z), (fun _ z => nomatch z), fun _ _ p3 np3 => ⟨(by show 2 ≤ sizeLine; decide), fun p4 np4 => ?_⟩⟩
    have iN : Imm H14 (upd (upd (upd H14 p2 (.tup [.int m.number, .int m.seen, .ref th, .ref tc])) p3 (.tup ([.int m.sender, .int 3] ++ [.int m.number, .int m.seen, .ref th, .ref tc]))) p4 (.tup [.str "receive", .ref p3])) := ((Imm.new np2).trans (Imm.new np3)).trans (Imm.new np4)
    have h15 : Holds [boxC b] (upd (upd (upd H14 p2 (.tup [.int m.number, .int m.seen, .ref th, .ref tc])) p3 (.tup ([.int m.sender, .int 3] ++ [.int m.number, .int m.seen, .ref th, .ref tc]))) p4 (.tup [.str "receive", .ref p3])) := ((h14.newI np2).newI np3).newI np4
    have fN : Fz K (upd (upd (upd H14 p2 (.tup [.int m.number, .int m.seen, .ref th, .ref tc])) p3 (.tup ([.int m.sender, .int 3] ++ [.int m.number, .int m.seen, .ref th, .ref tc]))) p4 (.tup [.str "receive", .ref p3])) (.ref p4) (Ev.receive { m with receiver := 3 }).data := by
      refine .tup (SqT.of upd_same) (.cons (.str _) (.cons (.tup (SqT.of (nw np4 upd_same)) (.cons (.int _) (.cons (.int _) (.cons (.int _) (.cons (.int _) (.cons ?_ (.cons ?_ .nil))))))) .nil))
      · exact .tup (sqT_imm (i14.trans iN) hh) (fz_ints _)
      · exact .tup (sqT_imm (i14.trans iN) hc) (fc.imm (i14.trans iN))
    generalize upd (upd (upd H14 p2 (.tup [.int m.number, .int m.seen, .ref th, .ref tc])) p3 (.tup ([.int m.sender, .int 3] ++ [.int m.number, .int m.seen, .ref th, .ref tc]))) p4 (.tup [.str "receive", .ref p3]) = H15 at h15 iN fN ⊢
    refine ⟨(.ref l3, .ref p4, (Ev.receive { m with receiver := 3 }).data, 4, 1000000), rfl, (f13.imm (i14.trans iN)).dp, fN.dp, ev_sr hok3 ⟨by decide, by decide⟩ ht, by decide, by decide, _, rfl, ite2 (fun z => nomatch z) (fun _ => last _ _ h15)⟩
  rintro σ H3 ⟨v2, v3, v4, v5, v6, v7, rfl, h3⟩
  refine ⟨(by show 13 ≤ sizeLine; decide), fun p np => ?_⟩
  have ep : upd H3 p (.tup (badS.map V.str)) p = some (.tup (badS.map V.str)) := upd_same
  refine ⟨p, rfl, ⟨_, SqT.of ep⟩, for_tup (xs := badS.map V.str) (fun i σ H' => ∃ v8, σ = [some (.ref a), some (.ref b), v2, v3, v4, v5, v6, v7, v8] ∧ H' p = some (.tup (badS.map V.str))) ⟨none, rfl, ep⟩ (fun i σ H' _ ⟨_, _, h⟩ => SqT.of h) ?_ fun σ H' _ => k H'⟩
  rintro i x σ H' hx ⟨v8, rfl, h'⟩
  obtain ⟨z, hz, rfl⟩ := List.mem_map.mp (List.mem_of_getElem? hx)
  refine ⟨_, rfl, (0, z), rfl, bad_short z hz, ?_⟩
  have hn := bad_none z hz
  cases e : readEv 0 z with
  | some ev => rw [e] at hn; cases hn
  | none => exact fun H5 s5 => ⟨rfl, _, rfl, ite2 (fun z => absurd z (by decide)) (fun _ => ⟨_, rfl, s5 _ _ h'⟩)⟩

end
section
open PySem PySem.Spec PyProof.Rows L2
variable {P : Program} {w : World} {K : PySem.W.Frag} {mg : Str → Option Value} {base : Heap}
set_option maxHeartbeats 0 in
theorem all_mk {K : PySem.W.Frag} {h : Heap} {mg : Str → Option Value} (X : K.In h) (G : h.Ns mainGlobals mg) (c : He.SaysE hFa hFn K) (hx : (hEx.all fun p => p K) = true) : Txt K mg := by
  obtain ⟨fd__message_words, e__message_words⟩ := fun_of (p := ("_message_words", none)) c 0 (by rfl) (He.keep_ok (c.fact 18 (by rfl) : (He.Fa.keep "_message_words").ok K = true))
  obtain ⟨fd__words, e__words⟩ := fun_of (p := ("_words", none)) c 1 (by rfl) (He.keep_ok (c.fact 20 (by rfl) : (He.Fa.keep "_words").ok K = true))
  obtain ⟨fd_write_event, e_write_event⟩ := fun_of (p := ("write_event", none)) c 2 (by rfl) (He.keep_ok (c.fact 22 (by rfl) : (He.Fa.keep "write_event").ok K = true))
  obtain ⟨fd__read_number, e__read_number⟩ := fun_of (p := ("_read_number", none)) c 3 (by rfl) (He.keep_ok (c.fact 24 (by rfl) : (He.Fa.keep "_read_number").ok K = true))
  obtain ⟨fd__read_numbers, e__read_numbers⟩ := fun_of (p := ("_read_numbers", none)) c 4 (by rfl) (He.keep_ok (c.fact 26 (by rfl) : (He.Fa.keep "_read_numbers").ok K = true))
  obtain ⟨fd__rises, e__rises⟩ := fun_of (p := ("_rises", none)) c 5 (by rfl) (He.keep_ok (c.fact 28 (by rfl) : (He.Fa.keep "_rises").ok K = true))
  obtain ⟨fd__read_carried, e__read_carried⟩ := fun_of (p := ("_read_carried", none)) c 6 (by rfl) (He.keep_ok (c.fact 30 (by rfl) : (He.Fa.keep "_read_carried").ok K = true))
  obtain ⟨fd__read_receive, e__read_receive⟩ := fun_of (p := ("_read_receive", none)) c 7 (by rfl) (He.keep_ok (c.fact 32 (by rfl) : (He.Fa.keep "_read_receive").ok K = true))
  obtain ⟨fd__read_remove, e__read_remove⟩ := fun_of (p := ("_read_remove", none)) c 8 (by rfl) (He.keep_ok (c.fact 34 (by rfl) : (He.Fa.keep "_read_remove").ok K = true))
  obtain ⟨fd__read_write, e__read_write⟩ := fun_of (p := ("_read_write", none)) c 9 (by rfl) (He.keep_ok (c.fact 36 (by rfl) : (He.Fa.keep "_read_write").ok K = true))
  obtain ⟨fd__read_plain, e__read_plain⟩ := fun_of (p := ("_read_plain", none)) c 10 (by rfl) (He.keep_ok (c.fact 38 (by rfl) : (He.Fa.keep "_read_plain").ok K = true))
  obtain ⟨fd_read_event, e_read_event⟩ := fun_of (p := ("read_event", none)) c 11 (by rfl) (He.keep_ok (c.fact 40 (by rfl) : (He.Fa.keep "read_event").ok K = true))
  obtain ⟨fd__law_cell, e__law_cell⟩ := fun_of (p := ("_law_cell", none)) c 12 (by rfl) (He.keep_ok (c.fact 42 (by rfl) : (He.Fa.keep "_law_cell").ok K = true))
  obtain ⟨fd__law_digits, e__law_digits⟩ := fun_of (p := ("_law_digits", none)) c 13 (by rfl) (He.keep_ok (c.fact 44 (by rfl) : (He.Fa.keep "_law_digits").ok K = true))
  obtain ⟨fd__law_draw, e__law_draw⟩ := fun_of (p := ("_law_draw", none)) c 14 (by rfl) (He.keep_ok (c.fact 46 (by rfl) : (He.Fa.keep "_law_draw").ok K = true))
  obtain ⟨fd__law_alike, e__law_alike⟩ := fun_of (p := ("_law_alike", none)) c 15 (by rfl) (He.keep_ok (c.fact 48 (by rfl) : (He.Fa.keep "_law_alike").ok K = true))
  obtain ⟨fd__law_event_text, e__law_event_text⟩ := fun_of (p := ("_law_event_text", none)) c 16 (by rfl) (He.keep_ok (c.fact 50 (by rfl) : (He.Fa.keep "_law_event_text").ok K = true))
  obtain ⟨fd__law_any_event, e__law_any_event⟩ := fun_of (p := ("_law_any_event", none)) c 17 (by rfl) (He.keep_ok (c.fact 52 (by rfl) : (He.Fa.keep "_law_any_event").ok K = true))
  obtain ⟨fd__law_rank, e__law_rank⟩ := fun_of (p := ("_law_rank", none)) c 18 (by rfl) (He.keep_ok (c.fact 54 (by rfl) : (He.Fa.keep "_law_rank").ok K = true))
  obtain ⟨fd__law_spoilt, e__law_spoilt⟩ := fun_of (p := ("_law_spoilt", none)) c 19 (by rfl) (He.keep_ok (c.fact 56 (by rfl) : (He.Fa.keep "_law_spoilt").ok K = true))
  obtain ⟨fd_law, e_law⟩ := fun_of (p := ("law", none)) c 20 (by rfl) (He.keep_ok (c.fact 58 (by rfl) : (He.Fa.keep "law").ok K = true))
  exact ⟨He.free_ok X G (c.fact 0 (by rfl) : (He.Fa.free "all").ok K = true),
    He.free_ok X G (c.fact 1 (by rfl) : (He.Fa.free "any").ok K = true),
    He.free_ok X G (c.fact 2 (by rfl) : (He.Fa.free "int").ok K = true),
    He.free_ok X G (c.fact 3 (by rfl) : (He.Fa.free "isinstance").ok K = true),
    He.free_ok X G (c.fact 4 (by rfl) : (He.Fa.free "len").ok K = true),
    He.free_ok X G (c.fact 5 (by rfl) : (He.Fa.free "range").ok K = true),
    He.free_ok X G (c.fact 6 (by rfl) : (He.Fa.free "repr").ok K = true),
    He.free_ok X G (c.fact 7 (by rfl) : (He.Fa.free "sorted").ok K = true),
    He.free_ok X G (c.fact 8 (by rfl) : (He.Fa.free "str").ok K = true),
    He.free_ok X G (c.fact 9 (by rfl) : (He.Fa.free "tuple").ok K = true),
    He.free_ok X G (c.fact 10 (by rfl) : (He.Fa.free "zip").ok K = true),
    He.str_ok X G (c.fact 11 (by rfl) : (He.Fa.str "CARRIED" cs_CARRIED).ok K = true),
    He.str_ok X G (c.fact 12 (by rfl) : (He.Fa.str "NONE" cs_NONE).ok K = true),
    He.int_ok X G (c.fact 13 (by rfl) : (He.Fa.int "FIGURES_MOST" 5).ok K = true),
    He.str_ok X G (c.fact 14 (by rfl) : (He.Fa.str "DIGITS" cs_DIGITS).ok K = true),
    He.int_ok X G (c.fact 15 (by rfl) : (He.Fa.int "CARRIED_MOST" 4).ok K = true),
    He.str_ok X G (c.fact 16 (by rfl) : (He.Fa.str "EXPORT" cs_EXPORT).ok K = true),
    He.str_ok X G (c.fact 17 (by rfl) : (He.Fa.str "RETURN" cs_RETURN).ok K = true),
    ⟨_, _, (He.glo_ok X G (c.fact 19 (by rfl) : (He.Fa.glo "_message_words").ok K = true)), e__message_words⟩,
    ⟨_, _, (He.glo_ok X G (c.fact 21 (by rfl) : (He.Fa.glo "_words").ok K = true)), e__words⟩,
    ⟨_, _, (He.glo_ok X G (c.fact 23 (by rfl) : (He.Fa.glo "write_event").ok K = true)), e_write_event⟩,
    ⟨_, _, (He.glo_ok X G (c.fact 25 (by rfl) : (He.Fa.glo "_read_number").ok K = true)), e__read_number⟩,
    ⟨_, _, (He.glo_ok X G (c.fact 27 (by rfl) : (He.Fa.glo "_read_numbers").ok K = true)), e__read_numbers⟩,
    ⟨_, _, (He.glo_ok X G (c.fact 29 (by rfl) : (He.Fa.glo "_rises").ok K = true)), e__rises⟩,
    ⟨_, _, (He.glo_ok X G (c.fact 31 (by rfl) : (He.Fa.glo "_read_carried").ok K = true)), e__read_carried⟩,
    ⟨_, _, (He.glo_ok X G (c.fact 33 (by rfl) : (He.Fa.glo "_read_receive").ok K = true)), e__read_receive⟩,
    ⟨_, _, (He.glo_ok X G (c.fact 35 (by rfl) : (He.Fa.glo "_read_remove").ok K = true)), e__read_remove⟩,
    ⟨_, _, (He.glo_ok X G (c.fact 37 (by rfl) : (He.Fa.glo "_read_write").ok K = true)), e__read_write⟩,
    ⟨_, _, (He.glo_ok X G (c.fact 39 (by rfl) : (He.Fa.glo "_read_plain").ok K = true)), e__read_plain⟩,
    ⟨_, _, (He.glo_ok X G (c.fact 41 (by rfl) : (He.Fa.glo "read_event").ok K = true)), e_read_event⟩,
    ⟨_, _, (He.glo_ok X G (c.fact 43 (by rfl) : (He.Fa.glo "_law_cell").ok K = true)), e__law_cell⟩,
    ⟨_, _, (He.glo_ok X G (c.fact 45 (by rfl) : (He.Fa.glo "_law_digits").ok K = true)), e__law_digits⟩,
    ⟨_, _, (He.glo_ok X G (c.fact 47 (by rfl) : (He.Fa.glo "_law_draw").ok K = true)), e__law_draw⟩,
    ⟨_, _, (He.glo_ok X G (c.fact 49 (by rfl) : (He.Fa.glo "_law_alike").ok K = true)), e__law_alike⟩,
    ⟨_, _, (He.glo_ok X G (c.fact 51 (by rfl) : (He.Fa.glo "_law_event_text").ok K = true)), e__law_event_text⟩,
    ⟨_, _, (He.glo_ok X G (c.fact 53 (by rfl) : (He.Fa.glo "_law_any_event").ok K = true)), e__law_any_event⟩,
    ⟨_, _, (He.glo_ok X G (c.fact 55 (by rfl) : (He.Fa.glo "_law_rank").ok K = true)), e__law_rank⟩,
    ⟨_, _, (He.glo_ok X G (c.fact 57 (by rfl) : (He.Fa.glo "_law_spoilt").ok K = true)), e__law_spoilt⟩,
    ⟨_, _, (He.glo_ok X G (c.fact 59 (by rfl) : (He.Fa.glo "law").ok K = true)), e_law⟩⟩
set_option maxHeartbeats 0 in
theorem law_at {l : PySem.W.OpenLaw} {w : World} {K : PySem.W.Frag} {h : Heap} {mg : Str → Option Value} {fa : Addr} (X : K.In h) (G : h.Ns mainGlobals mg) (hfa : mg "law" = some (.ref fa)) (c : He.SaysE hFa hFn K) (hx : (hEx.all fun p => p K) = true) :
    ∃ fd : FuncData, (∀ (s : Shared) (v : Value), BindsTo s fd ⟨[v], []⟩ [("_law_script", v)]) ∧ ∀ base : Heap, K.In base → base.Ns mainGlobals mg → FnG l.prog w K mg base CX0 6 fa fd ["_law_script"] (sp_law K) := by
  have T := all_mk X G c hx
  have hm := (He.glo_ok X G (c.fact 59 (by rfl) : (He.Fa.glo "law").ok K = true))
  cases hfa.symm.trans hm
  obtain ⟨oc, od, osl, kV, doc, pm, an, cdv, ct, lk, cd⟩ := c.def_ 20 (d := ⟨("law", none), "law", "law", defArgs s_law, defBody s_law, defScope s_law⟩) (by rfl)
  exact DefOk.end hm (fun_mk (st := s_law) lk cd (He.keep_ok (c.fact 58 (by rfl) : (He.Fa.keep "law").ok K = true))) (fun s v => .of_eq rfl) fun base => ok_law T
end
end KW
open PySem PySem.W PyProof.Rows
set_option maxRecDepth 100000 in
set_option maxHeartbeats 0 in
theorem PySem.Challenge.cw_keptbywitness_k45_events_written_and_rea_holds : PySem.Challenge.rw_keptbywitness_k45_events_written_and_rea.Holds := by
  w_on; o_law
  refine HandSHeadRun.head_any (r := KW.hR) (q := view KW.hR.prog [29]) (H := KW.hkW KW.hFa KW.hFn KW.hEx) (ob := KW.obW KW.hFa KW.hFn KW.hEx) (M := 40000) (loose := KW.hNames) (d := HandSHeadRun.topDef KW.hR.prog 29) (kwd := []) KW.obW_eq (by kernel_rfl) (fun s => by kernel_rfl) KW.hRun (by kernel_rfl) (by kernel_rfl) (by kernel_rfl) (by rfl) (by first | assumption | decide +kernel) (by decide +kernel) ⟨rfl, rfl, rfl, rfl, rfl, by decide +kernel⟩ ?hw ?hc
  case hw => w_witness2
  case hc =>
    refine KW.walkGE (l := PySem.Challenge.rw_keptbywitness_k45_events_written_and_rea) (n := 63) (k := 6) (x := "_law_script") rfl (by decide) (by kernel_rfl) ⟨⟨rfl, by decide, by decide⟩, rfl⟩ ?F
    intro w mg fa h Y G hmg0
    obtain ⟨K, KX, c, hx⟩ := Y
    have hmg : mg ("law" : PySem.Str) = some (.ref fa) := by
      have e : (HandSHeadRun.topDef KW.hR.prog 29).name = ("law" : PySem.Str) := by kernel_rfl
      rw [← e]
      exact hmg0
    obtain ⟨fd, hb, hF⟩ := KW.law_at (l := PySem.Challenge.rw_keptbywitness_k45_events_written_and_rea) (w := w) KX G hmg c hx
    exact ⟨K, fd, KW.sp_law K, KX, hb, fun H a ns hl _ hS => ⟨(a, ns), rfl, hS, hl, fun _ => rfl⟩, hF⟩

