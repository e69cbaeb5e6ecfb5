import PyProof.Rows.All
import Wide.All
import OpenK.AllK
import Wide.FinOn
import HandS.ForMost
import HandS.IsInst
import HandS.Deep
import HandS.SortInts
import HandS.Walk
import HandS.NoneIn
import HandS.Codes
import HandS.TupAny
import HandS.Conv
import HandS.Sort
import HandS.SortOrd
import HandS.SortRule
import HandS.ListItems
import HandS.More
import PySem.Challenge.RW_keptbywitness_k01_what_references_lead_t
set_option Elab.async false
set_option linter.all false
set_option maxRecDepth 100000
set_option maxHeartbeats 4000000
namespace KW
local macro_rules | `(tactic| walk_at "e") => `(tactic| (repeat first | refine ⟨_, rfl, ?_⟩ | refine ⟨_, _, rfl, rfl, ?_⟩ | refine .inl ⟨_, rfl, ?_⟩ | refine ⟨_, _, rfl, rfl, .inl ⟨by decide, by decide⟩, ?_⟩ | refine ⟨_, _, rfl, rfl, .inr ⟨by decide, by decide⟩, ?_⟩ | refine ⟨_, _, rfl, rfl, ⟨by decide, by decide⟩, ?_⟩ | refine ⟨_, _, rfl, rfl, (by show (_ : Int) ≠ 0; first | decide | omega), ?_⟩))
open PySem PySem.Spec PyProof.Rows L2
/-! ### the same defs where no repr is under way (guards): what repr needs -/
structure RoomG (k : Nat) (A : Around) : Prop where
  room : Room k A
  gd : A.guards = some []
theorem RoomG.mono {j k : Nat} {A : Around} (r : RoomG k A) (h : j ≤ k) : RoomG j A := ⟨r.room.mono h, r.gd⟩
theorem RoomG.units {k : Nat} {A : Around} (r : RoomG k A) : A.units + 64 < cLine := r.room.units
theorem RoomG.un2 {k : Nat} {A : Around} (r : RoomG k A) : A.units + 65 < cLine := by have := r.room.un; omega
theorem RoomG.hu {k : Nat} {A : Around} (r : RoomG k A) : A.units + 1 < cLine := hu_of r.room
structure FnG (P : Program) (w : World) (K : PySem.W.Frag) (mg : Str → Option Value) (base : Heap) (CX : CXT) (k : Nat) (f : Addr) (fd : FuncData) (ps : List Str) (sp : Sp) : Prop where
  len : ∀ vs H Q E, sp vs H Q E → vs.length = ps.length
  run : ∀ (A : Around) (out : List Env) (s : Shared) (H : Hp) (args : Args) (us : List Value) (vs : List V) (Q : VK) (E : XK), RoomG k A → Env0 P w K mg base A out s H →
    BindsTo s fd args (ps.zip us) → Vals vs us → sp vs H Q E → codeAny (model P w) A (.call (.ref f) args) (CR CX out P w H s Q E) s
section
variable {P : Program} {w : World} {K : PySem.W.Frag} {mg : Str → Option Value} {base : Heap} {CX : CXT}
theorem FnG.of {k : Nat} {f : Addr} {fd : FuncData} {ps : List Str} {sp : Sp} (F : FnOk P w K mg base CX k f fd ps sp) : FnG P w K mg base CX k f fd ps sp :=
  ⟨F.len, fun A out s H args us vs Q E g => F.run A out s H args us vs Q E g.room⟩
theorem FnG.mono {j k : Nat} {f : Addr} {fd : FuncData} {ps : List Str} {sp : Sp} (F : FnG P w K mg base CX j f fd ps sp) (h : j ≤ k) : FnG P w K mg base CX k f fd ps sp :=
  ⟨F.len, fun A out s H args us vs Q E g => F.run A out s H args us vs Q E (g.mono h)⟩
/-- a def's body keeps its promise -/
theorem Fun.okG {x qual : Str} {st : Stmt} {f : Addr} {fd : FuncData} {N ps : List Str} {k : Nat} {sp : Sp} (F : Fun K x qual st f fd) (S : FnScope N ps (defScope st)) (len : ∀ vs H Q E, sp vs H Q E → vs.length = ps.length)
    (body : ∀ (cv : Value) (A : Around) (out : List Env) (s : Shared) (H : Hp) (vs : List V) (Q : VK) (E : XK), RoomG k (A.deeper (envOfC qual (defScope st) s.heap.objs.size f cv)) → sp vs H Q E →
      ∃ t, PSs (cxOf CX P w K mg base N qual (defScope st) f cv A out s H E) (defBody st) t ∧ t { nx := fun _ H' => Q .non H', rt := Q } (start N vs) H) : FnG P w K mg base CX (k + 1) f fd ps sp := by
  obtain ⟨oc, od, kV, doc, pm, an, cv, ct, osl, rfl, lk, hcd⟩ := F.ex
  constructor
  · exact len
  intro A out s H args us vs Q E g e0 bnd rel hsp
  have lenV := len _ _ _ _ hsp
  have old : ∀ b o, base.get? b = some o → s.heap.get? b = some o := fun b o e => (e0.bs b o e).1
  have inK : K.In s.heap := e0.mod.kin.keeps old
  have nolim : s.heap.NoLimit := e0.mod.nolimit.keeps old
  have kinds : ∀ y ∈ ps.zip us, (defScope st).names.lookup y.1 = some .local ∨ ((defScope st).names.lookup y.1 = some .cell ∧
      ((cellsFrom (s.heap.objs.size + 1) (defScope st).names []).lookup y.1).isSome = true) := by
    rintro ⟨n, v⟩ m
    have mp := (List.of_mem_zip m).1
    cases S.par n mp with
    | inl q => exact Or.inl q
    | inr q => exact Or.inr ⟨q, PySem.W.cellsFrom_some _ _ _ (Or.inl q)⟩
  refine codeAny_call_function g.room.depth (inK _ _ lk) rfl S.co S.gen rfl (PySem.W.codeRec_of inK hcd) (bnd _ _ _ _ ?_)
  refine wpAny_newFunctionEnv_cells S.kind kinds fun env ev s1 ic => ?_
  subst ev
  refine ⟨nolim.keeps ic.toInCall.keep, codeAny_func ?_⟩
  obtain ⟨t, pss, tq⟩ := body cv A out s H vs Q E ⟨g.room.deeper _, g.gd⟩ hsp
  have I0 : Inv (cxOf CX P w K mg base N qual (defScope st) f cv A out s H E) [] (start N vs) H s1 := inv_start S g.room.hd e0 lenV rel ic
  have done : ∀ {s' : Shared} {σ' : L2.St} {H' : Hp} {v : V} {u : Value}, Inv (cxOf CX P w K mg base N qual (defScope st) f cv A out s H E) [] σ' H' s' → RelV v u → Q v H' → CE out P w H s Q u s' :=
    fun {s' σ' H' v u} J rv q => ⟨v, H', J.os, J.bare, J.base, J.hok, rv, q⟩
  refine wpAny_mono (pss.run [] s1 (start N vs) H _ I0 tq) (fun fl s' e => ?_) fun _ _ e => e
  match fl, e with
  | .ret u, ⟨v, σ', H', J, rv, q⟩ => exact done J rv q
  | .next, ⟨σ', H', J, q⟩ => exact done (v := .non) (u := .none) J rfl q
  | .brk, ⟨_, _, _, q⟩ => exact q.elim
  | .cont, ⟨_, _, _, q⟩ => exact q.elim
end
section
variable {X : Cx} {CX : CXT} {k : Nat} {f C : Addr} {fd : FuncData} {ps : List Str} {sp : Sp} {E : XK}
theorem runG {pins : List (Addr × Obj)} {σ : L2.St} {H : Hp} {s : Shared} {Q : VK} {us : List Value} {vs : List V} (F : FnG X.prog X.w X.K X.mg X.base CX k f fd ps sp) (g : RoomG k X.A) (b : Binds X.K fd ps []) (px : Passes CX X E)
    (I : Inv X pins σ H s) (r : Vals vs us) (h : sp vs H Q E) : wpAny (model X.prog X.w) X.A (call (.ref f) us) (EP X pins σ Q) X.xe s := by
  have n1 : (us ++ []).length = ps.length := by rw [List.append_nil, ← r.length]; exact F.len _ _ _ _ h
  have bs := b s us I.kIn n1
  rw [List.append_nil] at bs
  refine wpAny_call (codeAny_mono (F.run X.A X.stack s H ⟨us, []⟩ us vs Q E g I.env0 bs r h) fun res s' hq => ?_)
  match res, hq with
  | .error e, hq => exact px pins σ H s e s' I hq
  | .ok (.ret u), hq => exact I.after hq
  | .ok .next, hq => exact hq.elim
  | .ok .brk, hq => exact hq.elim
  | .ok .cont, hq => exact hq.elim
/-- f(e, ..) -/
def tCallG (sp : Sp) (E : XK) (t : TA) : TE := fun σ H Q => t σ H fun vs H1 => sp vs H1 Q E
theorem pe_callG {x : Str} {e : Expr} {es : List Expr} {p pos : Pos} {t : TA} (F : FnG X.prog X.w X.K X.mg X.base CX k f fd ps sp) (g : RoomG k X.A) (hg : Gl X x) (hm : X.mg x = some (.ref f)) (hk : PySem.W.keepIn X.K (.ref f) = true) (b : Binds X.K fd ps [])
    (px : Passes CX X E) (ha : PA X (e :: es) t) (hdb : (x == ("__debug__" : Str)) = false := by decide) (he : starEach (e :: es) X.env = (false, eval e X.env) :: starEach es X.env := by rfl) (hpl : (backTo pos (starEach es X.env)).any (·.1) = false := by rfl) :
    PE X (.Call (.Name x p) (e :: es) [] pos) (tCallG sp E t) := by
  constructor
  intro pins s σ H Q I h
  refine wpAny_Call_Name_kw (ld_glob I hg hm ?_ hdb)
  exact PySem.W.callWith_K (h₀ := X.base) I.ok.mod.kin hk (thn (ha.run pos pins s σ H _ I h) fun us s1 ⟨vs, H1, I1, r, q⟩ => ⟨I1.kIn, runG F g b px I1 r q⟩) he hpl
theorem pe_callG0 {x : Str} {p pos : Pos} (F : FnG X.prog X.w X.K X.mg X.base CX k f fd ps sp) (g : RoomG k X.A) (hg : Gl X x) (hm : X.mg x = some (.ref f)) (hk : PySem.W.keepIn X.K (.ref f) = true) (b : Binds X.K fd ps [])
    (px : Passes CX X E) (hdb : (x == ("__debug__" : Str)) = false := by decide) : PE X (.Call (.Name x p) [] [] pos) (tCallG sp E tNil) := by
  constructor
  intro pins s σ H Q I h
  exact wpAny_Call_Name_kw (ld_glob I hg hm (PySem.W.callWith_K0 I.kIn hk (runG (us := []) F g b px I .nil h)) hdb)
end
/-- the law's own call, from a promise that wants no repr under way -/
theorem lawG {P : Program} {w : World} {K : PySem.W.Frag} {mg mb : Str → Option Value} {CX : CXT} {k : Nat} {fa a : Addr} {fd : FuncData} {x : Str} {sp : Sp} {s : Shared} {vs : List Value} {ns : List Int}
    (KX : K.In s.heap) (nsM : s.heap.Ns mainGlobals mg) (nsB : s.heap.Ns builtinsNs mb) (blt : ∀ x : Str, x ≠ "__name__" → mb x = bootBuiltins x) (lim : s.heap.NoLimit) (gens : s.gens = #[])
    (obj : s.heap.get? a = some { cls := .type "list", data := .seq vs.toArray }) (hints : IntsAre vs ns) (len : ns.length ≤ sizeLine) (g : RoomG k callerA)
    (F : ∀ base : Heap, K.In base → base.Ns mainGlobals mg → FnG P w K mg base CX k fa fd [x] sp) (bnd : ∀ (s : Shared) (u : Value), BindsTo s fd ⟨[u], []⟩ [(x, u)])
    (prom : ∀ H : Hp, Only H → SqL K H a (ns.map V.int) → sp [.ref a] H (fun v _ => v = .bl true) fun _ _ _ => False) (nox : ∀ H e s', CX [] H s (fun _ _ _ => False) e s' → False) :
    codeAny (model P w) callerA (.call (.ref fa) ⟨[.ref a], []⟩) (fun r s' => r = .ok (.ret (.bool true)) ∧ OldK s.heap s'.heap ∧ s'.os = s.os ∧ AllBare s'.gens) s := by
  have rel := vals_ints hints
  have vl := hints.length
  suffices main : ∀ H : Hp, Only H → SqL K H a (ns.map V.int) → HOk P w H s.heap → (∀ b, H b ≠ none → b = a) → (H a ≠ none → K.lookup a = none) →
      codeAny (model P w) callerA (.call (.ref fa) ⟨[.ref a], []⟩) (fun r s' => r = .ok (.ret (.bool true)) ∧ OldK s.heap s'.heap ∧ s'.os = s.os ∧ AllBare s'.gens) s by
    cases hk : K.lookup a with
    | some o =>
      have e := (KX a o hk).symm.trans obj
      cases e
      exact main (fun _ => none) (fun _ => Or.inl rfl) (Or.inr ⟨_, vs.toArray, _, hk, rfl, rfl, rfl, by rw [List.size_toArray, vl]; exact len, by simpa using rel⟩) (fun b u z => nomatch z) (fun b z => absurd rfl z) fun z => absurd rfl z
    | none =>
      let u : HO := .frz { cls := .type "list", data := .seq vs.toArray } (.lst (ns.map V.int))
      have yes : ∀ {b}, b = a → (fun b => if b = a then some u else none : Hp) b = some u := fun e => if_pos e
      have no : ∀ {b}, ¬ b = a → (fun b => if b = a then some u else none : Hp) b = none := fun e => if_neg e
      refine main (fun b => if b = a then some u else none) (fun b => ?_) (Or.inl (Or.inr ⟨_, yes rfl⟩)) (fun b o z => ?_) (fun b z => Decidable.byContradiction fun n => z (no n)) fun _ => hk
      · by_cases e : b = a
        · exact Or.inr ⟨_, _, yes e⟩
        · exact Or.inl (no e)
      · by_cases e : b = a
        · have z2 := (yes e).symm.trans z
          cases z2
          subst e
          exact ⟨obj, by rw [List.length_map]; exact len, vs, _, rel, obj⟩
        · exact nomatch (no e).symm.trans z
  intro H only seq hok onlyA notK
  have hid : ∀ {b : Addr} {o : Obj}, s.heap.get? b = some o → H b = none → (hidT s.heap H).get? b = some o := fun e n => hidT_get e n
  have offA : ∀ {b : Addr}, (b = a → False) → H b = none := fun {b} n => by
    cases q : H b with
    | none => rfl
    | some u => exact (n (onlyA b (by rw [q]; exact fun z => nomatch z))).elim
  have dictOff : ∀ {b : Addr} {o : Obj} {es : Array DictEntry} {ep : Nat}, s.heap.get? b = some o → o.data = .dict es ep → H b = none := fun {b o es ep} e d => offA fun z => by
    rw [z, obj] at e
    cases e
    exact nomatch d
  have nsH : ∀ {b : Addr} {m : Str → Option Value}, s.heap.Ns b m → (hidT s.heap H).Ns b m := fun {b m} ⟨o, es, ep, e, d, r⟩ => ⟨o, es, ep, hid e (dictOff e d), d, r⟩
  have inB : K.In (hidT s.heap H) := fun b o e => hid (KX b o e) (by
    cases q : H b with
    | none => rfl
    | some u =>
      have z : b = a := onlyA b (by rw [q]; exact fun z => nomatch z)
      have := notK (by rw [← z, q]; exact fun z => nomatch z)
      rw [z, this] at e
      cases e)
  have md : Mod K mg (hidT s.heap H) := ⟨inB, nsH nsM, ⟨mb, nsH nsB, blt⟩, let ⟨mc, q1, q2⟩ := lim; ⟨mc, nsH q1, q2⟩⟩
  have en : Env0 P w K mg (hidT s.heap H) callerA [] s H := ⟨rfl, md, fun b o e => of_hidT e, Nat.le_of_eq (hidT_size _ _), trivial, (fun b m => nomatch m), hok, .of_eq gens⟩
  refine codeAny_mono ((F _ inB (nsH nsM)).run callerA [] s H ⟨[.ref a], []⟩ [.ref a] [.ref a] _ _ g en (bnd s (.ref a)) (.cons rfl .nil) (prom H only seq)) fun res s' h => ?_
  match res, h with
  | .error e, h => exact (nox H e s' h).elim
  | .ok .next, h => exact h.elim
  | .ok .brk, h => exact h.elim
  | .ok .cont, h => exact h.elim
  | .ok (.ret u), h =>
    obtain ⟨v, H', os, bare, un, hok', rv, q⟩ := h
    have ev : v = .bl true := q
    subst ev
    obtain rfl : u = Value.bool true := rv
    refine ⟨rfl, OldK.of_keep fun b o e => ?_, os, bare⟩
    cases only b with
    | inl z => exact un.keep b o e z (fun m => nomatch m) (fun m => nomatch m)
    | inr z =>
      obtain ⟨ob, xs, z⟩ := z
      have z2 := un.frzs b ob _ z
      have e1 := (hok b _ z).1
      have e2 := (hok' b _ z2).1
      rw [e] at e1
      cases e1
      exact e2
theorem walkG {l : PySem.W.OpenLaw} {n k : Nat} {q : Program} {loose : List Str} {XP : (Str → Option Value) → Heap → Prop} {YP : World → Heap → Prop} {d : DefRec} {K : Params → PySem.W.Frag} {CX : World → CXT} {sp : World → Sp} {x : Str}
    (hn : l.most = some n) (hn2 : n ≤ sizeLine) (hdf : d.params.defaults = []) (g : RoomG k callerA) (hY : ∀ (w : World) (h : Heap), YP w h → (K w.params).In h)
    (F : ∀ (w : World) (mg : Str → Option Value) (fa : Addr) (h : Heap), (K w.params).In h → h.Ns mainGlobals mg → mg d.name = some (.ref fa) →
      ∃ fd : FuncData, (∀ (s : Shared) (u : Value), BindsTo s fd ⟨[u], []⟩ [(x, u)]) ∧ ∀ base : Heap, (K w.params).In base → base.Ns mainGlobals mg → FnG l.prog w (K w.params) mg base (CX w) k fa fd [x] (sp w))
    (prom : ∀ (w : World) (H : Hp) (a : Addr) (ns : List Int), ns.length ≤ n → Only H → SqL (K w.params) H a (ns.map V.int) → sp w [.ref a] H (fun v _ => v = .bl true) fun _ _ _ => False)
    (nox : ∀ (w : World) (H : Hp) (s : Shared) (e : Value) (s' : Shared), CX w [] H s (fun _ _ _ => False) e s' → False) : PySem.W.WalkO q loose XP YP l.row.toRowW d [] (fun f vs => PySem.call f vs) := by
  refine Att.attach_call hn hdf fun w s₀ s₁ mg mb fa o pm cd doc a vs ns G Y _ _ _ hmg obj hints len gens => ?_
  have inK := hY w _ Y
  obtain ⟨fd, bnd, FF⟩ := F w mg fa _ inK G.T.g hmg
  exact lawG inK G.T.g G.T.b G.T.builtins G.T.nolimit gens obj hints (Nat.le_trans len hn2) g FF bnd (fun H only sq => prom w H a ns len only sq) fun H e s' => nox w H s₁ e s'
/-! ### defs of the text by name, their promises, constants of the module -/
structure DefAt (K : PySem.W.Frag) (mg : Str → Option Value) (x : Str) (st : Stmt) : Prop where
  ex : ∃ (f : Addr) (fd : FuncData), mg x = some (.ref f) ∧ Fun K x x st f fd
structure DefOk (P : Program) (w : World) (K : PySem.W.Frag) (mg : Str → Option Value) (base : Heap) (x : Str) (k : Nat) (ps : List Str) (sp : Sp) : Prop where
  ex : ∃ (f : Addr) (fd : FuncData), mg x = some (.ref f) ∧ PySem.W.keepIn K (.ref f) = true ∧ Binds K fd ps [] ∧ FnG P w K mg base CX0 k f fd ps sp ∧ ∃ (oc : Value) (od : Option Addr) (osl : Array (Option Value)), K.lookup f = some ⟨oc, od, .func fd, osl⟩
/-- a promise: for arguments made of p, R p tells what is asked and given -/
def SpOf {α : Type} (args : α → List V) (R : α → Hp → VK → Prop) : Sp := fun vs H Q _ => ∃ p : α, vs = args p ∧ R p H Q
section
variable {P : Program} {w : World} {K : PySem.W.Frag} {mg : Str → Option Value} {base : Heap}
theorem DefOk.mk' {x : Str} {st : Stmt} {N ps : List Str} {k : Nat} {α : Type} {args : α → List V} {R : α → Hp → VK → Prop} (D : DefAt K mg x st) (S : FnScope N ps (defScope st))
    (hb : ∀ (kV doc pm : Value) (an : Option Addr) (cdv ct : Value) (us : List Value), us.length = ps.length → bindArgs (PySem.W.fnOf x x (defArgs st) (defBody st) (defScope st) .none kV doc pm an cdv ct) ⟨us, []⟩ = pure (ps.zip us))
    (hl : ∀ p : α, (args p).length = ps.length)
    (hbody : ∀ (cdv : Value) (f : Addr) (A : Around) (outer : List Env) (s : Shared) (H : Hp) (p : α) (Q : VK) (E : XK), RoomG k (A.deeper (envOfC x (defScope st) s.heap.objs.size f cdv)) → R p H Q →
      ∃ t, PSs (cxOf CX0 P w K mg base N x (defScope st) f cdv A outer s H E).nox (defBody st) t ∧ t { nx := fun _ H' => Q .non H', rt := Q } (start N (args p)) H) :
    DefOk P w K mg base x (k + 1) ps (SpOf args R) := by
  obtain ⟨f, fd, hm, F⟩ := D.ex
  refine ⟨f, fd, hm, F.kp, F.binds hb, Fun.okG F S (fun vs H Q E h => ?_) (fun cdv A outer s H vs Q E hr h => ?_), ?_⟩
  · obtain ⟨p, rfl, _⟩ := h
    exact hl p
  · obtain ⟨p, rfl, h⟩ := h
    obtain ⟨t, h1, h2⟩ := hbody cdv f A outer s H p Q E hr h
    exact ⟨t, h1.nox, h2⟩
  · obtain ⟨oc, od, kV, doc, pm, an, cdv, ct, osl, _, lk, _⟩ := F.ex
    exact ⟨oc, od, osl, lk⟩
/-- the law's own promise, over any base -/
theorem DefOk.end {l : PySem.W.OpenLaw} {x par : Str} {st : Stmt} {k : Nat} {sp : Sp} {f : Addr} {fd : FuncData} (hm : mg x = some (.ref f)) (F : Fun K x x st f fd) (hb : ∀ (s : Shared) (v : Value), BindsTo s fd ⟨[v], []⟩ [(par, v)])
    (ok : ∀ base : Heap, DefOk l.prog w K mg base x k [par] sp) : ∃ fd : FuncData, (∀ (s : Shared) (v : Value), BindsTo s fd ⟨[v], []⟩ [(par, v)]) ∧ ∀ base : Heap, K.In base → base.Ns mainGlobals mg → FnG l.prog w K mg base CX0 k f fd [par] sp := by
  refine ⟨fd, hb, fun base _ _ => ?_⟩
  obtain ⟨f', fd', hm', _, _, G, oc, od, osl, lk⟩ := (ok base).ex
  cases hm.symm.trans hm'
  obtain ⟨oc2, od2, kV, doc, pm, an, cdv, ct, osl2, _, lk2, _⟩ := F.ex
  cases lk.symm.trans lk2
  exact G
end
section
variable {X : Cx}
theorem pe_callD {x : Str} {e : Expr} {es : List Expr} {p pos : Pos} {ta : TA} {k : Nat} {ps : List Str} {sp : Sp} (D : DefOk X.prog X.w X.K X.mg X.base x k ps sp) (hr : RoomG k X.A) (hg : Gl X x) (ha : PA X (e :: es) ta)
    (hdb : (x == ("__debug__" : Str)) = false := by decide) (he : starEach (e :: es) X.env = (false, eval e X.env) :: starEach es X.env := by rfl) (hpl : (backTo pos (starEach es X.env)).any (·.1) = false := by rfl) :
    PE X (.Call (.Name x p) (e :: es) [] pos) (tCallG sp E0 ta) := by
  obtain ⟨f, fd, hm, hk, hb, F, _⟩ := D.ex
  exact pe_callG F hr hg hm hk hb pass0 ha hdb he hpl
/-- a written int, a written text of the module -/
def CoI (mg : Str → Option Value) (x : Str) (i : Int) : Prop := ∃ t, mg x = some (.int i t)
def CoS (mg : Str → Option Value) (x : Str) (z : Str) : Prop := ∃ t, mg x = some (.str z t)
theorem pe_coI {x : Str} {i : Int} {pos : Pos} (h : CoI X.mg x i) (hg : Gl X x) (hd : (x == ("__debug__" : Str)) = false := by decide) : PE X (.Name x pos) (tC (.int i)) := by
  obtain ⟨t, e⟩ := h
  exact pe_glob hg e ⟨t, rfl⟩ hd
theorem pe_coS {x : Str} {z : Str} {pos : Pos} (h : CoS X.mg x z) (hg : Gl X x) (hd : (x == ("__debug__" : Str)) = false := by decide) : PE X (.Name x pos) (tC (.str z)) := by
  obtain ⟨t, e⟩ := h
  exact pe_glob hg e ⟨t, rfl⟩ hd
/-- any(xs) of ints -/
theorem truth_ints {prog : Program} {w : World} {A : Around} {ns : List Int} {its : List Value} (r : Vals (ns.map V.int) its) :
    TruthOf prog w A (fun i v => its.toArray[i]? = some v) (fun i => ns.getD i 0 != 0) := fun i v s Q E hv hq => by
  have hv' : its[i]? = some v := by simpa using hv
  have hl := r.length
  have hi : i < ns.length := by
    have := (List.getElem?_eq_some_iff.mp hv').1
    rw [List.length_map] at hl
    omega
  obtain ⟨u, hu, ru⟩ := r.get (i := i) (x := V.int ns[i]) (by rw [List.getElem?_map, List.getElem?_eq_getElem hi]; rfl)
  obtain ⟨t, rfl⟩ := ru
  have e : v = .int ns[i] t := Option.some.inj (hv'.symm.trans hu)
  subst e
  have eg : ns.getD i 0 = ns[i] := by rw [List.getD_eq_getElem?_getD, List.getElem?_eq_getElem hi]; rfl
  have hq' : Q (ns.getD i 0 != 0) s := hq
  rw [eg] at hq'
  exact truthy_int hq'
theorem any_rangeI : ∀ ns : List Int, (List.range ns.length).any (fun i => ns.getD i 0 != 0) = ns.any (· != 0)
  | [] => rfl
  | b :: bs => by
    rw [List.length_cons, List.range_succ_eq_map, List.any_cons, List.any_map, List.any_cons, ← any_rangeI bs]
    all_goals rfl
def rAnyI (K : PySem.W.Frag) : List V → Hp → VK → Prop := fun vs H Q => ∃ (a : Addr) (ns : List Int), vs = [V.ref a] ∧ SqL K H a (ns.map V.int) ∧ Q (.bl (ns.any (· != 0))) H
theorem cr_anyI (hc : X.calm = true) : CallR X (.builtin "any") (rAnyI X.K) := by
  intro pins s σ H vs us Q I r h
  obtain ⟨a, ns, rfl, hs, q⟩ := h
  obtain ⟨its, rv, hl, _⟩ := I.list hs
  have hlen := rv.length
  rw [Vals.ref1 r]
  refine call_any_walk (iter_any hl.isList fun s₂ e2 st hne => ?_)
  subst e2
  refine ⟨_, _, _, _, _, _, _, rfl, Walks.list (A := X.A.in1) (I.ok.hd hc) _ a hne its.toArray, st, truth_ints rv, fun h' tk hk => ?_⟩
  refine ⟨.bl _, H, I.kept fun b o eo => hk b o (fun hmem => ?_) (Heap.get?_push_of_some _ eo), ?_, q⟩
  · rcases List.mem_cons.mp hmem with e1 | hmem
    · exact absurd (e1 ▸ Heap.lt_size eo) (Nat.lt_irrefl _)
    · cases hmem
  · show Value.bool _ = Value.bool _
    rw [← any_rangeI, List.size_toArray, ← hlen, List.length_map]
end
theorem nd_of {c : Prop} [Decidable c] (h : (!decide c) = true) : ¬ c := fun e => by rw [decide_eq_true e] at h; cases h
theorem d_of {c : Prop} [Decidable c] (h : ¬ (!decide c) = true) : c := Decidable.byContradiction fun e => h (by rw [decide_eq_false e]; rfl)
/-! ### frames: what was tracked outside W is as it was -/
def Fr (W : List Addr) (H H' : Hp) : Prop := ∀ a o, a ∉ W → H a = some o → H' a = some o
theorem Fr.refl (W : List Addr) (H : Hp) : Fr W H H := fun _ _ _ h => h
theorem Fr.trans {W : List Addr} {H H1 H2 : Hp} (a : Fr W H H1) (b : Fr W H1 H2) : Fr W H H2 := fun x o n h => b x o n (a x o n h)
theorem Fr.new {W : List Addr} {H : Hp} {p : Addr} {o : HO} (h : H p = none) : Fr W H (upd H p o) := fun a u _ e => by
  rw [upd_ne (ne_of_none e h)]
  exact e
theorem Fr.upd {W : List Addr} {H : Hp} {p : Addr} {o : HO} (h : p ∈ W) : Fr W H (upd H p o) := fun a u n e => by
  rw [upd_ne (fun z => n (by rw [z]; exact h))]
  exact e
theorem nw {H : Hp} {p a : Addr} {o u : HO} (hp : H p = none) (h : H a = some o) : upd H p u a = some o := by rw [upd_ne (ne_of_none h hp)]; exact h
theorem nwq {K : PySem.W.Frag} {H : Hp} {p a : Addr} {u : HO} {xs : List V} (hp : H p = none) (h : SqL K H a xs) : SqL K (upd H p u) a xs := Same.seq (H := H) (fun b o e => nw hp e) h
theorem nws {H H1 : Hp} {p : Addr} {u : HO} (hp : H1 p = none) (s : Same H H1) : Same H (upd H1 p u) := fun b o e => nw hp (s b o e)
theorem same_mut {H H' : Hp} {p : Addr} {o : HO} (s : Same H H') (h : H p = none) : Same H (upd H' p o) := fun b u e => by rw [upd_ne (ne_of_none e h)]; exact s b u e
theorem Fr.mono {W W' : List Addr} {H H' : Hp} (f : Fr W H H') (h : ∀ a, a ∈ W → a ∈ W') : Fr W' H H' := fun a o n e => f a o (fun z => n (h a z)) e
theorem Fr.of {W : List Addr} {H H' : Hp} (h : Same H H') : Fr W H H' := fun a o _ e => h a o e
theorem Fr.same {H H' : Hp} (f : Fr [] H H') : Same H H' := fun a o e => f a o (by simp) e
/-- what is new behind stays apart -/
theorem Fr.free {W : List Addr} {H H' : Hp} {p : Addr} (f : Fr W H H') (hw : p ∉ W) (h : H' p = none) : H p = none := by
  cases e : H p with
  | none => rfl
  | some o => rw [f p o hw e] at h; cases h
theorem rd_fr {W : List Addr} {H H' : Hp} {a : Addr} {u : HO} (f : Fr W H H') (hw : a ∉ W) (h : Rd H a u) : Rd H' a u := by
  rcases h with h | ⟨o, h⟩
  · exact .inl (f a _ hw h)
  · exact .inr ⟨o, f a _ hw h⟩
theorem seq_fr {K : PySem.W.Frag} {W : List Addr} {H H' : Hp} {a : Addr} {xs : List V} (f : Fr W H H') (hw : a ∉ W) (h : SqL K H a xs) : SqL K H' a xs := by
  rcases h with h | h
  · exact .inl (rd_fr f hw h)
  · exact .inr h
theorem sqT_fr {K : PySem.W.Frag} {W : List Addr} {H H' : Hp} {a : Addr} {xs : List V} (f : Fr W H H') (hw : a ∉ W) (h : SqT K H a xs) : SqT K H' a xs := by
  rcases h with h | h
  · exact .inl (rd_fr f hw h)
  · exact .inr h
theorem snocI {l : List Int} {x : Int} : l.map V.int ++ [V.int x] = (l ++ [x]).map V.int := by rw [List.map_append]; rfl
theorem upd_snocI {H : Hp} {o : Addr} {u : HO} {l : List Int} {x : Int} : upd (upd H o u) o (.lst (l.map V.int ++ [V.int x])) = upd H o (.lst ((l ++ [x]).map V.int)) := by rw [upd_upd, snocI]
theorem cutV_of {xs : List V} {lo hi : Int} {a b : Nat} (h1 : lo = (a : Int)) (h2 : hi = (b : Int)) (ha : a ≤ b) (hb : b ≤ xs.length) : cutV xs (some lo) (some hi) = (xs.drop a).take (b - a) := by
  subst h1 h2
  unfold cutV
  rw [show HT.sIx xs.length 0 (some (a : Int)) = min a xs.length from HT.sIx_nat _ _ _, show HT.sIx xs.length xs.length (some (b : Int)) = min b xs.length from HT.sIx_nat _ _ _, Nat.min_eq_left hb, Nat.min_eq_left (Nat.le_trans ha hb)]
theorem cutV_to {xs : List V} {hi : Int} {b : Nat} (h : hi = (b : Int)) : cutV xs none (some hi) = xs.take b := by
  subst h
  unfold cutV
  rw [show HT.sIx xs.length 0 none = 0 from HT.sIx_none _ _, show HT.sIx xs.length xs.length (some (b : Int)) = min b xs.length from HT.sIx_nat _ _ _]
  show (xs.drop 0).take (min b xs.length - 0) = _
  rw [List.drop_zero, Nat.sub_zero]
  by_cases h : b ≤ xs.length
  · rw [Nat.min_eq_left h]
  · rw [Nat.min_eq_right (by omega), List.take_of_length_le (Nat.le_refl _), List.take_of_length_le (by omega)]
theorem cutV_from {xs : List V} {lo : Int} {a : Nat} (h : lo = (a : Int)) : cutV xs (some lo) none = xs.drop a := by
  subst h
  unfold cutV
  rw [show HT.sIx xs.length xs.length none = xs.length from HT.sIx_none _ _, show HT.sIx xs.length 0 (some (a : Int)) = min a xs.length from HT.sIx_nat _ _ _]
  by_cases h : a ≤ xs.length
  · rw [Nat.min_eq_left h, List.take_of_length_le (by rw [List.length_drop]; omega)]
  · rw [Nat.min_eq_right (by omega), List.drop_eq_nil_of_le (Nat.le_refl _), List.drop_eq_nil_of_le (by omega), List.take_nil]
theorem atI_int {ns : List Int} {i : Int} {j : Nat} (e : i = (j : Int)) (h : j < ns.length) : atI (ns.map V.int) i = some (.int (ns.getD j 0)) := by
  subst e
  refine atI_nat ?_
  rw [List.getElem?_map, List.getElem?_eq_getElem h, List.getD_eq_getElem?_getD, List.getElem?_eq_getElem h]
  rfl
section
variable {X : Cx}
/-- a sign n times -/
theorem rep_fold (c : Nat) : ∀ (n : Nat) (acc : Array Nat), (List.replicate n #[c]).foldl (· ++ ·) acc = acc ++ (List.replicate n c).toArray
  | 0, acc => by simp
  | n + 1, acc => by
    rw [List.replicate_succ, List.foldl_cons, rep_fold c n, List.replicate_succ]
    apply Array.ext'
    simp
theorem op_mul_sign : OpR X (binaryOp .Mult) (fun x y H Q => ∃ (c : Nat) (n : Int), x = .str ⟨#[c]⟩ ∧ y = .int n ∧ 1 ≤ n ∧ n ≤ 1000 ∧ Q (.str ⟨(List.replicate n.toNat c).toArray⟩) H) := by
  intro pins s σ H x y v u Q I rx ry h
  obtain ⟨c, n, rfl, rfl, h1, h2, q⟩ := h
  obtain ⟨t, rfl⟩ := rx
  obtain ⟨t', rfl⟩ := ry
  have z : ∀ k : Nat, k ≤ 1000 → k ≤ sizeLine := fun k h => Nat.le_of_lt (small1000 h)
  refine P.mul_str ?_ (fun _ _ => ?_) (fun _ _ => ?_) ?_
  · have a1 : ¬ n < -(2 ^ 63 : Int) := by omega
    have a2 : ¬ n ≥ 2 ^ 63 := by omega
    rw [decide_eq_false a1, decide_eq_false a2]
    rfl
  · have e1 : ((Str.length ⟨#[c]⟩ : Nat) : Int) = 1 := rfl
    rw [e1]
    have : (1 : Int) ≤ (2 ^ 63 - 1) / n := by
      rw [Int.le_ediv_iff_mul_le (by omega)]
      omega
    omega
  · show decide ((Str.length ⟨#[c]⟩) * n.toNat > sizeLine) = false
    have := z n.toNat (by omega)
    have e1 : Str.length ⟨#[c]⟩ = 1 := rfl
    rw [e1]
    exact decide_eq_false (by omega)
  · rw [if_neg (by omega)]
    by_cases e : (n == 1 || Str.length ⟨#[c]⟩ == 0) = true
    · rw [if_pos e]
      have en : n = 1 := by
        simp at e
        rcases e with e | e
        · exact e
        · cases e
      subst en
      exact ⟨.str ⟨#[c]⟩, H, I, ⟨t, rfl⟩, q⟩
    · rw [if_neg e]
      have er : (List.replicate n.toNat (#[c] : Array Nat)).foldl (· ++ ·) #[] = (List.replicate n.toNat c).toArray := by
        rw [rep_fold]
        simp
      refine ⟨?_, ?_⟩
      · show Str.length ⟨(List.replicate n.toNat (#[c] : Array Nat)).foldl (· ++ ·) #[]⟩ ≤ sizeLine
        rw [er]
        show (List.replicate n.toNat c).toArray.size ≤ sizeLine
        rw [List.size_toArray, List.length_replicate]
        exact z _ (by omega)
      · show _
        rw [er]
        exact ⟨.str ⟨(List.replicate n.toNat c).toArray⟩, H, I.tok _, ⟨_, rfl⟩, q⟩
end

/-! ### the rules with the written part named -/
section
variable {X : Cx} {K : PySem.W.Frag}
theorem bmK {e : Expr} {T : String} {r : V → List V → Hp → VK → Prop} {to_ : TE} {t : TA} (h : PE X e (tBM X.K T r to_ t)) (hK : X.K = K := by rfl) : PE X e (tBM K T r to_ t) := by subst hK; exact h
theorem bm0K {e : Expr} {T : String} {r : V → List V → Hp → VK → Prop} {to_ : TE} (h : PE X e (tBM0 X.K T r to_)) (hK : X.K = K := by rfl) : PE X e (tBM0 K T r to_) := by subst hK; exact h
theorem fldK {e : Expr} {ta : TE} {f : Str} (h : PE X e (tFld X.K ta f)) (hK : X.K = K := by rfl) : PE X e (tFld K ta f) := by subst hK; exact h
theorem sfldK {e : Stmt} {ta tv : TE} {f : Str} (h : PS X e (sFld X.K ta tv f)) (hK : X.K = K := by rfl) : PS X e (sFld K ta tv f) := by subst hK; exact h
theorem gtupK {e : Expr} {n : Nat} {t : TGs} (h : PG X e (gTup X.K n t)) (hK : X.K = K := by rfl) : PG X e (gTup K n t) := by subst hK; exact h
theorem gunlK {e : Expr} {n : Nat} {t : TGs} (h : PG X e (gUnl X.K n t)) (hK : X.K = K := by rfl) : PG X e (gUnl K n t) := by subst hK; exact h
theorem ilistK {tg l : Expr} {tl : TE} (h : PI X tg l (iList X.K tl)) (hK : X.K = K := by rfl) : PI X tg l (iList K tl) := by subst hK; exact h
theorem itupK {tg l : Expr} {tl : TE} (h : PI X tg l (iTup X.K tl)) (hK : X.K = K := by rfl) : PI X tg l (iTup K tl) := by subst hK; exact h
theorem ienumK {tg l : Expr} {tl : TA} (h : PI X tg l (iEnum X.K tl)) (hK : X.K = K := by rfl) : PI X tg l (iEnum K tl) := by subst hK; exact h
theorem izipK {tg l : Expr} {tl : TA} (h : PI X tg l (iZip X.K tl)) (hK : X.K = K := by rfl) : PI X tg l (iZip K tl) := by subst hK; exact h
theorem ix_listK (hK : X.K = K := by rfl) : IxR X (rIxL K) := by subst hK; exact ix_list
theorem ix_tupK (hK : X.K = K := by rfl) : IxR X (rIxT K) := by subst hK; exact ix_tup
theorem sl_listK (hK : X.K = K := by rfl) : SlR X (rSlL K) := by subst hK; exact sl_list
theorem sl_tupK (hK : X.K = K := by rfl) : SlR X (rSlA K) := by subst hK; exact sl_tupA
theorem op_inK (hK : X.K = K := by rfl) : OpR X (compareOp .In) (rIn K false) := by subst hK; exact op_in_seq
theorem op_notInK (hK : X.K = K := by rfl) : OpR X (compareOp .NotIn) (rIn K true) := by subst hK; exact op_notIn_seq
theorem op_eqK (hu : X.A.units + 64 < cLine) (hK : X.K = K := by rfl) : OpR X (compareOp .Eq) (rEqD K) := by subst hK; exact op_eqD hu
theorem op_neK (hu : X.A.units + 64 < cLine) (hK : X.K = K := by rfl) : OpR X (compareOp .NotEq) (rNeD K) := by subst hK; exact op_neD hu
theorem op_catTK (hK : X.K = K := by rfl) : OpR X (binaryOp .Add) (rCatA K) := by subst hK; exact op_catA
/-- len of a list or a tuple -/
def rLenK (K : PySem.W.Frag) : List V → Hp → VK → Prop := fun xs H Q => ∃ p ys, xs = [.ref p] ∧ (SqL K H p ys ∨ SqT K H p ys) ∧ Q (.int ys.length) H
theorem call_lenK (hK : X.K = K := by rfl) : CallR X (.builtin "len") (rLenK K) := by subst hK; exact call_len_seq
theorem cr_anyIK (hc : X.calm = true) (hK : X.K = K := by rfl) : CallR X (.builtin "any") (rAnyI K) := by subst hK; exact cr_anyI hc
theorem cr_anyK (hc : X.calm = true) (hK : X.K = K := by rfl) : CallR X (.builtin "any") (rAny K) := by subst hK; exact cr_any hc
theorem cr_allK (hc : X.calm = true) (hK : X.K = K := by rfl) : CallR X (.builtin "all") (rAll K) := by subst hK; exact cr_all hc
theorem call_isiK (hK : X.K = K := by rfl) : CallR X (.builtin "isinstance") (rIsi K) := by subst hK; exact call_isi
/-- sep.join(xs) -/
def rJoinK (K : PySem.W.Frag) : V → List V → Hp → VK → Prop := fun x xs H Q => ∃ a p, ∃ ys : List Str, x = .str a ∧ xs = [.ref p] ∧ (SqL K H p (ys.map V.str) ∨ SqT K H p (ys.map V.str)) ∧ (ys.map (·.length)).sum + ys.length * a.length ≤ 16777216 ∧ Q (.str (Txt.join a ys)) H
theorem joinK {e : Expr} {to_ te : TE} (h : PE X e (tM1 (rJoinK X.K) to_ te)) (hK : X.K = K := by rfl) : PE X e (tM1 (rJoinK K) to_ te) := by subst hK; exact h
/-- truth of any value -/
def tTruK (K : PySem.W.Frag) (ta : TE) : TT := fun σ H Q => ta σ H fun x H' => ∃ k, TruV K x H' k ∧ Q k H'
theorem truK {e : Expr} {ta : TE} (h : PT X e (tTruK X.K ta)) (hK : X.K = K := by rfl) : PT X e (tTruK K ta) := by subst hK; exact h
/-- list(xs), tuple(xs) -/
def rListOfK (K : PySem.W.Frag) : List V → Hp → VK → Prop := fun xs H Q => ∃ p ys, xs = [.ref p] ∧ (SqL K H p ys ∨ SqT K H p ys) ∧ ∀ l, H l = none → Q (.ref l) (upd H l (.lst ys))
theorem call_listK (hK : X.K = K := by rfl) : CallR X (.type "list") (rListOfK K) := by subst hK; exact call_list_of
end
theorem small100k {n : Nat} (h : n ≤ 100000) : n < sizeLine := Nat.lt_of_le_of_lt h (by decide)
/-! ### data of any depth -/
def Sh (n : Nat) (d : PyData) : Prop := d.canLay0 = true ∧ d.depth ≤ n
theorem sh_int {n : Nat} (i : Int) : Sh n (.int i) := ⟨rfl, Nat.zero_le _⟩
theorem sh_non {n : Nat} : Sh n .none := ⟨rfl, Nat.zero_le _⟩
theorem sh_bool {n : Nat} (b : Bool) : Sh n (.bool b) := ⟨rfl, Nat.zero_le _⟩
theorem sh_str {n : Nat} {z : Str} (h : ∀ c ∈ z.cps.toList, c < 0x110000) : Sh n (.str z) := by
  refine ⟨?_, Nat.zero_le _⟩
  show z.cps.all (· < 0x110000) = true
  rw [← Array.all_toList, List.all_eq_true]
  intro c hc
  exact decide_eq_true (h c hc)
theorem sh_all {n : Nat} : ∀ {ds : List PyData}, (∀ d ∈ ds, Sh n d) → PyData.canLayAll0 ds = true ∧ PyData.depthAll ds ≤ n
  | [], _ => ⟨rfl, Nat.zero_le _⟩
  | d :: ds, h => by
    obtain ⟨a, b⟩ := h d List.mem_cons_self
    obtain ⟨c, e⟩ := sh_all (ds := ds) fun x hx => h x (List.mem_cons_of_mem _ hx)
    refine ⟨?_, ?_⟩
    · show (d.canLay0 && PyData.canLayAll0 ds) = true
      rw [a, c]
      rfl
    · show max d.depth (PyData.depthAll ds) ≤ n
      omega
theorem sh_list {n : Nat} {ds : List PyData} (h : ∀ d ∈ ds, Sh n d) : Sh (n + 1) (.list ds) := ⟨(sh_all h).1, by show PyData.depthAll ds + 1 ≤ n + 1; have := (sh_all h).2; omega⟩
theorem sh_tuple {n : Nat} {ds : List PyData} (h : ∀ d ∈ ds, Sh n d) : Sh (n + 1) (.tuple ds) := ⟨(sh_all h).1, by show PyData.depthAll ds + 1 ≤ n + 1; have := (sh_all h).2; omega⟩
theorem Sh.shaped {n : Nat} {d : PyData} (h : Sh n d) (hn : n ≤ 64) : SeqAt.shaped d = true := by
  unfold SeqAt.shaped
  rw [h.1, decide_eq_true (Nat.le_trans h.2 hn)]
  rfl
theorem Sh.eqv {n : Nat} {d : PyData} (h : Sh n d) : PyData.eqv d d = true := SeqAt.eqv_refl d h.1
theorem sh_ints {n : Nat} (ns : List Int) : Sh (n + 1) (.list (ns.map .int)) := sh_list fun d hd => by
  obtain ⟨i, _, rfl⟩ := List.mem_map.mp hd
  exact sh_int i
theorem dpAll_ints {K : PySem.W.Frag} {H : Hp} : ∀ ns : List Int, DpAll K H (ns.map V.int) (ns.map .int)
  | [] => .nil
  | n :: ns => .cons (.int n) (dpAll_ints ns)
theorem dp_ints {K : PySem.W.Frag} {H : Hp} {a : Addr} {ns : List Int} (h : SqL K H a (ns.map V.int)) : Dp K H (.ref a) (.list (ns.map .int)) := .lst h (dpAll_ints ns)
theorem dpAll_refs {K : PySem.W.Frag} {H : Hp} : ∀ {as : List Addr} {ds : List PyData}, as.length = ds.length → (∀ (i : Nat) a d, as[i]? = some a → ds[i]? = some d → Dp K H (.ref a) d) → DpAll K H (as.map V.ref) ds
  | [], [], _, _ => .nil
  | [], _ :: _, h, _ => by simp at h
  | _ :: _, [], h, _ => by simp at h
  | a :: as, d :: ds, h, f => .cons (f 0 a d rfl rfl) (dpAll_refs (by simpa using h) fun i x y hx hy => f (i + 1) x y (by simpa using hx) (by simpa using hy))
theorem ne_f {n : Nat} {d : PyData} (s : Sh n d) : V.bl (!PyData.eqv d d) = V.bl false := by rw [s.eqv]; rfl
theorem eq_t {n : Nat} {d : PyData} (s : Sh n d) : V.bl (PyData.eqv d d) = V.bl true := by rw [s.eqv]

/-! ### expressions that make a list, whatever stands -/
def MkL (te : TE) (σ : L2.St) (xs : List V) : Prop := ∀ (H : Hp) (Q : VK), (∀ (p : Addr) (H' : Hp), Same H H' → H p = none → H' p = some (.lst xs) → Q (.ref p) H') → te σ H Q
theorem mk_lst {ta : TA} {σ : L2.St} {vs : List V} (h : ∀ (H : Hp) (Q : List V → Hp → Prop), Q vs H → ta σ H Q) (hl : vs.length ≤ sizeLine) : MkL (tLst ta) σ vs := fun H Q q =>
  h H _ ⟨hl, fun p hp => q p _ (nws hp (Same.refl H)) hp upd_same⟩
theorem mk_rep {ta tb : TE} {σ : L2.St} {vs : List V} {k : Nat} (h : MkL ta σ vs) (hb : ∀ (H : Hp) (Q : VK), Q (.int k) H → tb σ H Q) (hl : vs.length * k ≤ sizeLine) (hk : k < 2 ^ 62) : MkL (tOp rRep ta tb) σ (List.replicate k vs).flatten := fun H Q q =>
  h H _ fun p H1 s n c => hb H1 _ ⟨p, k, vs, rfl, rfl, c, by omega, by omega, by rw [Int.toNat_natCast]; exact hl, fun p2 h2 => q p2 _ (nws h2 s) (s.free h2) (by rw [Int.toNat_natCast]; exact upd_same)⟩
theorem mk_cat {ta tb : TE} {σ : L2.St} {vs ws : List V} (ha : MkL ta σ vs) (hb : MkL tb σ ws) (hl : vs.length + ws.length ≤ sizeLine) : MkL (tOp rCat ta tb) σ (vs ++ ws) := fun H Q q =>
  ha H _ fun p H1 s n c => hb H1 _ fun p2 H2 s2 n2 c2 => ⟨p, p2, vs, ws, rfl, rfl, s2 _ _ c, c2, hl, fun p3 h3 => q p3 _ (nws h3 (s.trans s2)) ((s.trans s2).free h3) upd_same⟩
theorem bl_same {a b : Bool} (h : a = b) : V.bl (!decide (V.bl a = V.bl b)) = V.bl false := by
  subst h
  rw [decide_eq_true rfl]
  rfl

section
open PySem PySem.Spec PyProof.Rows L2
variable {P : Program} {w : World} {K : PySem.W.Frag} {mg : Str → Option Value} {base : Heap}
/-! ### repr of data -/
structure Sr (n m : Nat) (d : PyData) : Prop where
  sh : Sh n d
  wt : PyData.weight d ≤ m
  sm : PyData.intsShort 13 d = true
  sw : d.showable = true
  nd : d.hasDict = false
theorem Sr.mono {n m n' m' : Nat} {d : PyData} (h : Sr n m d) (h1 : n ≤ n') (h2 : m ≤ m') : Sr n' m' d := ⟨⟨h.sh.1, Nat.le_trans h.sh.2 h1⟩, Nat.le_trans h.wt h2, h.sm, h.sw, h.nd⟩
theorem log2_lt {n k : Nat} (h : n < 2 ^ k) (hk : 0 < k) : n.log2 < k := by
  by_cases e : n = 0
  · subst e
    exact hk
  · exact (Nat.log2_lt e).mpr h
theorem sr_int {n : Nat} {i : Int} (h : i.natAbs < 10 ^ 12) : Sr n 40 (.int i) := by
  have hl : i.natAbs.log2 < 40 := log2_lt (Nat.lt_of_lt_of_le h (by decide)) (by decide)
  refine ⟨sh_int i, ?_, ?_, ?_, rfl⟩
  · show (if i == 0 then 0 else i.natAbs.log2 + 1) ≤ 40
    split <;> omega
  · have := PyData.intsShortAll_ints [i] (fun x hx => by rw [List.mem_singleton.mp hx]; exact h)
    simpa [PyData.intsShortAll] using this
  · exact decide_eq_true (by omega)
theorem sr_non {n : Nat} : Sr n 0 .none := ⟨sh_non, Nat.le_refl _, rfl, rfl, rfl⟩
theorem sr_bool {n : Nat} (b : Bool) : Sr n 0 (.bool b) := ⟨sh_bool b, Nat.le_refl _, rfl, rfl, rfl⟩
theorem sr_str {n : Nat} {z : Str} (h : ∀ c ∈ z.cps.toList, c < 0x110000) : Sr n z.length (.str z) := ⟨sh_str h, Nat.le_refl _, rfl, rfl, rfl⟩
theorem sr_all {n m : Nat} : ∀ {ds : List PyData}, (∀ d ∈ ds, Sr n m d) → PyData.weightAll ds ≤ ds.length * (m + 1) ∧ PyData.intsShortAll 13 ds = true ∧ PyData.showableAll ds = true ∧ PyData.hasDictAll ds = false
  | [], _ => ⟨Nat.zero_le _, rfl, rfl, rfl⟩
  | d :: ds, h => by
    have h1 := h d List.mem_cons_self
    obtain ⟨a, b, c, e⟩ := sr_all (ds := ds) fun x hx => h x (List.mem_cons_of_mem _ hx)
    refine ⟨?_, ?_, ?_, ?_⟩
    · show d.weight + 1 + PyData.weightAll ds ≤ (ds.length + 1) * (m + 1)
      have := h1.wt
      rw [Nat.succ_mul]
      omega
    · show (PyData.intsShort 13 d && PyData.intsShortAll 13 ds) = true
      rw [h1.sm, b]
      rfl
    · show (d.showable && PyData.showableAll ds) = true
      rw [h1.sw, c]
      rfl
    · show (d.hasDict || PyData.hasDictAll ds) = false
      rw [h1.nd, e]
      rfl
theorem sr_list {n m L : Nat} {ds : List PyData} (h : ∀ d ∈ ds, Sr n m d) (hl : ds.length ≤ L) : Sr (n + 1) (L * (m + 1)) (.list ds) := by
  obtain ⟨a, b, c, e⟩ := sr_all h
  exact ⟨sh_list fun d hd => (h d hd).sh, Nat.le_trans a (Nat.mul_le_mul_right _ hl), b, c, e⟩
theorem sr_tuple {n m L : Nat} {ds : List PyData} (h : ∀ d ∈ ds, Sr n m d) (hl : ds.length ≤ L) : Sr (n + 1) (L * (m + 1)) (.tuple ds) := by
  obtain ⟨a, b, c, e⟩ := sr_all h
  exact ⟨sh_tuple fun d hd => (h d hd).sh, Nat.le_trans a (Nat.mul_le_mul_right _ hl), b, c, e⟩
theorem sr_ints {L : Nat} {ns : List Int} (h : ∀ i ∈ ns, i.natAbs < 10 ^ 12) (hl : ns.length ≤ L) : Sr 1 (L * 41) (.list (ns.map .int)) := sr_list (n := 0) (fun d hd => by
  obtain ⟨i, hi, rfl⟩ := List.mem_map.mp hd
  exact sr_int (h i hi)) (by rw [List.length_map]; exact hl)
theorem Sr.fits {n m : Nat} {d : PyData} (h : Sr n m d) (hn : n ≤ 60) (hm : m ≤ 2 ^ 20) : d.shown.length ≤ sizeLine := by
  refine PyData.shown_fits_of_layable0 (B := 13) (by decide) (by decide) ?_ h.sm
  show (d.canLay0 && decide (d.depth ≤ 64) && decide (d.weight ≤ 2 ^ 20)) = true
  rw [h.sh.1, decide_eq_true (Nat.le_trans h.sh.2 (by omega)), decide_eq_true (Nat.le_trans h.wt hm)]
  rfl
section
variable {X : Cx} {K : PySem.W.Frag}
def rReprD (K : PySem.W.Frag) : List V → Hp → VK → Prop := fun xs H Q => ∃ (x : V) (d : PyData) (n m : Nat), xs = [x] ∧ Dp K H x d ∧ Sr n m d ∧ n ≤ 60 ∧ m ≤ 2 ^ 20 ∧ Q (.str d.shown) H
theorem call_repr (hr : X.A.guards = some [] ∧ X.A.units + 64 < cLine) (hK : X.K = K := by rfl) : CallR X (.builtin "repr") (rReprD K) := by
  subst hK
  intro pins s σ H xs us Q I r h
  obtain ⟨x, d, n, m, rfl, dp, sr, hn, hm, q⟩ := h
  obtain ⟨u, rfl, ru⟩ := vals1 r
  have hz := sr.fits hn hm
  have hd := sr.sh.2
  obtain ⟨as, rd⟩ := Dp.reads I d x u dp ru
  have done : ∀ a, u = .ref a → wpAny (model X.prog X.w) X.A (call (.builtin "repr") [u]) (EP X pins σ Q) X.xe s := fun a e => by
    subst e
    refine repr_of_reads' rd sr.sw (PyData.noDict_hsm sr.nd) hr.1 (by have := hr.2; omega) (fun b o e => e) (fun h' u tk hk => ?_) hz
    exact ⟨.str d.shown, H, I.kept (t' := tk) hk, ⟨u, rfl⟩, q⟩
  cases dp with
  | non =>
    cases (show u = Value.none from ru)
    exact PySem.P.repr_of_none ⟨.str _, H, I.tok _, ⟨_, rfl⟩, q⟩
  | bl b =>
    cases (show u = Value.bool b from ru)
    exact PySem.P.repr_of_bool ⟨.str _, H, I.tok _, ⟨_, rfl⟩, q⟩
  | int i =>
    obtain ⟨t, e⟩ := (show ∃ t, u = Value.int i t from ru)
    cases e
    exact PySem.P.repr_of_int (of_decide_eq_true sr.sw) ⟨.str _, H, I.tok _, ⟨_, rfl⟩, q⟩
  | str z =>
    obtain ⟨t, e⟩ := (show ∃ t, u = Value.str z t from ru)
    cases e
    exact PySem.P.repr_of_str ⟨.str _, H, I.tok _, ⟨_, rfl⟩, q⟩ hz
  | lst _ _ => exact done _ ru
  | tup _ _ => exact done _ ru
end

end
section
open PySem PySem.Spec PyProof.Rows L2
variable {P : Program} {w : World} {K : PySem.W.Frag} {mg : Str → Option Value} {base : Heap}
/-! ### list.extend of a tuple -/
set_option maxRecDepth 8000 in
theorem meets_extT (l : Addr) (xs : Array Value) (n : Nat) (b : Addr) (ys : Array Value) (m : Nat) (dd : Option Addr) (sl : Array (Option Value)) (h0 : ¬(!xs.isEmpty && Builtin.List.listTooLong (xs.size + ys.size)) = true) (h1 : xs.size ≤ sizeLine)
    (h2 : xs.size + ys.size ≤ sizeLine + 1) : Meets (Builtin.«list.extend» ⟨[.ref l, .ref b], []⟩) (fun _ R s => s.heap.get? l = some { cls := .type "list", dict := none, data := .seq xs n, slots := #[] } ∧
      s.heap.get? b = some { cls := .type "tuple", dict := dd, data := .seq ys m, slots := sl } ∧ R (.ok (.ret Value.none)) { s with heap := s.heap.update l (Obj.mapSeq fun x => x ++ ys), toks := s.toks }) := by
  refine .of_wp fun prog w A R s h => ?_
  obtain ⟨hp, gs, dr, tk, os⟩ := s
  obtain ⟨hl, hb, q⟩ := h
  have g1 := AutoSeq1.idx_int
  have g2 := AutoSeq1.sub_tuple_tuple
  have g3 := AutoSeq1.sub_list_list
  have g4 := AutoSeq1.sub_tuple_list
  have g5 := AutoSeq1.sub_list_tuple
  have hz : (xs ++ ys).size ≤ sizeLine + 1 := by rw [Array.size_append]; exact h2
  wp_walk using (wpAny_updateSeq hl rfl (hz := h1) (_hz' := hz)), AutoSeq1.wpAny_loadPart' hl, AutoSeq1.wpAny_loadPart' hb
  exact ⟨_, rfl, q⟩
section
variable {X : Cx} {K : PySem.W.Frag}
def rExtT (K : PySem.W.Frag) : V → List V → Hp → VK → Prop := fun x vs H Q => ∃ l b xs zs, x = .ref l ∧ vs = [.ref b] ∧ H l = some (.lst xs) ∧ SqT K H b zs ∧ xs.length + zs.length ≤ sizeLine ∧ Q .non (upd H l (.lst (xs ++ zs)))
theorem mt_extT (hK : X.K = K := by rfl) : MtM X "list.extend" (rExtT K) := by
  subst hK
  intro pins s σ H x vs v us Q I rx rv h
  obtain ⟨l, b, xs, zs, rfl, rfl, hH, hB, hz, q⟩ := h
  cases rx
  obtain ⟨u, rfl, ru⟩ := rv.one
  cases ru
  obtain ⟨_, its, n, r, hl, e⟩ := I.lstM hH
  obtain ⟨ys, r2, ⟨o, e2, hc, m, hd⟩, _⟩ := I.tuple hB
  have hl2 := r2.length
  obtain ⟨cls, dd, data, sl⟩ := o
  obtain rfl : cls = .type "tuple" := hc
  obtain rfl : data = .seq ys.toArray m := hd
  have hsz : its.toArray.size + ys.toArray.size ≤ sizeLine := by rw [List.size_toArray, List.size_toArray]; omega
  have ok : ¬ (!its.toArray.isEmpty && Builtin.List.listTooLong (its.toArray.size + ys.toArray.size)) = true := by
    rw [notLongL hsz, Bool.and_false]
    exact Bool.false_ne_true
  refine call_meets F.slot_list_extend ⟨_, e, rfl⟩ F.entry_list_extend (F.args_list_extend_2 _ _) (meets_extT l its.toArray n b ys.toArray m dd sl ok (by rw [List.size_toArray]; omega) (by omega)) ⟨e, e2, ?_⟩
  exact ⟨.non, _, I.lset (its' := its ++ ys) hH e (by simp) (r.append r2) (by rw [List.length_append]; omega), rfl, q⟩
end
/-! ### sorted of a dict whose keys are pairs of ints -/
section
variable {X : Cx}
theorem pairedGet {α β : Type} {F : α → β → Prop} : ∀ {l : List α} {m : List β} {j : Nat} {x : α}, Paired F l m → l[j]? = some x → ∃ y, m[j]? = some y ∧ F x y
  | _, _, _, _, .nil, h => by simp at h
  | _, _, 0, _, .cons r _, h => ⟨_, rfl, by cases Option.some.inj h; exact r⟩
  | _, _, j + 1, x, .cons _ t, h => pairedGet (j := j) (x := x) t (by simpa using h)
def keyP (k : List L2.Key) : Int × Int := match k with
  | [.inl a, .inl b] => (a, b)
  | _ => (0, 0)
/-- the keys are pairs of ints; the new list: their tuples, rising -/
def rSortDT : List V → Hp → VK → Prop := fun vs H Q => ∃ (d : Addr) (kvs : List (List L2.Key × V)), vs = [V.ref d] ∧ Rd H d (.dT kvs) ∧ (∀ kv ∈ kvs, ∃ a b : Int, kv.1 = [.inl a, .inl b]) ∧
  ∀ (bs : List (Addr × (Int × Int))) (p : Addr), (bs.map (·.2)).Perm (kvs.map fun kv => keyP kv.1) → bs.Pairwise (fun x y => SrtO.lexB y.2 x.2 = false) → (∀ x ∈ bs, H x.1 = some (.tup [.int x.2.1, .int x.2.2])) → H p = none → Q (.ref p) (upd H p (.lst (bs.map fun x => V.ref x.1)))
theorem cr_sortDT (hc : X.calm = true) : CallR X (.builtin "sorted") rSortDT := by
  intro pins s σ H xs us Q I r h
  obtain ⟨d, kvs, rfl, hd, hk, q⟩ := h
  obtain ⟨u, rfl, rx⟩ := vals1 r
  cases rx
  obtain ⟨z, hs, ks, pr, o, es, ep, ho, hx, hdt, he, hn⟩ := (show ObjOk X.prog X.w H s.heap d (.dT kvs) from hd.ok I.hok)
  have l1 : es.size = ks.length := by
    have := congrArg List.length he
    rw [Array.length_toList, List.length_map] at this
    exact this
  have l2 : kvs.length = ks.length := Paired.length pr
  have get : ∀ (j : Nat) (q : List L2.Key × Addr × Value), ks[j]? = some q → ∃ v, kvs[j]? = some (q.1, v) ∧ H q.2.1 = some (.tup (q.1.map kV)) := by
    intro j x hj
    have hjl : j < kvs.length := by have := (List.getElem?_eq_some_iff.mp hj).1; omega
    obtain ⟨y, hy, e1, e2, _⟩ := pairedGet pr (List.getElem?_eq_getElem hjl)
    cases hj.symm.trans hy
    exact ⟨kvs[j].2, by rw [List.getElem?_eq_getElem hjl, ← e1], by rw [← e1]; exact e2⟩
  let kf : Value → Int × Int := fun v => match v with
    | .ref a => (match H a with | some (.tup [.int x, .int y]) => (x, y) | _ => (0, 0))
    | _ => (0, 0)
  refine Calls.call_function_entry PyProof.Rows.kind_sorted PyProof.Rows.plain_sorted PyProof.Rows.entry_sorted (PyProof.Rows.args_sorted1 _) ?_
  unfold Builtin.«sorted»
  refine wpAny_bind (m := checkCount "sorted" 1 1 _) (wpAny_pure ?_)
  refine wpAny_bind (PySem.W.kdu_collect (A := X.A.in1) (kdl_raw hs hx hdt) (I.ok.hd hc) ho (by omega) fun h' tk acc kp it => ?_)
  have ea : acc.toList = ks.map fun x => Value.ref x.2.1 := by
    have hl : acc.toList.length = ks.length := by rw [Array.length_toList, it.1]; exact l1
    apply List.ext_getElem?
    intro j
    rw [List.getElem?_map]
    cases hj : acc.toList[j]? with
    | none => rw [List.getElem?_eq_none (by rw [← hl]; exact List.getElem?_eq_none_iff.mp hj)]; rfl
    | some v =>
      obtain ⟨en, hen, hv⟩ := it.2 j v (by rw [← Array.getElem?_toList]; exact hj)
      have qe : es.toList[j]? = some en := by rw [Array.getElem?_toList]; exact hen
      rw [he, List.getElem?_map] at qe
      cases hb : ks[j]? with
      | none => rw [hb] at qe; cases qe
      | some b =>
        rw [hb] at qe
        have e2 := Option.some.inj qe
        rw [hv, ← e2]
        rfl
  have I1 : Inv X pins σ H { s with heap := h', toks := tk } := I.kept kp
  have hal : acc.toList.length = ks.length := by rw [ea, List.length_map]
  have hzs : acc.toList.length ≤ sizeLine := by rw [hal, ← l2]; exact z
  -- each collected key: its tuple of two ints
  have keyAt : ∀ v ∈ acc.toList, ∃ (a : Addr) (x y : Int), v = .ref a ∧ H a = some (.tup [.int x, .int y]) := fun v hv => by
    rw [ea] at hv
    obtain ⟨b, hb, rfl⟩ := List.mem_map.mp hv
    obtain ⟨j, hj⟩ := List.getElem?_of_mem hb
    obtain ⟨w', hw, hH⟩ := get j b hj
    obtain ⟨x, y, e⟩ := hk _ (List.mem_of_getElem? hw)
    have e : b.1 = [.inl x, .inl y] := e
    rw [e] at hH
    exact ⟨b.2.1, x, y, rfl, hH⟩
  have kfAt : ∀ {a : Addr} {x y : Int}, H a = some (.tup [.int x, .int y]) → kf (.ref a) = (x, y) := fun {a x y} e => by
    show (match H a with | some (.tup [.int x, .int y]) => (x, y) | _ => (0, 0)) = _
    rw [e]
  refine wpAny_bind (wpAny_newList ?_ hzs)
  have hoL : (h'.push (seqObj "list" acc.toList.toArray 0)).get? h'.objs.size = some (seqObj "list" acc.toList.toArray 0) := Heap.get?_push_size _ rfl
  show wpAny _ _ _ _ _ { s with heap := h'.push (seqObj "list" acc.toList.toArray 0), toks := tk }
  have pairs : ∀ v ∈ acc.toList, Srt.IsPair (h'.push (seqObj "list" acc.toList.toArray 0)) v (kf v).1 (kf v).2 := fun v hv => by
    obtain ⟨a, x, y, rfl, hH⟩ := keyAt v hv
    rw [kfAt hH]
    obtain ⟨_, its, r2, o2, ho2, hc2, n2, hd2⟩ := I1.hok _ _ hH
    obtain ⟨u1, u2, rfl, ri, rj⟩ := vals2 r2
    obtain ⟨t1, rfl⟩ := ri
    obtain ⟨t2, rfl⟩ := rj
    exact ⟨a, o2, t1, t2, n2, rfl, Heap.get?_push_of_some _ ho2, hc2, hd2⟩
  refine wpAny_bind (wpAny_holding (wpAny_call_entry PyProof.Rows.slot_list_sort ⟨_, hoL, rfl⟩ PyProof.Rows.entry_list_sort (SrtO.list_sort_ord (SrtO.swo_lex kf) hoL hzs
    (fun h2 => SrtO.pairs_sortableO (by omega) pairs fun o e => ?_) fun out hs1 hb1 => ⟨_, rfl, ?_⟩) (PyProof.Rows.args_list_sort _)))
  · have e' : some o = some (seqObj "list" acc.toList.toArray 0) := e.symm.trans hoL
    cases e'
    intro c
    exact absurd (Value.type.inj c) (by decide)
  · have mem : ∀ v ∈ out, v ∈ acc.toList := fun v hv => hb1.perm.mem_iff.mp hv
    obtain ⟨e', he'⟩ := PyProof.Rows.sortedHeap_at (vs := acc.toList) (out := out.toArray) hoL
    let adr : Value → Addr := fun v => match v with | .ref a => a | _ => 0
    have back : out.map (fun v => Value.ref (adr v)) = out := by
      conv => rhs; rw [← List.map_id out]
      refine List.map_congr_left fun v hv => ?_
      obtain ⟨a, x, y, rfl, _⟩ := keyAt v (mem v hv)
      rfl
    have rv : Vals ((out.map fun v => (adr v, kf v)).map fun x => V.ref x.1) out := by
      rw [List.map_map]
      have : ∀ l : List Value, (∀ v ∈ l, ∃ a, v = Value.ref a) → Vals (l.map ((fun x : Addr × (Int × Int) => V.ref x.1) ∘ fun v => (adr v, kf v))) l := fun l => by
        induction l with
        | nil => exact fun _ => .nil
        | cons v l ih =>
          intro hl
          obtain ⟨a, rfl⟩ := hl v List.mem_cons_self
          exact .cons rfl (ih fun x hx => hl x (List.mem_cons_of_mem _ hx))
      exact this out fun v hv => by
        obtain ⟨a, _, _, e, _⟩ := keyAt v (mem v hv)
        exact ⟨a, e⟩
    have hlen : ((out.map fun v => (adr v, kf v)).map fun x => V.ref x.1).length ≤ sizeLine := by
      rw [List.length_map, List.length_map, hb1.perm.length_eq]
      exact hzs
    refine wpAny_pure ⟨_, rfl, .ref h'.objs.size, upd H h'.objs.size (.lst ((out.map fun v => (adr v, kf v)).map fun x => V.ref x.1)), I1.laid (t' := tk) (fun b u e => ?_) (Nat.le_refl _)
      (show ObjOk X.prog X.w _ _ _ (.lst _) from ⟨hlen, out, e', rv, he'⟩), rfl, q _ _ ?_ ?_ ?_ (I1.hok.fresh (Nat.le_refl _))⟩
    · have hb : b < h'.objs.size := Heap.lt_size e
      rw [PyProof.Rows.sortedHeap_old (Nat.ne_of_lt hb) (by rw [size_push']; exact Nat.lt_succ_of_lt hb)]
      exact Heap.get?_push_of_some _ e
    · rw [List.map_map]
      refine (hb1.perm.map kf).trans ?_
      have : acc.toList.map kf = kvs.map fun kv => keyP kv.1 := by
        rw [ea, List.map_map]
        apply List.ext_getElem?
        intro j
        rw [List.getElem?_map, List.getElem?_map]
        cases hj : ks[j]? with
        | none => rw [List.getElem?_eq_none (by rw [l2]; exact List.getElem?_eq_none_iff.mp hj)]; rfl
        | some b =>
          obtain ⟨w', hw, hH⟩ := get j b hj
          rw [hw]
          obtain ⟨x, y, e⟩ := hk _ (List.mem_of_getElem? hw)
          have e : b.1 = [.inl x, .inl y] := e
          rw [e] at hH
          show some (kf (.ref b.2.1)) = some (keyP b.1)
          rw [kfAt hH, e]
          rfl
      rw [this]
    · rw [List.pairwise_map]
      exact hs1
    · intro x hx
      obtain ⟨v, hv, rfl⟩ := List.mem_map.mp hx
      obtain ⟨a, y1, y2, rfl, hH⟩ := keyAt v (mem v hv)
      show H a = some (.tup [.int (kf (.ref a)).1, .int (kf (.ref a)).2])
      rw [kfAt hH]
      exact hH
end
/-! ### sorted of a dict whose keys are ints, any number of them -/
section
variable {X : Cx}
def rSortDI : List V → Hp → VK → Prop := fun vs H Q => ∃ (d : Addr) (kvs : List (Key × V)) (ks : List Int), vs = [V.ref d] ∧ Rd H d (.dK kvs) ∧ (kvs.map fun kv => kv.1) = ks.map Sum.inl ∧
  ∀ (ys : List Int) (p : Addr), ys.Perm ks → ys.Pairwise (fun x y => x ≤ y) → H p = none → Q (.ref p) (upd H p (.lst (ys.map V.int)))
theorem cr_sortDI (hc : X.calm = true) : CallR X (.builtin "sorted") rSortDI := by
  intro pins s σ H xs us Q I r h
  obtain ⟨d, kvs, ks, rfl, hd, hks, q⟩ := h
  obtain ⟨u, rfl, rx⟩ := vals1 r
  cases rx
  obtain ⟨hz, hlo, ws, rel, dd⟩ := dk_rd I.hok hd
  obtain ⟨ep, hat⟩ := dd.dictAt
  have hkeys : (ws.map fun kv => kv.1) = ks.map Sum.inl := rel.keys.symm.trans hks
  have hln : ws.length = ks.length := by
    have e := congrArg List.length hkeys
    simpa using e
  have hzw : ws.length ≤ sizeLine := by rw [← rel.length]; exact hz
  refine Calls.call_function_entry PyProof.Rows.kind_sorted PyProof.Rows.plain_sorted PyProof.Rows.entry_sorted (PyProof.Rows.args_sorted1 _) ?_
  unfold Builtin.«sorted»
  refine wpAny_bind (m := checkCount "sorted" 1 1 _) (wpAny_pure ?_)
  refine wpAny_bind (PySem.W.kdu_collect (A := X.A.in1) (PySem.W.kdl_dict (knd := mixKind X.prog X.w) (kvs := ws) (ep := ep) hlo) (I.ok.hd hc) hat hzw fun h1 tk1 acc kp it => ?_)
  have al : acc.toList.length = ks.length := by rw [Array.length_toList, it.1, hln]
  have its : IntsAre acc.toList ks := ints_each al fun j v ev => by
    obtain ⟨key, x, h1, h2⟩ := it.2 j v (by rw [← Array.getElem?_toList]; exact ev)
    have h3 : (ws.map fun kv => kv.1)[j]? = some key := by rw [List.getElem?_map, h1]; rfl
    rw [hkeys, List.getElem?_map] at h3
    cases h4 : ks[j]? with
    | none => rw [h4] at h3; cases h3
    | some y =>
      rw [h4] at h3
      have h5 : Sum.inl y = key := Option.some.inj h3
      subst h5
      rcases keyIs_shape (show keyIs (Sum.inl y) v = true from h2) with ⟨i, t, ek, ew⟩ | ⟨z, t, ek, ew⟩
      · cases ek
        exact ⟨y, t, rfl, ew⟩
      · cases ek
  have I1 : Inv X pins σ H { s with heap := h1, toks := tk1 } := I.kept kp
  have accz : acc.toList.length ≤ sizeLine := by rw [al, ← hln]; exact hzw
  refine wpAny_bind (wpAny_newList ?_ accz)
  have hoL : (h1.push (seqObj "list" acc.toList.toArray 0)).get? h1.objs.size = some (seqObj "list" acc.toList.toArray 0) := Heap.get?_push_size _ rfl
  show wpAny _ _ _ _ _ { s with heap := h1.push (seqObj "list" acc.toList.toArray 0), toks := tk1 }
  refine wpAny_bind (wpAny_holding (wpAny_call_entry PyProof.Rows.slot_list_sort ⟨_, hoL, rfl⟩ PyProof.Rows.entry_list_sort (SrtO.list_sort_ord SrtO.swo_int hoL accz
    (fun h2 => SrtO.ints_sortable its h2) fun out hs1 hb1 => ⟨_, rfl, ?_⟩) (PyProof.Rows.args_list_sort _)))
  obtain ⟨k1, k2, k3⟩ := SrtO.ints_out its hs1 hb1
  obtain ⟨e1, he1⟩ := PyProof.Rows.sortedHeap_at (vs := acc.toList) (out := out.toArray) hoL
  have hlen : ((out.map SrtO.iv).map V.int).length ≤ sizeLine := by
    rw [List.length_map, k2.length_eq, ← al]
    exact accz
  refine wpAny_pure ⟨_, rfl, .ref h1.objs.size, upd H h1.objs.size (.lst ((out.map SrtO.iv).map V.int)), I1.laid (t' := tk1) (fun b u e => ?_) (Nat.le_refl _)
    (show ObjOk X.prog X.w _ _ _ (.lst _) from ⟨hlen, out, e1, vals_of_ints k1, he1⟩), rfl, q _ _ k2 k3 (I1.hok.fresh (Nat.le_refl _))⟩
  have hb : b < h1.objs.size := Heap.lt_size e
  rw [PyProof.Rows.sortedHeap_old (Nat.ne_of_lt hb) (by rw [size_push']; exact Nat.lt_succ_of_lt hb)]
  exact Heap.get?_push_of_some _ e
end

end
section
open PySem PySem.Spec PyProof.Rows L2
variable {P : Program} {w : World} {K : PySem.W.Frag} {mg : Str → Option Value} {base : Heap}
/-! ### references, heaps, what leads where -/
inductive Rf where
  | obj (i : Int) | imp (o e : Int)
  deriving DecidableEq
abbrev HeapM := List (Int × List (Option Rf))
def fieldsOf (h : HeapM) (i : Int) : List (Option Rf) := (h.lookup i).getD []
inductive Reach (h : HeapM) (st : List (Option Rf)) : Rf → Prop
  | base {r : Rf} : some r ∈ st → Reach h st r
  | step {i : Int} {r : Rf} : Reach h st (.obj i) → some r ∈ fieldsOf h i → Reach h st r
/-- the objects that are referred to are there -/
structure ValidH (h : HeapM) (st : List (Option Rf)) : Prop where
  st : ∀ i, some (Rf.obj i) ∈ st → i ∈ h.map (·.1)
  fl : ∀ j i, some (Rf.obj i) ∈ fieldsOf h j → i ∈ h.map (·.1)
theorem Reach.there {h : HeapM} {st : List (Option Rf)} (v : ValidH h st) {i : Int} (r : Reach h st (.obj i)) : i ∈ h.map (·.1) := by
  generalize e : Rf.obj i = x at r
  cases r with
  | base m => subst e; exact v.st i m
  | step _ m => subst e; exact v.fl _ i m
/-! ### sorted lists without repeats -/
section
variable {α : Type} {lt : α → α → Prop}
structure Slo (lt : α → α → Prop) : Prop where
  irr : ∀ x, ¬ lt x x
  tr : ∀ x y z, lt x y → lt y z → lt x z
  tot : ∀ x y, lt x y ∨ x = y ∨ lt y x
theorem sorted_uniq (O : Slo lt) : ∀ {l m : List α}, l.Pairwise lt → m.Pairwise lt → (∀ x, x ∈ l ↔ x ∈ m) → l = m
  | [], [], _, _, _ => rfl
  | [], y :: m, _, _, h => absurd ((h y).mpr List.mem_cons_self) (by simp)
  | x :: l, [], _, _, h => absurd ((h x).mp List.mem_cons_self) (by simp)
  | x :: l, y :: m, p, q, h => by
    obtain ⟨p1, p2⟩ := List.pairwise_cons.mp p
    obtain ⟨q1, q2⟩ := List.pairwise_cons.mp q
    have e : x = y := by
      rcases List.mem_cons.mp ((h x).mp List.mem_cons_self) with e | hx
      · exact e
      · rcases List.mem_cons.mp ((h y).mpr List.mem_cons_self) with e | hy
        · exact e.symm
        · exact absurd (O.tr _ _ _ (p1 y hy) (q1 x hx)) (O.irr x)
    subst e
    have : ∀ z, z ∈ l ↔ z ∈ m := fun z => by
      constructor
      · intro hz
        rcases List.mem_cons.mp ((h z).mp (List.mem_cons_of_mem _ hz)) with e | hm
        · subst e; exact absurd (p1 z hz) (O.irr z)
        · exact hm
      · intro hz
        rcases List.mem_cons.mp ((h z).mpr (List.mem_cons_of_mem _ hz)) with e | hm
        · subst e; exact absurd (q1 z hz) (O.irr z)
        · exact hm
    rw [sorted_uniq O p2 q2 this]
variable [DecidableRel lt]
def insS (lt : α → α → Prop) [DecidableRel lt] (x : α) : List α → List α
  | [] => [x]
  | y :: r => if lt x y then x :: y :: r else if lt y x then y :: insS lt x r else y :: r
theorem mem_insS (O : Slo lt) {x z : α} : ∀ {l : List α}, z ∈ insS lt x l ↔ z = x ∨ z ∈ l
  | [] => by simp [insS]
  | y :: r => by
    unfold insS
    split
    · exact List.mem_cons
    · rename_i h1
      split
      · rw [List.mem_cons, mem_insS O (l := r), List.mem_cons]
        constructor <;> (intro h; rcases h with h | h | h <;> simp [h])
      · rename_i h2
        rcases O.tot x y with h | h | h
        · exact absurd h h1
        · subst h; simp
        · exact absurd h h2
theorem insS_sorted (O : Slo lt) {x : α} : ∀ {l : List α}, l.Pairwise lt → (insS lt x l).Pairwise lt
  | [], _ => by simp [insS]
  | y :: r, p => by
    obtain ⟨p1, p2⟩ := List.pairwise_cons.mp p
    unfold insS
    split
    · rename_i h
      refine List.pairwise_cons.mpr ⟨fun z hz => ?_, p⟩
      rcases List.mem_cons.mp hz with e | hz
      · subst e; exact h
      · exact O.tr _ _ _ h (p1 z hz)
    · split
      · rename_i h
        refine List.pairwise_cons.mpr ⟨fun z hz => ?_, insS_sorted O p2⟩
        rcases (mem_insS O).mp hz with e | hz
        · subst e; exact h
        · exact p1 z hz
      · exact p
def sortS (lt : α → α → Prop) [DecidableRel lt] (l : List α) : List α := l.foldr (insS lt) []
theorem mem_sortS (O : Slo lt) {z : α} : ∀ {l : List α}, z ∈ sortS lt l ↔ z ∈ l
  | [] => Iff.rfl
  | x :: r => by
    show z ∈ insS lt x (sortS lt r) ↔ _
    rw [mem_insS O, mem_sortS O (l := r), List.mem_cons]
theorem sortS_sorted (O : Slo lt) : ∀ l : List α, (sortS lt l).Pairwise lt
  | [] => List.Pairwise.nil
  | _ :: r => insS_sorted O (sortS_sorted O r)
theorem sortS_eq (O : Slo lt) {l m : List α} (p : m.Pairwise lt) (h : ∀ x, x ∈ m ↔ x ∈ l) : m = sortS lt l := sorted_uniq O p (sortS_sorted O l) fun x => (h x).trans (mem_sortS O).symm
theorem sortS_len (O : Slo lt) : ∀ l : List α, (sortS lt l).length ≤ l.length
  | [] => Nat.le_refl _
  | x :: r => by
    have : ∀ l : List α, (insS lt x l).length ≤ l.length + 1 := fun l => by
      induction l with
      | nil => exact Nat.le_refl _
      | cons y r ih =>
        unfold insS
        split
        · exact Nat.le_refl _
        · split
          · exact Nat.succ_le_succ ih
          · exact Nat.le_succ _
    exact Nat.le_trans (this _) (Nat.succ_le_succ (sortS_len O r))
end
def ltI (a b : Int) : Prop := a < b
instance : DecidableRel ltI := fun a b => inferInstanceAs (Decidable (a < b))
def ltP2 (a b : Int × Int) : Prop := a.1 < b.1 ∨ a.1 = b.1 ∧ a.2 < b.2
instance : DecidableRel ltP2 := fun a b => inferInstanceAs (Decidable (a.1 < b.1 ∨ a.1 = b.1 ∧ a.2 < b.2))
theorem sloI : Slo ltI := ⟨fun x => Int.lt_irrefl x, fun _ _ _ => Int.lt_trans, fun x y => by unfold ltI; omega⟩
theorem sloP : Slo ltP2 := ⟨fun x => by unfold ltP2; omega, fun x y z => by unfold ltP2; omega, fun x y => by
  unfold ltP2
  rcases x with ⟨a, b⟩
  rcases y with ⟨c, d⟩
  by_cases h : a = c ∧ b = d
  · exact .inr (.inl (by rw [h.1, h.2]))
  · dsimp only
    omega⟩
open Classical in
/-- the objects, the imports, to which references lead, rising -/
noncomputable def ledO (h : HeapM) (st : List (Option Rf)) : List Int := sortS ltI ((h.map (·.1)).filter fun i => decide (Reach h st (.obj i)))
def impsOf (l : List (Option Rf)) : List (Int × Int) := l.filterMap fun r => match r with
  | some (.imp o e) => some (o, e)
  | _ => none
theorem mem_impsOf {l : List (Option Rf)} {o e : Int} : (o, e) ∈ impsOf l ↔ some (Rf.imp o e) ∈ l := by
  unfold impsOf
  rw [List.mem_filterMap]
  constructor
  · rintro ⟨r, hr, h⟩
    match r, h with
    | some (.imp o' e'), h =>
      cases h
      exact hr
  · intro h
    exact ⟨_, h, rfl⟩
open Classical in
noncomputable def ledI (h : HeapM) (st : List (Option Rf)) : List (Int × Int) := sortS ltP2 ((impsOf (st ++ (h.map (·.2)).flatten)).filter fun p => decide (Reach h st (.imp p.1 p.2)))
open Classical in
theorem mem_ledO {h : HeapM} {st : List (Option Rf)} (v : ValidH h st) {i : Int} : i ∈ ledO h st ↔ Reach h st (.obj i) := by
  unfold ledO
  rw [mem_sortS sloI, List.mem_filter]
  exact ⟨fun x => of_decide_eq_true x.2, fun r => ⟨r.there v, decide_eq_true r⟩⟩
theorem lookup_mem {h : HeapM} {i : Int} {fs : List (Option Rf)} (e : h.lookup i = some fs) : (i, fs) ∈ h := by
  induction h with
  | nil => cases e
  | cons p h ih =>
    obtain ⟨j, gs⟩ := p
    rw [List.lookup_cons] at e
    by_cases hj : i = j
    · subst hj
      simp at e
      subst e
      exact List.mem_cons_self
    · have : (i == j) = false := by simpa using hj
      rw [this] at e
      exact List.mem_cons_of_mem _ (ih e)
theorem mem_fields {h : HeapM} {i : Int} {r : Option Rf} (m : r ∈ fieldsOf h i) : r ∈ (h.map (·.2)).flatten := by
  unfold fieldsOf at m
  cases e : h.lookup i with
  | none => rw [e] at m; cases m
  | some fs =>
    rw [e] at m
    exact List.mem_flatten.mpr ⟨fs, List.mem_map.mpr ⟨_, lookup_mem e, rfl⟩, m⟩
open Classical in
theorem mem_ledI {h : HeapM} {st : List (Option Rf)} {o e : Int} : (o, e) ∈ ledI h st ↔ Reach h st (.imp o e) := by
  unfold ledI
  rw [mem_sortS sloP, List.mem_filter]
  refine ⟨fun x => of_decide_eq_true x.2, fun r => ⟨mem_impsOf.mpr ?_, decide_eq_true r⟩⟩
  cases r with
  | base m => exact List.mem_append_left _ m
  | step _ m => exact List.mem_append_right _ (mem_fields m)
theorem ledO_sorted (h : HeapM) (st : List (Option Rf)) : (ledO h st).Pairwise ltI := sortS_sorted sloI _
theorem ledI_sorted (h : HeapM) (st : List (Option Rf)) : (ledI h st).Pairwise ltP2 := sortS_sorted sloP _
theorem ledO_eq {h : HeapM} {st : List (Option Rf)} (v : ValidH h st) {l : List Int} (p : l.Pairwise ltI) (m : ∀ i, i ∈ l ↔ Reach h st (.obj i)) : l = ledO h st :=
  sorted_uniq sloI p (ledO_sorted h st) fun i => (m i).trans (mem_ledO v).symm
theorem ledI_eq {h : HeapM} {st : List (Option Rf)} {l : List (Int × Int)} (p : l.Pairwise ltP2) (m : ∀ o e, (o, e) ∈ l ↔ Reach h st (.imp o e)) : l = ledI h st :=
  sorted_uniq sloP p (ledI_sorted h st) fun ⟨o, e⟩ => (m o e).trans mem_ledI.symm
theorem ledO_len (h : HeapM) (st : List (Option Rf)) : (ledO h st).length ≤ h.length := by
  refine Nat.le_trans (sortS_len sloI _) (Nat.le_trans (List.length_filter_le _ _) ?_)
  rw [List.length_map]
  exact Nat.le_refl _

end
section
open PySem PySem.Spec PyProof.Rows L2
variable {P : Program} {w : World} {K : PySem.W.Frag} {mg : Str → Option Value} {base : Heap}
/-! ### heaps in the heap -/
def RfV (H : Hp) (v : V) (r : Option Rf) : Prop := match r with
  | none => v = .non
  | some (.obj i) => ∃ t, v = .ref t ∧ H t = some (.tup [.str "object", .int i])
  | some (.imp o e) => ∃ t, v = .ref t ∧ H t = some (.tup [.str "import", .int o, .int e])
theorem RfV.mono {H H' : Hp} (s : ∀ a xs, H a = some (.tup xs) → H' a = some (.tup xs)) {v : V} {r : Option Rf} (h : RfV H v r) : RfV H' v r := by
  match r, h with
  | none, h => exact h
  | some (.obj i), ⟨t, e, h⟩ => exact ⟨t, e, s _ _ h⟩
  | some (.imp o e), ⟨t, e', h⟩ => exact ⟨t, e', s _ _ h⟩
/-- one object of a heap: its key, its fields -/
def ObjV (H : Hp) (kv : Key × V) (e : Int × List (Option Rf)) : Prop := kv.1 = .inl e.1 ∧ ∃ t vs, kv.2 = .ref t ∧ H t = some (.tup vs) ∧ Paired (RfV H) vs e.2
theorem ObjV.mono {H H' : Hp} (s : ∀ a xs, H a = some (.tup xs) → H' a = some (.tup xs)) {kv : Key × V} {e : Int × List (Option Rf)} (h : ObjV H kv e) : ObjV H' kv e := by
  obtain ⟨h1, t, vs, h2, h3, h4⟩ := h
  exact ⟨h1, t, vs, h2, s _ _ h3, L2.Paired.mapP h4 fun _ _ => RfV.mono s⟩
def HeapAt (H : Hp) (d : Addr) (h : HeapM) : Prop := ∃ kvs, H d = some (.dK kvs) ∧ Paired (ObjV H) kvs h
theorem Same.tups {H H' : Hp} (s : Same H H') : ∀ a xs, H a = some (.tup xs) → H' a = some (.tup xs) := fun a xs h => s a _ h
theorem HeapAt.mono {H H' : Hp} {d : Addr} {h : HeapM} (A : HeapAt H d h) (s : Same H H') : HeapAt H' d h := by
  obtain ⟨kvs, e, p⟩ := A
  exact ⟨kvs, s _ _ e, L2.Paired.mapP p fun _ _ => ObjV.mono (Same.tups s)⟩
theorem valV_heap {H : Hp} : ∀ {kvs : List (Key × V)} {h : HeapM}, Paired (ObjV H) kvs h → ∀ i : Int, (h.lookup i = none → valV kvs (.inl i) = none) ∧
    ∀ fs, h.lookup i = some fs → ∃ t vs, valV kvs (.inl i) = some (.ref t) ∧ H t = some (.tup vs) ∧ Paired (RfV H) vs fs
  | [], [], .nil, i => ⟨fun _ => rfl, fun fs e => nomatch e⟩
  | kv :: kvs, (j, gs) :: h, .cons r t, i => by
    obtain ⟨h1, a, vs, h2, h3, h4⟩ := r
    by_cases e : i = j
    · subst e
      refine ⟨fun q => ?_, fun fs q => ?_⟩
      · simp at q
      · have q : gs = fs := by simpa using q
        subst q
        exact ⟨a, vs, by rw [valV_pos h1, h2], h3, h4⟩
    · have hne : ¬ kv.1 = (Sum.inl i : Key) := fun q => e (by rw [h1] at q; exact (Sum.inl.inj q).symm)
      have hl : List.lookup i ((j, gs) :: h) = List.lookup i h := by
        have : (i == j) = false := by simpa using e
        rw [List.lookup_cons, this]
      rw [valV_neg hne, hl]
      exact valV_heap t i
theorem lookup_of_mem : ∀ {h : HeapM} {i : Int}, i ∈ h.map (·.1) → ∃ fs, h.lookup i = some fs
  | [], _, m => nomatch m
  | (j, gs) :: h, i, m => by
    by_cases e : i = j
    · subst e
      exact ⟨gs, by simp⟩
    · rcases List.mem_cons.mp m with q | m
      · exact absurd q e
      · obtain ⟨fs, q⟩ := lookup_of_mem m
        have : (i == j) = false := by simpa using e
        exact ⟨fs, by rw [List.lookup_cons, this]; exact q⟩
theorem paired_app {α β : Type} {F : α → β → Prop} : ∀ {a b : List α} {c d : List β}, Paired F a c → Paired F b d → Paired F (a ++ b) (c ++ d)
  | _, _, _, _, .nil, q => q
  | _, _, _, _, .cons r t, q => .cons r (paired_app t q)
/-- the last of a list in pairs -/
theorem paired_last {α β : Type} {F : α → β → Prop} {a : List α} {c : List β} (p : Paired F a c) (hn : a ≠ []) : ∃ x y, a[a.length - 1]? = some x ∧ c = c.dropLast ++ [y] ∧ F x y ∧ Paired F a.dropLast c.dropLast := by
  induction p with
  | nil => exact absurd rfl hn
  | @cons x y a c r t ih =>
    cases t with
    | nil => exact ⟨x, y, rfl, rfl, r, .nil⟩
    | @cons x2 y2 a2 c2 r2 t2 =>
      obtain ⟨u, v, h1, h2, h3, h4⟩ := ih (by simp)
      refine ⟨u, v, ?_, ?_, h3, .cons r h4⟩
      · show (x :: x2 :: a2)[(x2 :: a2).length]? = _
        rw [List.length_cons, List.getElem?_cons_succ]
        simpa using h1
      · show y :: y2 :: c2 = y :: ((y2 :: c2).dropLast ++ [v])
        rw [← h2]
/-- the search: what waits, the objects and the imports found -/
def found (os : List Int) (is : List (Int × Int)) : Rf → Prop
  | .obj i => i ∈ os
  | .imp o e => (o, e) ∈ is
structure Srch (h : HeapM) (st ws : List (Option Rf)) (os : List Int) (is : List (Int × Int)) : Prop where
  w : ∀ r, some r ∈ ws → Reach h st r
  o : ∀ i, i ∈ os → Reach h st (.obj i)
  i : ∀ o e, (o, e) ∈ is → Reach h st (.imp o e)
  all : ∀ r, (some r ∈ st ∨ ∃ i ∈ os, some r ∈ fieldsOf h i) → some r ∈ ws ∨ found os is r
  nd : os.Nodup
  ni : is.Nodup
theorem Srch.start (h : HeapM) (st : List (Option Rf)) : Srch h st st [] [] :=
  ⟨fun _ m => .base m, (fun _ m => nomatch m), (fun _ _ m => nomatch m), fun r q => by
    rcases q with q | ⟨_, m, _⟩
    · exact .inl q
    · exact (nomatch m), List.nodup_nil, List.nodup_nil⟩
theorem Srch.skip {h : HeapM} {st ws : List (Option Rf)} {os : List Int} {is : List (Int × Int)} {x : Option Rf} (S : Srch h st (ws ++ [x]) os is) (hx : ∀ r, x = some r → found os is r) : Srch h st ws os is :=
  ⟨fun r m => S.w r (List.mem_append_left _ m), S.o, S.i, fun r q => by
    rcases S.all r q with m | f
    · rcases List.mem_append.mp m with m | m
      · exact .inl m
      · exact .inr (hx r (List.mem_singleton.mp m).symm)
    · exact .inr f, S.nd, S.ni⟩
theorem Srch.imp {h : HeapM} {st ws : List (Option Rf)} {os : List Int} {is : List (Int × Int)} {o e : Int} (S : Srch h st (ws ++ [some (.imp o e)]) os is) (hn : (o, e) ∉ is) : Srch h st ws os (is ++ [(o, e)]) := by
  have S2 : Srch h st (ws ++ [some (.imp o e)]) os (is ++ [(o, e)]) := by
    refine ⟨S.w, S.o, fun o' e' m => ?_, fun r q => ?_, S.nd, ?_⟩
    · rcases List.mem_append.mp m with m | m
      · exact S.i _ _ m
      · cases List.mem_singleton.mp m
        exact S.w _ (List.mem_append_right _ (List.mem_singleton.mpr rfl))
    · rcases S.all r q with m | f
      · exact .inl m
      · refine .inr ?_
        cases r with
        | obj i => exact f
        | imp a b => exact List.mem_append_left _ f
    · rw [List.nodup_append]
      exact ⟨S.ni, by simp, fun a ha b hb => by rw [List.mem_singleton.mp hb]; exact fun q => hn (by rw [← q]; exact ha)⟩
  exact S2.skip fun r q => by
    cases q
    exact List.mem_append_right _ (List.mem_singleton.mpr rfl)
theorem Srch.obj {h : HeapM} {st ws : List (Option Rf)} {os : List Int} {is : List (Int × Int)} {i : Int} (S : Srch h st (ws ++ [some (.obj i)]) os is) (hn : i ∉ os) : Srch h st (ws ++ fieldsOf h i) (os ++ [i]) is := by
  have ri : Reach h st (.obj i) := S.w _ (List.mem_append_right _ (List.mem_singleton.mpr rfl))
  refine ⟨fun r m => ?_, fun j m => ?_, S.i, fun r q => ?_, ?_, S.ni⟩
  · rcases List.mem_append.mp m with m | m
    · exact S.w r (List.mem_append_left _ m)
    · exact .step ri m
  · rcases List.mem_append.mp m with m | m
    · exact S.o j m
    · rw [List.mem_singleton.mp m]
      exact ri
  · have lift : (some r ∈ ws ++ [some (.obj i)] ∨ found os is r) → (some r ∈ ws ++ fieldsOf h i ∨ found (os ++ [i]) is r) := fun z => by
      rcases z with m | f
      · rcases List.mem_append.mp m with m | m
        · exact .inl (List.mem_append_left _ m)
        · cases List.mem_singleton.mp m
          exact .inr (List.mem_append_right _ (List.mem_singleton.mpr rfl))
      · refine .inr ?_
        cases r with
        | obj j => exact List.mem_append_left _ f
        | imp a b => exact f
    rcases q with q | ⟨j, m, q⟩
    · exact lift (S.all r (.inl q))
    · rcases List.mem_append.mp m with m | m
      · exact lift (S.all r (.inr ⟨j, m, q⟩))
      · rw [List.mem_singleton.mp m] at q
        exact .inl (List.mem_append_right _ q)
  · rw [List.nodup_append]
    exact ⟨S.nd, by simp, fun a ha b hb => by rw [List.mem_singleton.mp hb]; exact fun q => hn (by rw [← q]; exact ha)⟩
theorem Srch.done {h : HeapM} {st : List (Option Rf)} {os : List Int} {is : List (Int × Int)} (S : Srch h st [] os is) : (∀ i, i ∈ os ↔ Reach h st (.obj i)) ∧ ∀ o e, (o, e) ∈ is ↔ Reach h st (.imp o e) := by
  have key : ∀ r, Reach h st r → found os is r := fun r q => by
    induction q with
    | base m => exact (S.all _ (.inl m)).resolve_left (fun z => nomatch z)
    | step _ m ih => exact (S.all _ (.inr ⟨_, ih, m⟩)).resolve_left (fun z => nomatch z)
  exact ⟨fun i => ⟨S.o i, key (.obj i)⟩, fun o e => ⟨S.i o e, key (.imp o e)⟩⟩
theorem nodup_le {α : Type} [DecidableEq α] : ∀ {l m : List α}, l.Nodup → (∀ x ∈ l, x ∈ m) → l.length ≤ m.length
  | [], _, _, _ => Nat.zero_le _
  | x :: l, m, nd, h => by
    obtain ⟨h1, h2⟩ := List.nodup_cons.mp nd
    have hx : x ∈ m := h x List.mem_cons_self
    have := nodup_le (l := l) (m := m.erase x) h2 fun y hy => (List.mem_erase_of_ne (fun q => h1 (by rw [← q]; exact hy))).mpr (h y (List.mem_cons_of_mem _ hy))
    rw [List.length_erase_of_mem hx] at this
    have : 0 < m.length := List.length_pos_of_mem hx
    simp only [List.length_cons]
    omega
theorem Srch.few {h : HeapM} {st ws : List (Option Rf)} {os : List Int} {is : List (Int × Int)} (S : Srch h st ws os is) (v : ValidH h st) : os.length ≤ h.length := by
  have := nodup_le S.nd (m := h.map (·.1)) fun i m => (S.o i m).there v
  rwa [List.length_map] at this

/-! ### more rules with the written part named -/
section
variable {X : Cx} {K : PySem.W.Frag}
theorem op_inDK (hu : X.A.units + 65 < cLine) (hK : X.K = K := by rfl) : OpR X (compareOp .In) (rInD K) := by subst hK; exact op_inD hu
theorem op_notInDK (hu : X.A.units + 65 < cLine) (hK : X.K = K := by rfl) : OpR X (compareOp .NotIn) (rNotInD K) := by subst hK; exact op_notInD hu
def rTupOfK (K : PySem.W.Frag) : List V → Hp → VK → Prop := fun xs H Q => ∃ p ys, xs = [.ref p] ∧ ((SqL K H p ys ∧ ∀ l, H l = none → Q (.ref l) (upd H l (.tup ys))) ∨ (SqT K H p ys ∧ Q (.ref p) H))
theorem call_tupleK (hK : X.K = K := by rfl) : CallR X (.type "tuple") (rTupOfK K) := by subst hK; exact call_tuple_of
theorem call_sortedPK (hK : X.K = K := by rfl) : CallR X (.builtin "sorted") (rSortedPO K) := by subst hK; exact cr_sortedPO
end
/-! ### dicts used as sets -/
theorem valV_set {κ : Type} [DecidableEq κ] {v : V} {k : κ} : ∀ {ks : List κ}, valV (ks.map fun x => (x, v)) k = if k ∈ ks then some v else none
  | [] => rfl
  | x :: ks => by
    by_cases e : x = k
    · subst e
      rw [if_pos List.mem_cons_self]
      exact valV_pos rfl
    · rw [List.map_cons, valV_neg e, valV_set (ks := ks)]
      by_cases m : k ∈ ks
      · rw [if_pos m, if_pos (List.mem_cons_of_mem _ m)]
      · rw [if_neg m, if_neg (fun z => by
          rcases List.mem_cons.mp z with z | z
          · exact e z.symm
          · exact m z)]
theorem putK_setNew {κ : Type} [DecidableEq κ] {v : V} {k : κ} {ks : List κ} (h : k ∉ ks) : putK (ks.map fun x => (x, v)) k v = (ks ++ [k]).map fun x => (x, v) := by
  rw [putK_new v (by rw [valV_set, if_neg h]), List.map_append]
  rfl
theorem putK_setOld {κ : Type} [DecidableEq κ] {v : V} {k : κ} {ks : List κ} (h : k ∈ ks) : putK (ks.map fun x => (x, v)) k v = ks.map fun x => (x, v) := by
  have hs : ((ks.map fun x => (x, v)).any fun kv => decide (kv.1 = k)) = true := by rw [valV_any, valV_set, if_pos h]; rfl
  unfold putK
  rw [if_pos hs]
  conv => rhs; rw [← List.map_id (ks.map fun x => (x, v))]
  refine List.map_congr_left fun kv hkv => ?_
  obtain ⟨x, _, rfl⟩ := List.mem_map.mp hkv
  dsimp only
  split <;> rfl

/-! ### sorted of a list of pairs: told by the pairs -/
def leP (a b : Int × Int) : Prop := ¬ ltP2 b a
def IsPrs (H : Hp) (bs : List (Addr × (Int × Int))) : Prop := ∀ x ∈ bs, H x.1 = some (.tup [.int x.2.1, .int x.2.2])
def rSortedPP (K : PySem.W.Frag) : List V → Hp → VK → Prop := fun vs H Q => ∃ (a : Addr) (bs : List (Addr × (Int × Int))), vs = [V.ref a] ∧ SqL K H a (bs.map fun x => V.ref x.1) ∧ IsPrs H bs ∧
  ∀ (cs : List (Addr × (Int × Int))) (p : Addr), cs.Perm bs → (cs.map (·.2)).Pairwise leP → H p = none → Q (.ref p) (upd H p (.lst (cs.map fun x => V.ref x.1)))
section
variable {X : Cx} {K : PySem.W.Frag}
theorem call_sortedPP (hK : X.K = K := by rfl) : CallR X (.builtin "sorted") (rSortedPP K) := by
  subst hK
  intro pins s σ H vs us Q I r h
  obtain ⟨a, bs, e, hs, hp, q⟩ := h
  let kf : V → Int × Int := fun v => match v with
    | .ref t => (match H t with | some (.tup [.int x, .int y]) => (x, y) | _ => (0, 0))
    | _ => (0, 0)
  let ad : V → Addr := fun v => match v with | .ref t => t | _ => 0
  have hk : ∀ x ∈ bs, kf (.ref x.1) = x.2 := fun x hx => by
    show (match H x.1 with | some (.tup [.int x, .int y]) => (x, y) | _ => (0, 0)) = _
    rw [hp x hx]
  refine cr_sortedPO pins s σ H vs us Q I r ⟨a, _, kf, e, hs, fun v hv => ?_, fun ys p h1 h2 np => ?_⟩
  · obtain ⟨x, hx, rfl⟩ := List.mem_map.mp hv
    exact ⟨x.1, rfl, by rw [hk x hx]; exact hp x hx⟩
  · have hm : ∀ v ∈ ys, ∃ x ∈ bs, v = V.ref x.1 := fun v hv => by
      obtain ⟨x, hx, e⟩ := List.mem_map.mp (h2.perm.mem_iff.mp hv)
      exact ⟨x, hx, e.symm⟩
    have e1 : (ys.map fun v => (ad v, kf v)).map (fun x => V.ref x.1) = ys := by
      rw [List.map_map]
      conv => rhs; rw [← List.map_id ys]
      refine List.map_congr_left fun v hv => ?_
      obtain ⟨x, _, rfl⟩ := hm v hv
      rfl
    have e2 : (bs.map fun x => V.ref x.1).map (fun v => (ad v, kf v)) = bs := by
      rw [List.map_map]
      conv => rhs; rw [← List.map_id bs]
      refine List.map_congr_left fun x hx => ?_
      show (x.1, kf (.ref x.1)) = x
      rw [hk x hx]
    have := q (ys.map fun v => (ad v, kf v)) p (by rw [← e2]; exact h2.perm.map _) (by
      rw [List.map_map, List.pairwise_map]
      exact h1.imp fun {x y} z => by
        have z := SrtO.lexB_no.mp z
        show ¬ ltP2 (kf y) (kf x)
        unfold ltP2
        omega) np
    rwa [e1] at this
end

end
section
open PySem PySem.Spec PyProof.Rows L2
variable {P : Program} {w : World} {K : PySem.W.Frag} {mg : Str → Option Value} {base : Heap}
def topS (i : Nat) : Stmt := PySem.Challenge.pw_keptbywitness_k01_what_references_lead_t.main.body.getD i (.Pass ⟨0, 0, 0, 0⟩)
abbrev s__led : Stmt := topS 2
abbrev N__led : List Str := ["heap", "start", "objects", "imports", "waiting", "reference"]
theorem sc__led : FnScope N__led ["heap", "start"] (defScope s__led) := ⟨rfl, rfl, rfl, by decide +kernel, rfl, by decide +kernel, by decide +kernel⟩
abbrev s_led_objects : Stmt := topS 3
abbrev N_led_objects : List Str := ["heap", "start"]
theorem sc_led_objects : FnScope N_led_objects ["heap", "start"] (defScope s_led_objects) := ⟨rfl, rfl, rfl, by decide +kernel, rfl, by decide +kernel, by decide +kernel⟩
abbrev s_led_imports : Stmt := topS 4
abbrev N_led_imports : List Str := ["heap", "start"]
theorem sc_led_imports : FnScope N_led_imports ["heap", "start"] (defScope s_led_imports) := ⟨rfl, rfl, rfl, by decide +kernel, rfl, by decide +kernel, by decide +kernel⟩
abbrev s__law_cell : Stmt := topS 6
abbrev N__law_cell : List Str := ["_law_script", "_law_k"]
theorem sc__law_cell : FnScope N__law_cell ["_law_script", "_law_k"] (defScope s__law_cell) := ⟨rfl, rfl, rfl, by decide +kernel, rfl, by decide +kernel, by decide +kernel⟩
abbrev s__law_digits : Stmt := topS 7
abbrev N__law_digits : List Str := ["_law_script", "_law_first", "_law_last", "_law_digits_here", "_law_k", "_law_cell_here", "_law_turn", "_law_seed"]
theorem sc__law_digits : FnScope N__law_digits ["_law_script", "_law_first", "_law_last"] (defScope s__law_digits) := ⟨rfl, rfl, rfl, by decide +kernel, rfl, by decide +kernel, by decide +kernel⟩
abbrev s__law_draw : Stmt := topS 8
abbrev N__law_draw : List Str := ["_law_box", "_law_many", "_law_at"]
theorem sc__law_draw : FnScope N__law_draw ["_law_box", "_law_many"] (defScope s__law_draw) := ⟨rfl, rfl, rfl, by decide +kernel, rfl, by decide +kernel, by decide +kernel⟩
abbrev s__law_alike : Stmt := topS 9
abbrev N__law_alike : List Str := ["_law_one", "_law_two"]
theorem sc__law_alike : FnScope N__law_alike ["_law_one", "_law_two"] (defScope s__law_alike) := ⟨rfl, rfl, rfl, by decide +kernel, rfl, by decide +kernel, by decide +kernel⟩
abbrev s__law_reference : Stmt := topS 10
abbrev N__law_reference : List Str := ["_law_box", "_law_many", "_law_kind"]
theorem sc__law_reference : FnScope N__law_reference ["_law_box", "_law_many"] (defScope s__law_reference) := ⟨rfl, rfl, rfl, by decide +kernel, rfl, by decide +kernel, by decide +kernel⟩
abbrev s__law_heap : Stmt := topS 11
abbrev N__law_heap : List Str := ["_law_box", "_law_many", "_law_heap_here", "_law_k", "_law_field"]
theorem sc__law_heap : FnScope N__law_heap ["_law_box"] (defScope s__law_heap) := ⟨rfl, rfl, rfl, by decide +kernel, rfl, by decide +kernel, by decide +kernel⟩
abbrev s__law_led_to : Stmt := topS 12
abbrev N__law_led_to : List Str := ["_law_heap_here", "_law_start", "_law_reference_here", "_law_found", "_law_turn", "_law_field"]
theorem sc__law_led_to : FnScope N__law_led_to ["_law_heap_here", "_law_start"] (defScope s__law_led_to) := ⟨rfl, rfl, rfl, by decide +kernel, rfl, by decide +kernel, by decide +kernel⟩
abbrev s_law : Stmt := topS 13
abbrev N_law : List Str := ["_law_script", "_law_box", "_law_turn", "_law_heap_here", "_law_start", "_law_found", "_law_objects", "_law_imports", "_law_rising", "_law_before", "_law_given", "_law_k", "_law_number", "_law_row"]
theorem sc_law : FnScope N_law ["_law_script"] (defScope s_law) := ⟨rfl, rfl, rfl, by decide +kernel, rfl, by decide +kernel, by decide +kernel⟩
def cs_IMPORT : Str := "import"
structure Txt (K : PySem.W.Frag) (mg : Str → Option Value) : Prop where
  n_int : mg "int" = none
  n_len : mg "len" = none
  n_list : mg "list" = none
  n_range : mg "range" = none
  n_repr : mg "repr" = none
  n_sorted : mg "sorted" = none
  n_tuple : mg "tuple" = none
  c_IMPORT : CoS mg "IMPORT" cs_IMPORT
  d__led : DefAt K mg "_led" s__led
  d_led_objects : DefAt K mg "led_objects" s_led_objects
  d_led_imports : DefAt K mg "led_imports" s_led_imports
  d__law_cell : DefAt K mg "_law_cell" s__law_cell
  d__law_digits : DefAt K mg "_law_digits" s__law_digits
  d__law_draw : DefAt K mg "_law_draw" s__law_draw
  d__law_alike : DefAt K mg "_law_alike" s__law_alike
  d__law_reference : DefAt K mg "_law_reference" s__law_reference
  d__law_heap : DefAt K mg "_law_heap" s__law_heap
  d__law_led_to : DefAt K mg "_law_led_to" s__law_led_to
  d_law : DefAt K mg "law" s_law
end
section
open PySem PySem.Spec PyProof.Rows L2
variable {P : Program} {w : World} {K : PySem.W.Frag} {mg : Str → Option Value} {base : Heap}
/-- what the search has: its two dicts -/
def setI (os : List Int) : HO := .dK ((os.map (Sum.inl : Int → Key)).map fun k => (k, V.bl true))
theorem inl_mem {j : Int} {os : List Int} : (Sum.inl j : Key) ∈ os.map Sum.inl ↔ j ∈ os := by
  rw [List.mem_map]
  exact ⟨fun ⟨q, hq, e⟩ => by cases e; exact hq, fun h => ⟨j, h, rfl⟩⟩
def pairK (p : Int × Int) : List L2.Key := [.inl p.1, .inl p.2]
def setP (is : List (Int × Int)) : HO := .dT (((is.map pairK)).map fun k => (k, V.bl true))
theorem pairK_inj {p q : Int × Int} (h : pairK p = pairK q) : p = q := by
  obtain ⟨a, b⟩ := p
  obtain ⟨c, d⟩ := q
  cases h
  rfl
theorem pairK_mem {p : Int × Int} {is : List (Int × Int)} : pairK p ∈ is.map pairK ↔ p ∈ is := by
  rw [List.mem_map]
  exact ⟨fun ⟨q, hq, e⟩ => by rw [← pairK_inj e]; exact hq, fun h => ⟨p, h, rfl⟩⟩
/-- a new list of pairs -/
def PairsAt (H : Hp) (l : Addr) (ps : List (Int × Int)) : Prop := ∃ bs : List (Addr × (Int × Int)), bs.map (·.2) = ps ∧ H l = some (.lst (bs.map fun x => V.ref x.1)) ∧ ∀ x ∈ bs, H x.1 = some (.tup [.int x.2.1, .int x.2.2])
structure HeapSmall (h : HeapM) : Prop where
  len : h.length < 64
  fl : ∀ i, (fieldsOf h i).length ≤ 1000
def sp__led (K : PySem.W.Frag) : Sp := SpOf (fun ((d, a, _, _, _) : Addr × Addr × HeapM × List V × List (Option Rf)) => [.ref d, .ref a]) fun (d, a, h, vs, st) H Q =>
  HeapAt H d h ∧ (SqL K H a vs ∨ SqT K H a vs) ∧ Paired (RfV H) vs st ∧ ValidH h st ∧ HeapSmall h ∧ vs.length ≤ 1000 ∧
  ∀ (t l1 l2 : Addr) (H' : Hp), Same H H' → H t = none → H l1 = none → H l2 = none → l1 ≠ l2 → H' t = some (.tup [.ref l1, .ref l2]) → H' l1 = some (.lst ((ledO h st).map V.int)) → PairsAt H' l2 (ledI h st) → Q (.ref t) H'
/-- what a reference is -/
theorem RfV.non_or {H : Hp} {v : V} {r : Option Rf} (h : RfV H v r) : (r = none ∧ v = .non) ∨ ((∃ i t, r = some (.obj i) ∧ v = .ref t ∧ H t = some (.tup [.str "object", .int i])) ∨ ∃ o e t, r = some (.imp o e) ∧ v = .ref t ∧ H t = some (.tup [.str "import", .int o, .int e])) := by
  match r, h with
  | none, h => exact .inl ⟨rfl, h⟩
  | some (.obj i), ⟨t, e, h⟩ => exact .inr (.inl ⟨i, t, rfl, e, h⟩)
  | some (.imp o e), ⟨t, e', h⟩ => exact .inr (.inr ⟨o, e, t, rfl, e', h⟩)
set_option maxHeartbeats 4000000 in
theorem ok__led (T : Txt K mg) : DefOk P w K mg base "_led" 1 ["heap", "start"] (sp__led K) := by
  refine DefOk.mk' T.d__led sc__led (fun _ _ _ _ _ _ us hl => match us, hl with | [_, _], _ => rfl) (fun _ => rfl) (fun cdv f A outer s H p Q E hr h => ?_)
  obtain ⟨d, a, hm, vs, st⟩ := p
  obtain ⟨hH, hS, hP, hV, hsm, hl, k⟩ := h
  refine ⟨_, (pss_cons (ps_set (i := 2) sc__led.nd rfl (.inl rfl) pe_dnewK)
    (pss_cons (ps_set (i := 3) sc__led.nd rfl (.inl rfl) pe_dnewT)
    (pss_cons (ps_set (i := 4) sc__led.nd rfl (.inl rfl) (pe_callTy (call_listK (K := K)) (by rfl) T.n_list (by decide +kernel) (pa_cons (pv 1) pa_nil)))
    (pss_cons (ps_while PassesOwn.never (truK (K := K) (pt_truth (pv 4) (by intro _; rfl)))
    (pss_cons (ps_set (i := 5) sc__led.nd rfl (.inl rfl) (bm0K (K := K) (pe_bm0 PySem.F.plainAttrs_list PySem.F.slot_list_pop PySem.F.type_list_pop  mt_pop (pv 4))))
    (pss_one (ps_if (PW.pt (pw_and (pt_cmpR op_notN (pv 5) pe_non (nomark _)) (pw_and1 (pt_cmpR op_eq (pe_ix (ix_tupK (K := K)) (pv 5) pe_int (fun _ _ => rfl)) (pe_coS T.c_IMPORT rfl) (nomark _)))))
    (pss_one (ps_dput hr.hu (pv 3) (pe_slice (sl_tupK (K := K)) (pv 5) (po_some pe_int) po_none) pe_bl rfl))
    (pss_one (ps_if (PW.pt (pw_and (pt_cmpR op_notN (pv 5) pe_non (nomark _)) (pw_and1 (pt_cmp (pc_dnotin hr.hu (pe_ix (ix_tupK (K := K)) (pv 5) pe_int (fun _ _ => rfl)) (pv 2))))))
    (pss_cons (ps_dput hr.hu (pv 2) (pe_ix (ix_tupK (K := K)) (pv 5) pe_int (fun _ _ => rfl)) pe_bl rfl)
    (pss_one (ps_expr (bmK (K := K) (pe_bm PySem.F.plainAttrs_list PySem.F.slot_list_extend PySem.F.type_list_extend  (mt_extT (K := K)) (pv 4) (pa_cons (pe_dget hr.hu (pv 0) (pe_ix (ix_tupK (K := K)) (pv 5) pe_int (fun _ _ => rfl)) (fun _ _ => rfl)) pa_nil))))))
    pss_nil))))))
    (pss_one (ps_ret (pe_tup (pa_cons (pe_callB (cr_sortDI rfl) (by rfl) T.n_sorted (by decide +kernel) (pa_cons (pv 2) pa_nil)) (pa_cons (pe_callB (cr_sortDT rfl) (by rfl) T.n_sorted (by decide +kernel) (pa_cons (pv 3) pa_nil)) pa_nil))))))))), ?_⟩
  obtain ⟨kvs, hd, hkv⟩ := hH
  intro o no i ni
  have noi : o ≠ i := fun e => by rw [e] at ni; rw [upd_same] at ni; cases ni
  have ni' : H i = none := (Same.free (nws no (Same.refl H)) ni)
  refine ⟨_, rfl, a, vs, rfl, ?_, fun w nw' => ?_⟩
  · rcases hS with hS | hS
    · exact .inl ((nws ni (nws no (Same.refl H))).seq hS)
    · exact .inr (sqT_fr (W := []) (Fr.of (nws ni (nws no (Same.refl H)))) (by simp) hS)
  have s0 : Same H (upd (upd (upd H o (.dK [])) i (.dT [])) w (.lst vs)) := nws nw' (nws ni (nws no (Same.refl H)))
  have nw0 : H w = none := (nws ni (nws no (Same.refl H))).free nw'
  have now : o ≠ w := fun e => by
    rw [← e] at nw'
    rw [upd_ne noi, upd_same] at nw'
    cases nw'
  have niw : i ≠ w := fun e => by
    rw [← e, upd_same] at nw'
    cases nw'
  let wl : Hp → Nat := fun H => match H w with | some (.lst xs) => xs.length | _ => 0
  let ol : Hp → Nat := fun H => match H o with | some (.dK xs) => xs.length | _ => 0
  refine while_by (fun σ H' => ∃ (v5 : Option V) (wv : List V) (ws : List (Option Rf)) (os : List Int) (is : List (Int × Int)), σ = [some (.ref d), some (.ref a), some (.ref o), some (.ref i), some (.ref w), v5] ∧
      Same H H' ∧ H' o = some (setI os) ∧ H' i = some (setP is) ∧ H' w = some (.lst wv) ∧ Paired (RfV H) wv ws ∧ Srch hm st ws os is ∧ is.length + (wv.length + 1001 * (hm.length - os.length)) ≤ 65200)
    (fun _ H' => wl H' + 1001 * (hm.length - ol H')) ?_ ?_ (fun σ H Q Q' h ⟨x, e, k, t, q⟩ => ⟨x, e, k, t, h _ _ q⟩)
  · refine ⟨none, vs, st, [], [], rfl, s0, ?_, ?_, upd_same, hP, Srch.start hm st, ?_⟩
    · rw [upd_ne now, upd_ne noi, upd_same]
      rfl
    · rw [upd_ne niw, upd_same]
      rfl
    · have := hsm.len
      simp only [List.length_nil]
      omega
  · rintro σ H' ⟨v5, wv, ws, os, is, rfl, sH, ho, hi, hw, hp, S, hb⟩
    refine ⟨_, rfl, !wv.isEmpty, .inl ⟨wv, SqL.of hw, rfl⟩, ite2 (fun hne => ?_) (fun hemp => ?_)⟩
    · have hne' : wv ≠ [] := fun e => by rw [e] at hne; cases hne
      obtain ⟨x, r, hx, hws, rx, hp'⟩ := paired_last hp hne'
      have hwl : wv.dropLast.length + 1 = wv.length := by
        have : 0 < wv.length := List.length_pos_iff.mpr hne'
        rw [List.length_dropLast]
        omega
      have hμ : wl H' + 1001 * (hm.length - ol H') = wv.length + 1001 * (hm.length - os.length) := by
        show (match H' w with | some (.lst xs) => xs.length | _ => 0) + 1001 * (hm.length - (match H' o with | some (.dK xs) => xs.length | _ => 0)) = _
        rw [hw, ho]
        show wv.length + 1001 * (hm.length - ((os.map _).map _).length) = _
        rw [List.length_map, List.length_map]
      refine ⟨_, rfl, .inl ⟨rfl, _, SqL.of hw⟩, w, wv, x, rfl, rfl, hw, hx, ?_⟩
      have sH1 : Same H (upd H' w (.lst wv.dropLast)) := same_mut sH nw0
      have ho1 : upd H' w (.lst wv.dropLast) o = some (setI os) := by rw [upd_ne now]; exact ho
      have hi1 : upd H' w (.lst wv.dropLast) i = some (setP is) := by rw [upd_ne niw]; exact hi
      have S' : Srch hm st (ws.dropLast ++ [r]) os is := by rw [← hws]; exact S
      have wl1 : ∀ (H2 : Hp) (wv2 : List V) (os2 : List Int), H2 w = some (.lst wv2) → H2 o = some (setI os2) → wv2.length + 1001 * (hm.length - os2.length) < wv.length + 1001 * (hm.length - os.length) → wl H2 + 1001 * (hm.length - ol H2) < wl H' + 1001 * (hm.length - ol H') := fun H2 wv2 os2 e1 e2 lt => by
        rw [hμ]
        show (match H2 w with | some (.lst xs) => xs.length | _ => 0) + 1001 * (hm.length - (match H2 o with | some (.dK xs) => xs.length | _ => 0)) < _
        rw [e1, e2]
        show wv2.length + 1001 * (hm.length - ((os2.map _).map _).length) < _
        rw [List.length_map, List.length_map]
        exact lt
      rcases rx.non_or with ⟨rfl, rfl⟩ | ⟨j, t, rfl, rfl, ht⟩ | ⟨p, e, t, rfl, rfl, ht⟩
      · refine ⟨_, rfl, rfl, _, rfl, ite2 (fun h => ?_) (fun _ => ?_)⟩
        · exact absurd h (by decide)
        refine ⟨_, rfl, rfl, _, rfl, ite2 (fun h => ?_) (fun _ => ?_)⟩
        · exact absurd h (by decide)
        refine ⟨⟨some .non, wv.dropLast, ws.dropLast, os, is, rfl, sH1, ho1, hi1, upd_same, hp', S'.skip (fun r q => nomatch q), by omega⟩, wl1 _ _ _ upd_same ho1 (by omega)⟩
      · have ht1 : SqT K (upd H' w (.lst wv.dropLast)) t [.str "object", .int j] := SqT.of (sH1 _ _ ht)
        refine ⟨_, rfl, rfl, _, rfl, ite2 (fun _ => ?_) (fun h => absurd rfl h)⟩
        refine ⟨_, rfl, t, _, 0, _, rfl, rfl, ht1, rfl, rfl, _, rfl, ite2 (fun h => ?_) (fun _ => ?_)⟩
        · exact absurd h (by decide)
        refine ⟨_, rfl, rfl, _, rfl, ite2 (fun _ => ?_) (fun h => absurd rfl h)⟩
        refine ⟨_, rfl, t, _, 1, _, rfl, rfl, ht1, rfl, _, rfl, o, _, rfl, .inl ⟨_, .inl j, .inl ho1, rfl, rfl⟩, ?_⟩
        refine ⟨_, rfl, ite2 (fun h => ?_) (fun h => ?_)⟩
        · have hj : j ∉ os := fun m => by
            rw [valV_set, if_pos (inl_mem.mpr m)] at h
            cases h
          have hfew := S.few hV
          have hjm : j ∈ hm.map (·.1) := (S'.w _ (List.mem_append_right _ List.mem_cons_self)).there hV
          have hfew2 := (S'.obj hj).few hV
          rw [List.length_append, List.length_singleton] at hfew2
          have hln := hsm.len
          refine ⟨_, rfl, _, rfl, t, _, 1, _, rfl, rfl, ht1, rfl, o, _, rfl, DPut.k (k := .inl j) ho1 (by rw [List.length_map, List.length_map]; exact small1000 (by omega)), ?_⟩
          rw [putK_setNew (fun m => hj (inl_mem.mp m)), ← show (os ++ [j]).map (Sum.inl : Int → Key) = os.map Sum.inl ++ [Sum.inl j] by rw [List.map_append]; rfl]
          have sH2 : Same H (upd (upd H' w (.lst wv.dropLast)) o (setI (os ++ [j]))) := same_mut sH1 no
          have hw2 : upd (upd H' w (.lst wv.dropLast)) o (setI (os ++ [j])) w = some (.lst wv.dropLast) := by rw [upd_ne (Ne.symm now), upd_same]
          have hi2 : upd (upd H' w (.lst wv.dropLast)) o (setI (os ++ [j])) i = some (setP is) := by rw [upd_ne (Ne.symm noi)]; exact hi1
          have ho2 : upd (upd H' w (.lst wv.dropLast)) o (setI (os ++ [j])) o = some (setI (os ++ [j])) := upd_same
          have hdl := valV_heap hkv j
          obtain ⟨fs, hfs⟩ := lookup_of_mem hjm
          obtain ⟨ft, fv, e1, e2, e3⟩ := hdl.2 fs hfs
          have efs : fieldsOf hm j = fs := by show (hm.lookup j).getD [] = fs; rw [hfs]; rfl
          have hfl : fv.length ≤ 1000 := by rw [Paired.length e3, ← efs]; exact hsm.fl j
          refine ⟨_, rfl, .inl ⟨rfl, _, SqL.of hw2⟩, _, rfl, _, rfl, t, _, 1, _, rfl, rfl, SqT.of (sH2 _ _ ht), rfl, d, _, rfl, .inl ⟨kvs, .inl j, .inl (sH2 _ _ hd), rfl, e1.symm⟩, w, ft, wv.dropLast, fv, rfl, rfl, hw2, SqT.of (sH2 _ _ e2), ?_, ?_⟩
          · exact Nat.le_of_lt (small100k (by omega))
          refine ⟨⟨some (.ref t), wv.dropLast ++ fv, ws.dropLast ++ fieldsOf hm j, os ++ [j], is, rfl, same_mut sH2 nw0, ?_, ?_, upd_same, ?_, S'.obj hj, ?_⟩, wl1 _ _ (os ++ [j]) upd_same ?_ ?_⟩
          · rw [upd_ne now]; exact ho2
          · rw [upd_ne niw]; exact hi2
          · rw [efs]
            exact paired_app hp' e3
          · rw [List.length_append, List.length_append, List.length_singleton]
            omega
          · rw [upd_ne now]; exact ho2
          · rw [List.length_append, List.length_append, List.length_singleton]
            omega
        · have hj : j ∈ os := Decidable.byContradiction fun m => by
            rw [valV_set, if_neg (fun z => m (inl_mem.mp z))] at h
            exact h rfl
          exact ⟨⟨_, wv.dropLast, ws.dropLast, os, is, rfl, sH1, ho1, hi1, upd_same, hp', S'.skip (fun r q => by cases q; exact hj), by omega⟩, wl1 _ _ _ upd_same ho1 (by omega)⟩
      · have ht1 : SqT K (upd H' w (.lst wv.dropLast)) t [.str "import", .int p, .int e] := SqT.of (sH1 _ _ ht)
        refine ⟨_, rfl, rfl, _, rfl, ite2 (fun _ => ?_) (fun h => absurd rfl h)⟩
        refine ⟨_, rfl, t, _, 0, _, rfl, rfl, ht1, rfl, rfl, _, rfl, ite2 (fun _ => ?_) (fun h => absurd rfl h)⟩
        have ecut : cutV [V.str "import", .int p, .int e] (some 1) none = (pairK (p, e)).map kV := (cutV_from (a := 1) rfl).trans rfl
        refine ⟨_, rfl, _, rfl, _, rfl, t, _, rfl, ht1, fun z => absurd (show HT.sIx 3 0 (some 1) = 0 from z.1) (by decide), fun _ q nq => ?_⟩
        have nqH : H q = none := sH1.free nq
        have sH2 := nws (u := .tup (cutV [V.str "import", .int p, .int e] (some 1) none)) nq sH1
        have niq : i ≠ q := fun z => by rw [← z, hi1] at nq; cases nq
        have noq : o ≠ q := fun z => by rw [← z, ho1] at nq; cases nq
        have nwq' : w ≠ q := fun z => by rw [← z, upd_same] at nq; cases nq
        refine ⟨i, _, rfl, DPut.t (k := pairK (p, e)) (by rw [upd_ne niq]; exact hi1) (by rw [upd_same, ecut]) (by rw [List.length_map, List.length_map]; exact small100k (by omega)), ?_⟩
        by_cases hm2 : (p, e) ∈ is
        · rw [putK_setOld (pairK_mem.mpr hm2)]
          refine ⟨⟨some (.ref t), wv.dropLast, ws.dropLast, os, is, rfl, same_mut sH2 ni', ?_, upd_same, ?_, hp', S'.skip (fun r z => by cases z; exact hm2), by omega⟩, wl1 _ wv.dropLast os ?_ ?_ (by omega)⟩
          · rw [upd_ne noi, upd_ne noq]; exact ho1
          · rw [upd_ne (Ne.symm niw), upd_ne nwq']; exact upd_same
          · rw [upd_ne (Ne.symm niw), upd_ne nwq']; exact upd_same
          · rw [upd_ne noi, upd_ne noq]; exact ho1
        · rw [putK_setNew (fun m => hm2 (pairK_mem.mp m)), ← show (is ++ [(p, e)]).map pairK = is.map pairK ++ [pairK (p, e)] by rw [List.map_append]; rfl]
          refine ⟨⟨some (.ref t), wv.dropLast, ws.dropLast, os, is ++ [(p, e)], rfl, same_mut sH2 ni', ?_, upd_same, ?_, hp', S'.imp hm2, by rw [List.length_append, List.length_singleton]; omega⟩, wl1 _ wv.dropLast os ?_ ?_ (by omega)⟩
          · rw [upd_ne noi, upd_ne noq]; exact ho1
          · rw [upd_ne (Ne.symm niw), upd_ne nwq']; exact upd_same
          · rw [upd_ne (Ne.symm niw), upd_ne nwq']; exact upd_same
          · rw [upd_ne noi, upd_ne noq]; exact ho1
    · have hemp' : wv = [] := by
        cases wv with
        | nil => rfl
        | cons x l => exact absurd rfl hemp
      subst hemp'
      have hws : ws = [] := by cases hp; rfl
      subst hws
      obtain ⟨d1, d2⟩ := S.done
      refine ⟨_, rfl, o, _, os, rfl, .inl ho, by rw [List.map_map]; exact List.map_id _, fun ys p1 y1 y2 np1 => ?_⟩
      have eys : ys = ledO hm st := ledO_eq hV (by
        have nd : ys.Nodup := y1.nodup_iff.mpr S.nd
        refine (List.Pairwise.and y2 nd).imp fun {x y} ⟨h1, h2⟩ => ?_
        show x < y
        omega) fun i => (y1.mem_iff).trans (d1 i)
      subst eys
      have sH1 := nws (u := .lst ((ledO hm st).map V.int)) np1 sH
      have hi1 : upd H' p1 (.lst ((ledO hm st).map V.int)) i = some (setP is) := nw np1 hi
      have kfe : ∀ l : List (Int × Int), ((l.map pairK).map fun k => (k, V.bl true)).map (fun kv => keyP kv.1) = l := fun l => by
        rw [List.map_map, List.map_map]
        exact List.map_id _
      refine ⟨_, rfl, i, _, rfl, .inl hi1, fun kv hkv => ?_, fun bs p2 pm pw tu np2 => ⟨(by show 2 ≤ sizeLine; decide), fun t nt => ?_⟩⟩
      · obtain ⟨kk, hk, rfl⟩ := List.mem_map.mp hkv
        obtain ⟨q, hq, rfl⟩ := List.mem_map.mp hk
        exact ⟨q.1, q.2, rfl⟩
      rw [kfe] at pm
      have ebs : bs.map (·.2) = ledI hm st := ledI_eq (by
        rw [List.pairwise_map]
        have nd : (bs.map (·.2)).Nodup := pm.nodup_iff.mpr S.ni
        refine (List.Pairwise.and pw (List.pairwise_map.mp nd)).imp fun {x y} ⟨h1, h2⟩ => ?_
        have h1 := SrtO.lexB_no.mp h1
        unfold ltP2
        have h3 : ¬ (x.2.1 = y.2.1 ∧ x.2.2 = y.2.2) := fun z => h2 (Prod.ext z.1 z.2)
        omega) fun o e => (pm.mem_iff).trans (d2 o e)
      have sH2 := nws (u := .lst (bs.map fun x => V.ref x.1)) np2 sH1
      have p1H : H p1 = none := sH.free np1
      have p2H : H p2 = none := sH1.free np2
      have p12 : p1 ≠ p2 := fun z => by rw [← z, upd_same] at np2; cases np2
      have p1t : p1 ≠ t := fun z => by rw [← z, upd_ne p12, upd_same] at nt; cases nt
      have p2t : p2 ≠ t := fun z => by rw [← z, upd_same] at nt; cases nt
      refine k t p1 p2 _ (nws nt sH2) (sH2.free nt) p1H p2H p12 upd_same ?_ ⟨bs, ebs, ?_, fun x hx => nw nt (nw np2 (tu x hx))⟩
      · rw [upd_ne p1t, upd_ne p12]
        exact upd_same
      · rw [upd_ne p2t]
        exact upd_same
def sp_led_objects (K : PySem.W.Frag) : Sp := SpOf (fun ((d, a, _, _, _) : Addr × Addr × HeapM × List V × List (Option Rf)) => [.ref d, .ref a]) fun (d, a, h, vs, st) H Q =>
  HeapAt H d h ∧ (SqL K H a vs ∨ SqT K H a vs) ∧ Paired (RfV H) vs st ∧ ValidH h st ∧ HeapSmall h ∧ vs.length ≤ 1000 ∧
  ∀ (l : Addr) (H' : Hp), Same H H' → H l = none → H' l = some (.lst ((ledO h st).map V.int)) → Q (.ref l) H'
set_option maxHeartbeats 4000000 in
theorem ok_led_objects (T : Txt K mg) : DefOk P w K mg base "led_objects" 2 ["heap", "start"] (sp_led_objects K) := by
  have G__led := ok__led (P := P) (w := w) (base := base) T
  refine DefOk.mk' T.d_led_objects sc_led_objects (fun _ _ _ _ _ _ us hl => match us, hl with | [_, _], _ => rfl) (fun _ => rfl) (fun cdv f A outer s H p Q E hr h => ?_)
  obtain ⟨d, a, hm, vs, st⟩ := p
  obtain ⟨hH, hS, hP, hV, hsm, hl, k⟩ := h
  refine ⟨_, (pss_one (ps_ret (pe_ix (ix_tupK (K := K)) (pe_callD G__led (hr.mono (by decide)) rfl (pa_cons (pv 0) (pa_cons (pv 1) pa_nil))) pe_int (fun _ _ => rfl)))), ?_⟩
  exact ⟨_, rfl, _, rfl, (d, a, hm, vs, st), rfl, hH, hS, hP, hV, hsm, hl, fun t l1 l2 H' s nt n1 n2 ne ht h1 h2 => ⟨t, _, 0, _, rfl, rfl, SqT.of ht, rfl, k l1 H' s n1 h1⟩⟩
def sp_led_imports (K : PySem.W.Frag) : Sp := SpOf (fun ((d, a, _, _, _) : Addr × Addr × HeapM × List V × List (Option Rf)) => [.ref d, .ref a]) fun (d, a, h, vs, st) H Q =>
  HeapAt H d h ∧ (SqL K H a vs ∨ SqT K H a vs) ∧ Paired (RfV H) vs st ∧ ValidH h st ∧ HeapSmall h ∧ vs.length ≤ 1000 ∧
  ∀ (l : Addr) (H' : Hp), Same H H' → H l = none → PairsAt H' l (ledI h st) → Q (.ref l) H'
set_option maxHeartbeats 4000000 in
theorem ok_led_imports (T : Txt K mg) : DefOk P w K mg base "led_imports" 2 ["heap", "start"] (sp_led_imports K) := by
  have G__led := ok__led (P := P) (w := w) (base := base) T
  refine DefOk.mk' T.d_led_imports sc_led_imports (fun _ _ _ _ _ _ us hl => match us, hl with | [_, _], _ => rfl) (fun _ => rfl) (fun cdv f A outer s H p Q E hr h => ?_)
  obtain ⟨d, a, hm, vs, st⟩ := p
  obtain ⟨hH, hS, hP, hV, hsm, hl, k⟩ := h
  refine ⟨_, (pss_one (ps_ret (pe_ix (ix_tupK (K := K)) (pe_callD G__led (hr.mono (by decide)) rfl (pa_cons (pv 0) (pa_cons (pv 1) pa_nil))) pe_int (fun _ _ => rfl)))), ?_⟩
  exact ⟨_, rfl, _, rfl, (d, a, hm, vs, st), rfl, hH, hS, hP, hV, hsm, hl, fun t l1 l2 H' s nt n1 n2 ne ht h1 h2 => ⟨t, _, 1, _, rfl, rfl, SqT.of ht, rfl, k l2 H' s n2 h2⟩⟩

end
section
open PySem PySem.Spec PyProof.Rows L2
variable {P : Program} {w : World} {K : PySem.W.Frag} {mg : Str → Option Value} {base : Heap}
/-! ### references as data -/
def refD : Option Rf → PyData
  | none => .none
  | some (.obj i) => .tuple [.str "object", .int i]
  | some (.imp o e) => .tuple [.str "import", .int o, .int e]
theorem dp_ref {H : Hp} {v : V} {r : Option Rf} (h : RfV H v r) : Dp K H v (refD r) := by
  rcases h.non_or with ⟨rfl, rfl⟩ | ⟨j, t, rfl, rfl, ht⟩ | ⟨p, e, t, rfl, rfl, ht⟩
  · exact .non
  · exact .tup (SqT.of ht) (.cons (.str _) (.cons (.int _) .nil))
  · exact .tup (SqT.of ht) (.cons (.str _) (.cons (.int _) (.cons (.int _) .nil)))
theorem dp_refs {H : Hp} : ∀ {vs : List V} {rs : List (Option Rf)}, Paired (RfV H) vs rs → DpAll K H vs (rs.map refD)
  | _, _, .nil => .nil
  | _, _, .cons r t => .cons (dp_ref r) (dp_refs t)
theorem refD_eqv (r s : Option Rf) : PyData.eqv (refD r) (refD s) = decide (r = s) := by
  match r, s with
  | none, none => rfl
  | none, some (.obj _) => rfl
  | none, some (.imp _ _) => rfl
  | some (.obj _), none => rfl
  | some (.imp _ _), none => rfl
  | some (.obj i), some (.obj j) =>
    simp only [refD, PyData.eqv, PyData.eqvAll]
    by_cases h : i = j
    · subst h; simp
    · simp [h]
  | some (.obj i), some (.imp _ _) => simp [refD, PyData.eqv, PyData.eqvAll]
  | some (.imp _ _), some (.obj i) => simp [refD, PyData.eqv, PyData.eqvAll]
  | some (.imp a b), some (.imp c d) =>
    simp only [refD, PyData.eqv, PyData.eqvAll]
    by_cases h : a = c
    · subst h
      by_cases h : b = d
      · subst h; simp
      · simp [h]
    · simp [h]
theorem ascii_lt {z : Str} (h : z.cps.toList.all (fun c => decide (c < 0x110000)) = true) : ∀ c ∈ z.cps.toList, c < 0x110000 := fun c hc => of_decide_eq_true (List.all_eq_true.mp h c hc)
theorem sh_ref {n : Nat} : ∀ r : Option Rf, Sh (n + 1) (refD r)
  | none => sh_non
  | some (.obj i) => sh_tuple fun d hd => by
    simp only [List.mem_cons, List.not_mem_nil, or_false] at hd
    rcases hd with rfl | rfl
    · exact sh_str (ascii_lt (by decide))
    · exact sh_int _
  | some (.imp o e) => sh_tuple fun d hd => by
    simp only [List.mem_cons, List.not_mem_nil, or_false] at hd
    rcases hd with rfl | rfl | rfl
    · exact sh_str (ascii_lt (by decide))
    · exact sh_int _
    · exact sh_int _
theorem sh_refs {n : Nat} (rs : List (Option Rf)) : Sh (n + 2) (.list (rs.map refD)) := sh_list fun d hd => by
  obtain ⟨r, _, rfl⟩ := List.mem_map.mp hd
  exact sh_ref r
theorem refs_any (rs : List (Option Rf)) (r : Option Rf) : ((rs.map refD).any fun z => PyData.eqv z (refD r)) = decide (r ∈ rs) := by
  induction rs with
  | nil => simp
  | cons s rs ih =>
    rw [List.map_cons, List.any_cons, ih, refD_eqv]
    by_cases h : s = r
    · subst h; simp
    · have h' : ¬ r = s := fun e => h e.symm
      simp [h, h']
/-- one object with its fields -/
def objD (e : Int × List (Option Rf)) : PyData := .tuple [.int e.1, .tuple (e.2.map refD)]
theorem sh_obj {n : Nat} (e : Int × List (Option Rf)) : Sh (n + 3) (objD e) := sh_tuple fun d hd => by
  simp only [List.mem_cons, List.not_mem_nil, or_false] at hd
  rcases hd with rfl | rfl
  · exact sh_int _
  · exact sh_tuple fun d hd => by
      obtain ⟨r, _, rfl⟩ := List.mem_map.mp hd
      exact sh_ref r
theorem sh_objs {n : Nat} (h : HeapM) : Sh (n + 4) (.list (h.map objD)) := sh_list fun d hd => by
  obtain ⟨e, _, rfl⟩ := List.mem_map.mp hd
  exact sh_obj e
theorem dp_obj {H : Hp} {kv : Key × V} {e : Int × List (Option Rf)} {t : Addr} (ht : H t = some (.tup [kV kv.1, kv.2])) (o : ObjV H kv e) : Dp K H (.ref t) (objD e) := by
  obtain ⟨h1, a, vs, h2, h3, h4⟩ := o
  rw [h1, h2] at ht
  exact .tup (SqT.of ht) (.cons (.int _) (.cons (.tup (SqT.of h3) (dp_refs h4)) .nil))
theorem dp_objs {H : Hp} : ∀ {ts : List Addr} {kvs : List (Key × V)} {h : HeapM}, Paired (fun (t : Addr) (q : Key × V) => H t = some (.tup [kV q.1, q.2])) ts kvs → Paired (ObjV H) kvs h → DpAll K H (ts.map V.ref) (h.map objD)
  | _, _, _, .nil, .nil => .nil
  | _, _, _, .cons r t, .cons o u => .cons (dp_obj r o) (dp_objs t u)
/-- pairs as data -/
def pairD (p : Int × Int) : PyData := .tuple [.int p.1, .int p.2]
theorem sh_pair {n : Nat} (p : Int × Int) : Sh (n + 1) (pairD p) := sh_tuple fun d hd => by
  simp only [List.mem_cons, List.not_mem_nil, or_false] at hd
  rcases hd with rfl | rfl
  · exact sh_int _
  · exact sh_int _
theorem pairD_eqv (p q : Int × Int) : PyData.eqv (pairD p) (pairD q) = decide (p = q) := by
  obtain ⟨a, b⟩ := p
  obtain ⟨c, d⟩ := q
  simp only [pairD, PyData.eqv, PyData.eqvAll]
  by_cases h : a = c
  · subst h
    by_cases h : b = d
    · subst h; simp
    · simp [h]
  · simp [h]
theorem dp_pairs {H : Hp} {l : Addr} {ps : List (Int × Int)} (h : PairsAt H l ps) : Dp K H (.ref l) (.list (ps.map pairD)) := by
  obtain ⟨bs, e, h1, h2⟩ := h
  subst e
  refine .lst (SqL.of h1) ?_
  clear h1
  induction bs with
  | nil => exact .nil
  | cons b bs ih => exact .cons (.tup (SqT.of (h2 b List.mem_cons_self)) (.cons (.int _) (.cons (.int _) .nil))) (ih fun x hx => h2 x (List.mem_cons_of_mem _ hx))
theorem sr_pair {n : Nat} {p : Int × Int} (h1 : p.1.natAbs < 10 ^ 12) (h2 : p.2.natAbs < 10 ^ 12) : Sr (n + 1) 100 (pairD p) := (sr_tuple (n := n) (m := 40) (L := 2) (fun d hd => by
  simp only [List.mem_cons, List.not_mem_nil, or_false] at hd
  rcases hd with rfl | rfl
  · exact sr_int h1
  · exact sr_int h2) (Nat.le_refl _)).mono (Nat.le_refl _) (by decide)

end
section
open PySem PySem.Spec PyProof.Rows L2
variable {P : Program} {w : World} {K : PySem.W.Frag} {mg : Str → Option Value} {base : Heap}
/-! ### the draws of a law -/
def sp__law_cell (K : PySem.W.Frag) : Sp := SpOf (fun ((a, _, i) : Addr × List Int × Int) => [.ref a, .int i]) fun (a, ns, i) H Q => SqL K H a (ns.map V.int) ∧ 0 ≤ i ∧ ∀ v, Q (.int v) H
set_option maxHeartbeats 4000000 in
theorem ok__law_cell (T : Txt K mg) : DefOk P w K mg base "_law_cell" 1 ["_law_script", "_law_k"] (sp__law_cell K) := by
  refine DefOk.mk' T.d__law_cell sc__law_cell (fun _ _ _ _ _ _ us hl => match us, hl with | [_, _], _ => rfl) (fun _ => rfl) (fun cdv f A outer s H p Q E hr h => ?_)
  obtain ⟨a, ns, i⟩ := p
  obtain ⟨hS, hi, k⟩ := h
  refine ⟨_, (pss_cons (ps_if (pt_cmpR op_lt (pv 1) (pe_callB (call_lenK (K := K)) (by rfl) T.n_len (by decide +kernel) (pa_cons (pv 0) pa_nil)) (nomark _))
    (pss_one (ps_ret (pe_ix (ix_listK (K := K)) (pv 0) (pv 1) (fun _ _ => rfl))))
    pss_nil)
    (pss_one (ps_ret pe_int))), ?_⟩
  refine ⟨_, rfl, .ref a, rfl, a, _, rfl, .inl hS, _, _, rfl, rfl, _, rfl, ite2 (fun h => ?_) (fun h => ?_)⟩
  · have h : i < ((ns.map V.int).length : Int) := of_decide_eq_true h
    rw [List.length_map] at h
    obtain ⟨j, rfl⟩ : ∃ j : Nat, i = (j : Int) := ⟨i.toNat, by omega⟩
    have hj : j < ns.length := by omega
    refine ⟨_, rfl, _, rfl, a, _, _, .int ns[j], rfl, rfl, hS, atI_nat ?_, k _⟩
    rw [List.getElem?_map, List.getElem?_eq_getElem hj]
    rfl
  · exact k _
def sp__law_digits (K : PySem.W.Frag) : Sp := SpOf (fun ((a, _, lo, hi) : Addr × List Int × Int × Int) => [.ref a, .int lo, .int hi]) fun (a, ns, lo, hi) H Q =>
  SqL K H a (ns.map V.int) ∧ 0 ≤ lo ∧ lo ≤ hi ∧ hi ≤ 1000 ∧ ∀ (l : Addr) (ds : List Int), H l = none → ds.length ≤ 60 * (hi - lo).toNat → Q (.ref l) (upd H l (.lst (ds.map V.int)))
set_option maxHeartbeats 4000000 in
theorem ok__law_digits (T : Txt K mg) : DefOk P w K mg base "_law_digits" 2 ["_law_script", "_law_first", "_law_last"] (sp__law_digits K) := by
  have G__law_cell := ok__law_cell (P := P) (w := w) (base := base) T
  refine DefOk.mk' T.d__law_digits sc__law_digits (fun _ _ _ _ _ _ us hl => match us, hl with | [_, _, _], _ => rfl) (fun _ => rfl) (fun cdv f A outer s H p Q E hr h => ?_)
  obtain ⟨a, ns, lo, hi⟩ := p
  obtain ⟨hS, h0, h1, h2, k⟩ := h
  refine ⟨_, (pss_cons (ps_set (i := 3) sc__law_digits.nd rfl (.inl rfl) (pe_lst pa_nil))
    (pss_cons (ps_for PassesOwn.never rfl (pi_range2 rfl T.n_range (pa_cons (pv 1) (pa_cons (pv 2) pa_nil))) (pg_name (i := 4) sc__law_digits.nd rfl (.inl rfl))
    (pss_cons (ps_set (i := 5) sc__law_digits.nd rfl (.inl rfl) (pe_callD G__law_cell (hr.mono (by decide)) rfl (pa_cons (pv 0) (pa_cons (pv 4) pa_nil))))
    (C8.pss_cut (ps_if (pt_cmpR op_lt (pv 5) pe_int (nomark _))
    (pss_one (ps_set (i := 5) sc__law_digits.nd rfl (.inl rfl) (pe_op op_sub pe_int (pe_op op_mul pe_int (pv 5)))))
    pss_nil)
    (pss_one (ps_if (pt_cmpR op_ge (pv 5) pe_int (nomark _))
    (pss_one (ps_for PassesOwn.never rfl (pi_range1 rfl T.n_range (pa_cons pe_int pa_nil)) (pg_name (i := 6) sc__law_digits.nd rfl (.inl rfl))
    (pss_one (ps_if (pt_cmpR op_gt (pv 5) pe_int (nomark _))
    (pss_cons (ps_expr (bmK (K := K) (pe_bm PySem.F.plainAttrs_list PySem.F.slot_list_append PySem.F.type_list_append mt_append (pv 3) (pa_cons (pe_op op_modN (pe_callTy call_int1 (by rfl) T.n_int (by decide +kernel) (pa_cons (pv 5) pa_nil)) pe_int) pa_nil))))
    (pss_one (ps_set (i := 5) sc__law_digits.nd rfl (.inl rfl) (pe_op op_fdivN (pv 5) pe_int))))
    pss_nil))))
    (pss_cons (ps_set (i := 7) sc__law_digits.nd rfl (.inl rfl) (pe_op op_modN (pe_callTy call_int1 (by rfl) T.n_int (by decide +kernel) (pa_cons (pe_op op_add (pe_op op_add (pe_op op_mul (pv 5) pe_int) (pe_op op_mul (pv 4) pe_int)) pe_int) pa_nil)) pe_int))
    (pss_one (ps_for PassesOwn.never rfl (pi_range1 rfl T.n_range (pa_cons pe_int pa_nil)) (pg_name (i := 6) sc__law_digits.nd rfl (.inl rfl))
    (pss_cons (ps_set (i := 7) sc__law_digits.nd rfl (.inl rfl) (pe_op op_modN (pe_callTy call_int1 (by rfl) T.n_int (by decide +kernel) (pa_cons (pe_op op_add (pe_op op_add (pe_op op_mul (pv 7) pe_int) (pe_op op_mul pe_int (pv 6))) pe_int) pa_nil)) pe_int))
    (pss_one (ps_expr (bmK (K := K) (pe_bm PySem.F.plainAttrs_list PySem.F.slot_list_append PySem.F.type_list_append mt_append (pv 3) (pa_cons (pe_op op_modN (pe_callTy call_int1 (by rfl) T.n_int (by decide +kernel) (pa_cons (pe_op op_fdivN (pv 7) pe_int) pa_nil)) pe_int) pa_nil))))))))))))))
    (pss_one (ps_ret (pv 3))))), ?_⟩
  refine ⟨Nat.zero_le _, fun o no => ?_⟩
  have hSo : ∀ ds : List Int, SqL K (upd H o (.lst (ds.map V.int))) a (ns.map V.int) := fun ds => (Fr.same (Fr.new no)).seq hS
  refine ⟨_, rfl, _, rfl, _, _, rfl, ⟨by omega, by omega, by omega, by omega⟩, for_range (lo := lo) (n := (hi - lo).toNat)
    (fun i σ H' => ∃ (ds : List Int) (v4 v5 v6 v7 : Option V), σ = [some (.ref a), some (.int lo), some (.int hi), some (.ref o), v4, v5, v6, v7] ∧ ds.length ≤ 60 * i ∧ H' = upd H o (.lst (ds.map V.int)))
    ⟨[], none, none, none, none, rfl, Nat.le_refl _, rfl⟩ ?_ ?_⟩
  · rintro i σ H' hi' ⟨ds, v4, v5, v6, v7, rfl, hl, rfl⟩
    refine ⟨_, rfl, _, rfl, (a, ns, lo + i), rfl, hSo ds, by show 0 ≤ lo + (i : Int); omega, fun c => ?_⟩
    refine ⟨fun σ H' => ∃ z, σ = [some (.ref a), some (.int lo), some (.int hi), some (.ref o), some (.int (lo + i)), some (.int z), v6, v7] ∧ H' = upd H o (.lst (ds.map V.int)), ?_, ?_⟩
    · refine ⟨_, rfl, _, _, rfl, rfl, _, rfl, ite2 (fun _ => ?_) (fun _ => ⟨c, rfl, rfl⟩)⟩
      exact ⟨_, rfl, _, _, rfl, rfl, .inl ⟨by decide, by decide⟩, _, _, rfl, rfl, _, rfl, rfl⟩
    · rintro σ H' ⟨z, rfl, rfl⟩
      refine ⟨_, rfl, _, _, rfl, rfl, _, rfl, ite2 (fun _ => ?_) (fun _ => ?_)⟩
      · refine ⟨60, rfl, by decide, by decide, for_range (lo := 0) (n := 60)
          (fun j σ H' => ∃ (ds' : List Int) (z : Int) (v6 : Option V), σ = [some (.ref a), some (.int lo), some (.int hi), some (.ref o), some (.int (lo + i)), some (.int z), v6, v7] ∧ ds'.length ≤ 60 * i + j ∧ H' = upd H o (.lst (ds'.map V.int)))
          ⟨ds, z, _, rfl, hl, rfl⟩ ?_ fun σ H' ⟨ds', z, v6, e, hl', e'⟩ => ⟨ds', _, _, _, _, e, by omega, e'⟩⟩
        rintro j σ H' hj ⟨ds', z, v6, rfl, hl', rfl⟩
        refine ⟨_, rfl, _, _, rfl, rfl, _, rfl, ite2 (fun _ => ?_) (fun _ => ⟨ds', z, _, rfl, by omega, rfl⟩)⟩
        refine ⟨_, rfl, .inl ⟨rfl, _, SqL.of upd_same⟩, _, rfl, .inl ⟨_, rfl, _, _, rfl, rfl, (by show (1000 : Int) ≠ 0; decide), o, _, _, rfl, rfl, upd_same, ?_, _, rfl, _, _, rfl, rfl, ⟨by decide, by decide⟩, ?_⟩⟩
        · rw [List.length_map]
          exact small100k (by omega)
        · refine ⟨_, _, _, rfl, ?_, upd_snocI⟩
          rw [List.length_append]
          show ds'.length + 1 ≤ _
          omega
      · refine ⟨_, rfl, _, _, rfl, rfl, .inr ⟨by decide, by decide⟩, _, rfl, _, _, rfl, rfl, .inr ⟨by decide, by decide⟩, _, _, rfl, rfl, _, _, rfl, rfl, .inl ⟨_, rfl, _, _, rfl, rfl, (by show (2147483399 : Int) ≠ 0; decide), ?_⟩⟩
        refine ⟨12, rfl, by decide, by decide, for_range (lo := 0) (n := 12)
          (fun j σ H' => ∃ (ds' : List Int) (y : Int) (v6 : Option V), σ = [some (.ref a), some (.int lo), some (.int hi), some (.ref o), some (.int (lo + i)), some (.int z), v6, some (.int y)] ∧ ds'.length ≤ 60 * i + j ∧ H' = upd H o (.lst (ds'.map V.int)))
          ⟨ds, _, _, rfl, hl, rfl⟩ ?_ fun σ H' ⟨ds', y, v6, e, hl', e'⟩ => ⟨ds', _, _, _, _, e, by omega, e'⟩⟩
        rintro j σ H' hj ⟨ds', y, v6, rfl, hl', rfl⟩
        refine ⟨_, rfl, _, _, rfl, rfl, .inr ⟨by decide, by decide⟩, _, rfl, _, _, rfl, rfl, .inl ⟨by decide, by decide⟩, _, _, rfl, rfl, _, _, rfl, rfl, .inl ⟨_, rfl, _, _, rfl, rfl, (by show (2147483563 : Int) ≠ 0; decide), ?_⟩⟩
        refine ⟨_, rfl, .inl ⟨rfl, _, SqL.of upd_same⟩, _, rfl, _, _, rfl, rfl, ⟨by decide, by decide⟩, .inl ⟨_, rfl, _, _, rfl, rfl, (by show (1000 : Int) ≠ 0; decide), o, _, _, rfl, rfl, upd_same, ?_, ?_⟩⟩
        · rw [List.length_map]
          exact small100k (by omega)
        · refine ⟨_, _, _, rfl, ?_, upd_snocI⟩
          rw [List.length_append]
          show ds'.length + 1 ≤ _
          omega
  · rintro σ H' ⟨ds, v4, v5, v6, v7, rfl, hl, rfl⟩
    exact ⟨_, rfl, k o ds no hl⟩


/-! the box of the draws: its digits, and how many were drawn -/
def BoxAt (H : Hp) (b l : Addr) : Prop := ∃ (ds : List Int) (at_ : Int), H b = some (.lst [.ref l, .int at_]) ∧ H l = some (.lst (ds.map V.int)) ∧ 0 ≤ at_ ∧ l ≠ b
theorem BoxAt.fr {W : List Addr} {H H' : Hp} {b l : Addr} (B : BoxAt H b l) (f : Fr W H H') (hb : b ∉ W) (hl : l ∉ W) : BoxAt H' b l := by
  obtain ⟨ds, z, h1, h2, h3, h4⟩ := B
  exact ⟨ds, z, f _ _ hb h1, f _ _ hl h2, h3, h4⟩
theorem BoxAt.same {H H' : Hp} {b l : Addr} (B : BoxAt H b l) (f : Same H H') : BoxAt H' b l := B.fr (W := []) (Fr.of f) (by simp) (by simp)
theorem BoxAt.new {H : Hp} {b l p : Addr} {u : HO} (B : BoxAt H b l) (hp : H p = none) : BoxAt (upd H p u) b l := B.same fun a o e => nw hp e
theorem BoxAt.ne {H : Hp} {b l p : Addr} (B : BoxAt H b l) (hp : H p = none) : b ≠ p ∧ l ≠ p := by
  obtain ⟨ds, z, h1, h2, h3, h4⟩ := B
  exact ⟨fun e => (by rw [e, hp] at h1; cases h1), fun e => (by rw [e, hp] at h2; cases h2)⟩
theorem BoxAt.put {H : Hp} {b l p : Addr} {u : HO} (B : BoxAt H b l) (hp : b ≠ p ∧ l ≠ p) : BoxAt (upd H p u) b l := B.fr (W := [p]) (Fr.upd List.mem_cons_self) (by simp [hp.1]) (by simp [hp.2])
def sp__law_draw (K : PySem.W.Frag) : Sp := SpOf (fun ((b, _, m) : Addr × Addr × Int) => [.ref b, .int m]) fun (b, l, m) H Q =>
  BoxAt H b l ∧ 0 < m ∧ ∀ (r : Int) (H' : Hp), 0 ≤ r → r < m → BoxAt H' b l → Fr [b] H H' → Q (.int r) H'
set_option maxHeartbeats 4000000 in
theorem ok__law_draw (T : Txt K mg) : DefOk P w K mg base "_law_draw" 1 ["_law_box", "_law_many"] (sp__law_draw K) := by
  refine DefOk.mk' T.d__law_draw sc__law_draw (fun _ _ _ _ _ _ us hl => match us, hl with | [_, _], _ => rfl) (fun _ => rfl) (fun cdv f A outer s H p Q E hr h => ?_)
  obtain ⟨b, l, m⟩ := p
  obtain ⟨⟨ds, z, hb, hl, hz, ne⟩, hm, k⟩ := h
  refine ⟨_, (pss_cons (ps_set (i := 2) sc__law_draw.nd rfl (.inl rfl) (pe_ix (ix_listK (K := K)) (pv 0) pe_int (fun _ _ => rfl)))
    (pss_cons (ps_asg (pe_op op_add (pv 2) pe_int) (pg_sub (pv 0) pe_int set_list))
    (pss_cons (ps_if (pt_cmpR op_lt (pv 2) (pe_callB (call_lenK (K := K)) (by rfl) T.n_len (by decide +kernel) (pa_cons (pe_ix (ix_listK (K := K)) (pv 0) pe_int (fun _ _ => rfl)) pa_nil)) (nomark _))
    (pss_one (ps_ret (pe_op op_modN (pe_callTy call_int1 (by rfl) T.n_int (by decide +kernel) (pa_cons (pe_ix (ix_listK (K := K)) (pe_ix (ix_listK (K := K)) (pv 0) pe_int (fun _ _ => rfl)) (pv 2) (fun _ _ => rfl)) pa_nil)) (pv 1))))
    pss_nil)
    (pss_one (ps_ret (pe_op op_modN (pe_callTy call_int1 (by rfl) T.n_int (by decide +kernel) (pa_cons (pe_op op_add (pe_op op_mul (pv 2) pe_int) pe_int) pa_nil)) (pv 1))))))), ?_⟩
  have B' : BoxAt (upd H b (.lst [.ref l, .int (z + 1)])) b l := ⟨ds, z + 1, upd_same, by rw [upd_ne ne]; exact hl, by omega, ne⟩
  have f' : Fr [b] H (upd H b (.lst [.ref l, .int (z + 1)])) := Fr.upd List.mem_cons_self
  have hl2 : SqL K (upd H b (.lst [.ref l, .int (z + 1)])) l (ds.map V.int) := SqL.of (by rw [upd_ne ne]; exact hl)
  refine ⟨_, rfl, b, _, 1, .int z, rfl, rfl, SqL.of hb, rfl, _, rfl, _, _, rfl, rfl, _, rfl, b, _, 1, 1, rfl, rfl, hb, rfl, ?_⟩
  refine ⟨_, rfl, _, rfl, b, _, 0, .ref l, rfl, rfl, SqL.of upd_same, rfl, l, _, rfl, .inl hl2, _, _, rfl, rfl, _, rfl, ite2 (fun h => ?_) (fun _ => ?_)⟩
  · have h : z < ((ds.map V.int).length : Int) := of_decide_eq_true h
    rw [List.length_map] at h
    obtain ⟨j, rfl⟩ : ∃ j : Nat, z = (j : Int) := ⟨z.toNat, by omega⟩
    have hj : j < ds.length := by omega
    refine ⟨_, rfl, b, _, 0, .ref l, rfl, rfl, SqL.of upd_same, rfl, _, rfl, l, _, _, .int ds[j], rfl, rfl, hl2, atI_nat (by rw [List.getElem?_map, List.getElem?_eq_getElem hj]; rfl), .inl ⟨_, rfl, _, rfl, _, _, rfl, rfl, (by show m ≠ 0; omega), ?_⟩⟩
    exact k _ _ (Int.fmod_nonneg_of_pos _ hm) (Int.fmod_lt_of_pos _ hm) B' f'
  · refine ⟨_, rfl, _, _, rfl, rfl, .inr ⟨by decide, by decide⟩, _, _, rfl, rfl, .inl ⟨_, rfl, _, rfl, _, _, rfl, rfl, (by show m ≠ 0; omega), ?_⟩⟩
    exact k _ _ (Int.fmod_nonneg_of_pos _ hm) (Int.fmod_lt_of_pos _ hm) B' f'

end
section
open PySem PySem.Spec PyProof.Rows L2
variable {P : Program} {w : World} {K : PySem.W.Frag} {mg : Str → Option Value} {base : Heap}
def sp__law_alike (K : PySem.W.Frag) : Sp := SpOf (fun ((x, y, _, _, _) : V × V × PyData × Nat × Nat) => [x, y]) fun (x, y, d, n, m) H Q => Dp K H x d ∧ Dp K H y d ∧ Sr n m d ∧ n ≤ 60 ∧ m ≤ 2 ^ 20 ∧ Q (.bl true) H
set_option maxHeartbeats 4000000 in
theorem ok__law_alike (T : Txt K mg) : DefOk P w K mg base "_law_alike" 1 ["_law_one", "_law_two"] (sp__law_alike K) := by
  refine DefOk.mk' T.d__law_alike sc__law_alike (fun _ _ _ _ _ _ us hl => match us, hl with | [_, _], _ => rfl) (fun _ => rfl) (fun cdv f A outer s H p Q E hr h => ?_)
  obtain ⟨x, y, d, n, m⟩ := p
  obtain ⟨h1, h2, hs, hn, hm, k⟩ := h
  refine ⟨_, (pss_one (ps_ret (pe_cmpR op_eq (pe_callB (call_repr (K := K) ⟨hr.gd, hr.units⟩) (by rfl) T.n_repr (by decide +kernel) (pa_cons (pv 0) pa_nil)) (pe_callB (call_repr (K := K) ⟨hr.gd, hr.units⟩) (by rfl) T.n_repr (by decide +kernel) (pa_cons (pv 1) pa_nil)) (nomark _)))), ?_⟩
  refine ⟨_, rfl, x, d, n, m, rfl, h1, hs, hn, hm, _, rfl, y, d, n, m, rfl, h2, hs, hn, hm, rfl, ?_⟩
  rw [decide_eq_true rfl]
  exact k
/-- tuples stay where only a list is written -/
theorem Fr.tups {H H' : Hp} {b : Addr} (f : Fr [b] H H') (hb : ∃ xs, H b = some (.lst xs)) : ∀ a xs, H a = some (.tup xs) → H' a = some (.tup xs) := fun a xs h => f a _ (fun m => by
  obtain ⟨ys, e⟩ := hb
  rw [List.mem_singleton.mp m, e] at h
  cases h) h
theorem BoxAt.isLst {H : Hp} {b l : Addr} (B : BoxAt H b l) : ∃ xs, H b = some (.lst xs) := by
  obtain ⟨ds, z, h1, _⟩ := B
  exact ⟨_, h1⟩
/-- a reference of the law: an object below many, a small import, or none -/
def OkRf (many : Int) : Option Rf → Prop
  | none => True
  | some (.obj i) => ∃ j : Nat, (j : Int) < many ∧ i = 3 * j
  | some (.imp o e) => 0 ≤ o ∧ o < 4 ∧ 0 ≤ e ∧ e < 3
def sp__law_reference (K : PySem.W.Frag) : Sp := SpOf (fun ((b, _, m) : Addr × Addr × Int) => [.ref b, .int m]) fun (b, l, m) H Q =>
  BoxAt H b l ∧ ∀ (v : V) (r : Option Rf) (H' : Hp), RfV H' v r → OkRf m r → BoxAt H' b l → Fr [b] H H' → Q v H'
set_option maxHeartbeats 4000000 in
theorem ok__law_reference (T : Txt K mg) : DefOk P w K mg base "_law_reference" 2 ["_law_box", "_law_many"] (sp__law_reference K) := by
  have G__law_draw := ok__law_draw (P := P) (w := w) (base := base) T
  refine DefOk.mk' T.d__law_reference sc__law_reference (fun _ _ _ _ _ _ us hl => match us, hl with | [_, _], _ => rfl) (fun _ => rfl) (fun cdv f A outer s H p Q E hr h => ?_)
  obtain ⟨b, l, m⟩ := p
  obtain ⟨hB, k⟩ := h
  refine ⟨_, (pss_cons (ps_set (i := 2) sc__law_reference.nd rfl (.inl rfl) (pe_callD G__law_draw (hr.mono (by decide)) rfl (pa_cons (pv 0) (pa_cons pe_int pa_nil))))
    (pss_cons (ps_if (PW.pt (pw_and (pt_cmpR op_le (pv 2) pe_int (nomark _)) (pw_and1 (pt_cmpR op_gt (pv 1) pe_int (nomark _)))))
    (pss_one (ps_ret (pe_tup (pa_cons pe_str (pa_cons (pe_op op_mul pe_int (pe_callD G__law_draw (hr.mono (by decide)) rfl (pa_cons (pv 0) (pa_cons (pv 1) pa_nil)))) pa_nil)))))
    pss_nil)
    (pss_cons (ps_if (pt_cmpR op_eq (pv 2) pe_int (nomark _))
    (pss_one (ps_ret (pe_tup (pa_cons pe_str (pa_cons (pe_callD G__law_draw (hr.mono (by decide)) rfl (pa_cons (pv 0) (pa_cons pe_int pa_nil))) (pa_cons (pe_callD G__law_draw (hr.mono (by decide)) rfl (pa_cons (pv 0) (pa_cons pe_int pa_nil))) pa_nil))))))
    pss_nil)
    (pss_one (ps_ret pe_non))))), ?_⟩
  refine ⟨_, rfl, (b, l, 5), rfl, hB, by decide, fun r H1 r0 r5 B1 f1 => ?_⟩
  have last : ∀ H2, BoxAt H2 b l → Fr [b] H H2 → Q .non H2 := fun H2 B2 f2 => k .non none H2 rfl trivial B2 f2
  refine ⟨_, rfl, _, _, rfl, rfl, _, rfl, ite2 (fun h => ?_) (fun h => ?_)⟩
  · refine ⟨_, rfl, _, _, rfl, rfl, _, rfl, ite2 (fun hm => ?_) (fun hm => ?_)⟩
    · have hm : 0 < m := of_decide_eq_true hm
      refine ⟨_, rfl, _, rfl, (b, l, m), rfl, B1, hm, fun j H2 j0 jm B2 f2 => ⟨_, _, rfl, rfl, .inl ⟨by decide, by decide⟩, (by show 2 ≤ sizeLine; decide), fun t nt => ?_⟩⟩
      obtain ⟨j', rfl⟩ : ∃ j' : Nat, j = (j' : Int) := ⟨j.toNat, by omega⟩
      exact k (.ref t) (some (.obj (3 * j'))) _ ⟨t, rfl, upd_same⟩ ⟨j', jm, rfl⟩ (B2.new nt) ((f1.trans f2).trans (Fr.new nt))
    · refine ⟨_, rfl, rfl, _, rfl, ite2 (fun h3 => ?_) (fun _ => last _ B1 f1)⟩
      have h : r ≤ 2 := of_decide_eq_true h
      have h3 : r = 3 := V.int.inj (of_decide_eq_true h3)
      omega
  · refine ⟨_, rfl, rfl, _, rfl, ite2 (fun h3 => ?_) (fun _ => last _ B1 f1)⟩
    refine ⟨_, rfl, (b, l, 4), rfl, B1, by decide, fun o H2 o0 o4 B2 f2 => ⟨_, rfl, (b, l, 3), rfl, B2, by decide, fun e H3 e0 e3 B3 f3 => ⟨(by show 3 ≤ sizeLine; decide), fun t nt => ?_⟩⟩⟩
    exact k (.ref t) (some (.imp o e)) _ ⟨t, rfl, upd_same⟩ ⟨o0, o4, e0, e3⟩ (B3.new nt) (((f1.trans f2).trans f3).trans (Fr.new nt))
/-- the heap of the law -/
structure LawHeap (many : Nat) (h : HeapM) : Prop where
  keys : h.map (·.1) = (List.range many).map fun k : Nat => 3 * (k : Int)
  refs : ∀ e ∈ h, e.2.length ≤ 4 ∧ ∀ r ∈ e.2, OkRf many r
theorem lookup_none : ∀ {h : HeapM} {i : Int}, i ∉ h.map (·.1) → h.lookup i = none
  | [], _, _ => rfl
  | (j, gs) :: h, i, m => by
    have e : ¬ i = j := fun e => m (by rw [e]; exact List.mem_cons_self)
    have : (i == j) = false := by simpa using e
    rw [List.lookup_cons, this]
    exact lookup_none fun z => m (List.mem_cons_of_mem _ z)
def sp__law_heap (K : PySem.W.Frag) : Sp := SpOf (fun ((b, _) : Addr × Addr) => [.ref b]) fun (b, l) H Q =>
  BoxAt H b l ∧ ∀ (d : Addr) (many : Nat) (h : HeapM) (H' : Hp), many ≤ 10 → LawHeap many h → HeapAt H' d h → H d = none → BoxAt H' b l → Fr [b] H H' → Q (.ref d) H'
set_option maxHeartbeats 4000000 in
theorem ok__law_heap (T : Txt K mg) : DefOk P w K mg base "_law_heap" 3 ["_law_box"] (sp__law_heap K) := by
  have G__law_draw := ok__law_draw (P := P) (w := w) (base := base) T
  have G__law_reference := ok__law_reference (P := P) (w := w) (base := base) T
  refine DefOk.mk' T.d__law_heap sc__law_heap (fun _ _ _ _ _ _ us hl => match us, hl with | [_], _ => rfl) (fun _ => rfl) (fun cdv f A outer s H p Q E hr h => ?_)
  obtain ⟨b, l⟩ := p
  obtain ⟨hB, k⟩ := h
  refine ⟨_, (pss_cons (ps_set (i := 1) sc__law_heap.nd rfl (.inr rfl) (pe_callD G__law_draw (hr.mono (by decide)) rfl (pa_cons (pv 0) (pa_cons pe_int pa_nil))))
    (pss_cons (ps_set (i := 2) sc__law_heap.nd rfl (.inl rfl) pe_dnewK)
    (pss_cons (ps_for PassesOwn.never rfl (pi_range1 rfl T.n_range (pa_cons (pv 1) pa_nil)) (pg_name (i := 3) sc__law_heap.nd rfl (.inl rfl))
    (pss_one (ps_dput hr.hu (pv 2) (pe_op op_mul pe_int (pv 3)) (pe_callTy (call_tupleK (K := K)) (by rfl) T.n_tuple (by decide +kernel) (pa_cons (pe_lc (own := [("_law_field", 4)]) (g := gName 4) (tt := tYes) rfl sc__law_heap.nd (pi_range1 rfl T.n_range (pa_cons (pe_callD G__law_draw (hr.mono (by decide)) rfl (pa_cons (pv 0) (pa_cons pe_int pa_nil))) pa_nil)) (blkOk_by (own := [("_law_field", 4)]) (N := N__law_heap) (sc := defScope s__law_heap) (by decide +kernel)) (fun _ _ _ _ _ => pg_name (i := 4) sc__law_heap.nd rfl (.inl rfl)) (fun _ _ _ _ _ => pts_nil) (fun _ _ _ _ _ => (pe_callD G__law_reference (hr.mono (by decide)) rfl (pa_cons (pv 0) (pa_cons (pv 1) pa_nil))))) pa_nil)) rfl)))
    (pss_one (ps_ret (pv 2)))))), ?_⟩
  refine ⟨_, rfl, (b, l, 11), rfl, hB, by decide, fun n H1 n0 n11 B1 f1 => fun d nd => ?_⟩
  obtain ⟨many, rfl⟩ : ∃ m : Nat, n = (m : Int) := ⟨n.toNat, by omega⟩
  have nbd := B1.ne nd
  have ndH : H d = none := f1.free (by simp [Ne.symm nbd.1]) nd
  refine ⟨_, rfl, _, rfl, by omega, by omega, for_range (lo := 0) (n := (many : Int).toNat)
    (fun i σ H' => ∃ (kvs : List (Key × V)) (h : HeapM) (v3 : Option V), σ = [some (.ref b), some (.int many), some (.ref d), v3, none] ∧ H' d = some (.dK kvs) ∧ Paired (ObjV H') kvs h ∧ (h.map (·.1) = (List.range i).map fun k : Nat => 3 * (k : Int)) ∧ (∀ e ∈ h, e.2.length ≤ 4 ∧ ∀ r ∈ e.2, OkRf many r) ∧ BoxAt H' b l ∧ Fr [b] H H')
    ⟨[], [], none, rfl, upd_same, .nil, rfl, (fun _ m => nomatch m), B1.new nd, f1.trans (Fr.new nd)⟩ ?_ ?_⟩
  · rintro i σ H' hi ⟨kvs, h, v3, rfl, hd, hp, hk, hr', B, f⟩
    refine ⟨_, rfl, (b, l, 5), rfl, B, by decide, fun m H2 m0 m5 B2 f2 => ⟨m, rfl, by omega, by omega, fun D nD => ?_⟩⟩
    have nbD := B2.ne nD
    refine lc_range (lo := 0) (n := m.toNat) (fun j H' => ∃ (vs : List V) (rs : List (Option Rf)), H' D = some (.lst vs) ∧ Paired (RfV H') vs rs ∧ rs.length = j ∧ (∀ r ∈ rs, OkRf many r) ∧ BoxAt H' b l ∧ Fr [b] H2 H')
      ⟨[], [], upd_same, .nil, rfl, (fun _ z => nomatch z), B2.new nD, Fr.new nD⟩ ?_ ?_
    · rintro j H3 hj ⟨vs, rs, h1, h2, h3, h4, B3, f3⟩
      refine ⟨rfl, _, rfl, _, rfl, (b, l, (many : Int)), rfl, B3, fun v r H4 rv okr B4 f4 => ?_⟩
      have h1' : H4 D = some (.lst vs) := f4 _ _ (by simp [Ne.symm nbD.1]) h1
      refine ⟨vs, h1', small1000 (by rw [Paired.length h2, h3]; omega), vs ++ [v], rs ++ [r], upd_same, ?_, by rw [List.length_append, h3]; rfl, fun z hz => ?_, B4.put nbD, ?_⟩
      · have t4 := f4.tups B3.isLst
        have tu : ∀ a xs, H4 a = some (.tup xs) → upd H4 D (.lst (vs ++ [v])) a = some (.tup xs) := fun a xs e => by
          rw [upd_ne (fun z => by rw [z, h1'] at e; cases e)]
          exact e
        exact paired_app (L2.Paired.mapP h2 fun _ _ q => (q.mono t4).mono tu) (.cons (rv.mono tu) .nil)
      · rcases List.mem_append.mp hz with hz | hz
        · exact h4 z hz
        · rw [List.mem_singleton.mp hz]
          exact okr
      · exact fun a o na e => by
          have e2 := (f3.trans f4) a o na e
          rw [upd_ne (ne_of_none e nD)]
          exact e2
    · rintro H3 ⟨vs, rs, h1, h2, h3, h4, B3, f3⟩
      refine ⟨D, vs, rfl, .inl ⟨SqL.of h1, fun t nt => ?_⟩⟩
      have hd3 : upd H3 t (.tup vs) d = some (.dK kvs) := nw nt (f3 _ _ (by simp [Ne.symm nbd.1]) (f2 _ _ (by simp [Ne.symm nbd.1]) hd))
      have nm : (3 * (i : Int)) ∉ h.map (·.1) := fun z => by
        rw [hk] at z
        obtain ⟨q, hq, e⟩ := List.mem_map.mp z
        have := List.mem_range.mp hq
        omega
      have hkl : kvs.length = i := by
        have := congrArg List.length hk
        rw [List.length_map, List.length_map, List.length_range] at this
        rw [Paired.length hp, this]
      refine ⟨_, rfl, _, rfl, _, _, rfl, rfl, .inl ⟨by decide, by decide⟩, d, _, rfl, DPut.k (k := .inl (3 * (0 + (i : Int)))) hd3 (small1000 (by omega)), ?_⟩
      have t3 : ∀ a xs, H' a = some (.tup xs) → upd (upd H3 t (.tup vs)) d (.dK (putK kvs (.inl (3 * (0 + (i : Int)))) (.ref t))) a = some (.tup xs) := fun a xs e => by
        have e1 := nw (u := .tup vs) nt ((f2.trans f3).tups B.isLst a xs e)
        rw [upd_ne (fun z => by rw [z, hd3] at e1; cases e1)]
        exact e1
      have en : putK kvs (.inl (3 * (0 + (i : Int)))) (.ref t) = kvs ++ [(.inl (3 * (i : Int)), .ref t)] := by
        rw [Int.zero_add]
        exact putK_new _ ((valV_heap hp _).1 (lookup_none nm))
      have tt : upd (upd H3 t (.tup vs)) d (.dK (putK kvs (.inl (3 * (0 + (i : Int)))) (.ref t))) t = some (.tup vs) := by
        rw [upd_ne (fun z => by rw [← z, upd_same] at hd3; cases hd3)]
        exact upd_same
      have B4 := ((B3.new (u := .tup vs) nt).put (u := .dK (putK kvs (.inl (3 * (0 + (i : Int)))) (.ref t))) nbd)
      have f4 : Fr [b] H (upd (upd H3 t (.tup vs)) d (.dK (putK kvs (.inl (3 * (0 + (i : Int)))) (.ref t)))) := fun a o na e => by
        rw [upd_ne (ne_of_none e ndH)]
        exact nw nt (f3 a o na (f2 a o na (f a o na e)))
      have rt : ∀ v r, RfV H3 v r → RfV (upd (upd H3 t (.tup vs)) d (.dK (putK kvs (.inl (3 * (0 + (i : Int)))) (.ref t)))) v r := fun v r q => q.mono fun a xs e => by
        have e1 := nw (u := .tup vs) nt e
        rw [upd_ne (fun z => by rw [z, hd3] at e1; cases e1)]
        exact e1
      refine ⟨_, h ++ [(3 * (i : Int), rs)], _, rfl, upd_same, ?_, ?_, ?_, B4, f4⟩
      · have o1 : Paired (ObjV _) kvs h := L2.Paired.mapP hp fun _ _ q => ObjV.mono t3 q
        have o2 := paired_app o1 (.cons (⟨rfl, t, vs, rfl, tt, L2.Paired.mapP h2 fun _ _ q => rt _ _ q⟩ : ObjV _ ((.inl (3 * (i : Int)) : Key), V.ref t) (3 * (i : Int), rs)) .nil)
        rw [← en] at o2
        exact o2
      · rw [List.map_append, hk, List.range_succ, List.map_append]
        rfl
      · intro e he
        rcases List.mem_append.mp he with he | he
        · exact hr' e he
        · rw [List.mem_singleton.mp he]
          exact ⟨by show rs.length ≤ 4; omega, h4⟩
  · rintro σ H' ⟨kvs, h, v3, rfl, hd, hp, hk, hr', B, f⟩
    exact ⟨_, rfl, k d many h H' (by omega) ⟨by rw [hk]; rfl, hr'⟩ ⟨kvs, hd, hp⟩ ndH B f⟩
theorem okRf_key {many : Nat} {i : Int} (h : OkRf many (some (.obj i))) : i ∈ (List.range many).map fun k : Nat => 3 * (k : Int) := by
  obtain ⟨j, hj, rfl⟩ := h
  exact List.mem_map.mpr ⟨j, List.mem_range.mpr (by omega), rfl⟩
theorem fields_mem {h : HeapM} {i : Int} {r : Option Rf} (m : r ∈ fieldsOf h i) : ∃ e ∈ h, r ∈ e.2 := by
  unfold fieldsOf at m
  cases e : h.lookup i with
  | none => rw [e] at m; cases m
  | some fs =>
    rw [e] at m
    exact ⟨_, lookup_mem e, m⟩
theorem LawHeap.valid {many : Nat} {h : HeapM} (L : LawHeap many h) {st : List (Option Rf)} (hs : ∀ r ∈ st, OkRf many r) : ValidH h st :=
  ⟨fun i m => by rw [L.keys]; exact okRf_key (hs _ m), fun j i m => by
    obtain ⟨e, he, hr⟩ := fields_mem m
    rw [L.keys]
    exact okRf_key ((L.refs e he).2 _ hr)⟩
theorem LawHeap.len {many : Nat} {h : HeapM} (L : LawHeap many h) : h.length = many := by
  have := congrArg List.length L.keys
  rwa [List.length_map, List.length_map, List.length_range] at this
theorem LawHeap.fields {many : Nat} {h : HeapM} (L : LawHeap many h) (i : Int) : (fieldsOf h i).length ≤ 4 := by
  unfold fieldsOf
  cases e : h.lookup i with
  | none => exact Nat.zero_le _
  | some fs => exact (L.refs _ (lookup_mem e)).1
theorem LawHeap.small {many : Nat} {h : HeapM} (L : LawHeap many h) (hm : many ≤ 10) : HeapSmall h := ⟨by rw [L.len]; omega, fun i => Nat.le_trans (L.fields i) (by decide)⟩

end
section
open PySem PySem.Spec PyProof.Rows L2
variable {P : Program} {w : World} {K : PySem.W.Frag} {mg : Str → Option Value} {base : Heap}
/-! ### the law's own search -/
def addL (l fo : List (Option Rf)) : List (Option Rf) := l.filter fun r => decide (r ≠ none) && decide (r ∉ fo)
structure Lw (h : HeapM) (st : List (Option Rf)) (P : List Int) (fo : List (Option Rf)) : Prop where
  nn : ∀ x ∈ fo, x ≠ none
  sf : ∀ r, some r ∈ st → some r ∈ fo
  ok : ∀ r, some r ∈ fo → Reach h st r
  nd : P.Nodup
  pk : ∀ i ∈ P, Reach h st (.obj i)
  pf : ∀ i ∈ P, ∀ r, some r ∈ fieldsOf h i → some r ∈ fo
  len : fo.length ≤ 4 + 4 * P.length
theorem mem_addL {l fo : List (Option Rf)} {x : Option Rf} : x ∈ addL l fo ↔ x ∈ l ∧ x ≠ none ∧ x ∉ fo := by
  unfold addL
  rw [List.mem_filter, Bool.and_eq_true, decide_eq_true_eq, decide_eq_true_eq]
theorem Lw.start {h : HeapM} {st : List (Option Rf)} (hl : st.length ≤ 4) : Lw h st [] (st.filter fun r => decide (r ≠ none)) :=
  ⟨fun x m => of_decide_eq_true (List.mem_filter.mp m).2, fun r m => List.mem_filter.mpr ⟨m, by simp⟩, fun r m => .base (List.mem_filter.mp m).1, List.nodup_nil, (fun _ m => nomatch m), (fun _ m => nomatch m), Nat.le_trans (List.length_filter_le _ _) hl⟩
theorem Lw.step {h : HeapM} {st fo : List (Option Rf)} {P : List Int} (L : Lw h st P fo) {i : Int} (hi : some (Rf.obj i) ∈ fo) (hf : (fieldsOf h i).length ≤ 4) :
    ∃ P', Lw h st P' (fo ++ addL (fieldsOf h i) fo) ∧ ((i ∈ P ∧ P' = P ∧ addL (fieldsOf h i) fo = []) ∨ (i ∉ P ∧ P' = P ++ [i])) := by
  by_cases hp : i ∈ P
  · have e : addL (fieldsOf h i) fo = [] := List.eq_nil_iff_forall_not_mem.mpr fun x m => by
      obtain ⟨h1, h2, h3⟩ := mem_addL.mp m
      cases x with
      | none => exact h2 rfl
      | some r => exact h3 (L.pf i hp r h1)
    exact ⟨P, by rw [e, List.append_nil]; exact L, .inl ⟨hp, rfl, e⟩⟩
  · refine ⟨P ++ [i], ⟨fun x m => ?_, fun r m => List.mem_append_left _ (L.sf r m), fun r m => ?_, ?_, fun j m => ?_, fun j m r hr => ?_, ?_⟩, .inr ⟨hp, rfl⟩⟩
    · rcases List.mem_append.mp m with m | m
      · exact L.nn x m
      · exact (mem_addL.mp m).2.1
    · rcases List.mem_append.mp m with m | m
      · exact L.ok r m
      · exact .step (L.ok _ hi) (mem_addL.mp m).1
    · rw [List.nodup_append]
      exact ⟨L.nd, by simp, fun a ha b hb => by rw [List.mem_singleton.mp hb]; exact fun q => hp (by rw [← q]; exact ha)⟩
    · rcases List.mem_append.mp m with m | m
      · exact L.pk j m
      · rw [List.mem_singleton.mp m]
        exact L.ok _ hi
    · rcases List.mem_append.mp m with m | m
      · exact List.mem_append_left _ (L.pf j m r hr)
      · rw [List.mem_singleton.mp m] at hr
        by_cases hx : some r ∈ fo
        · exact List.mem_append_left _ hx
        · exact List.mem_append_right _ (mem_addL.mpr ⟨hr, by simp, hx⟩)
    · have h1 : (addL (fieldsOf h i) fo).length ≤ 4 := Nat.le_trans (List.length_filter_le _ _) hf
      have h2 := L.len
      rw [List.length_append, List.length_append, List.length_singleton]
      omega
def Clo (P : List Int) (fo : List (Option Rf)) : Prop := ∀ i, some (Rf.obj i) ∈ fo → i ∈ P
theorem Lw.few {h : HeapM} {st fo : List (Option Rf)} {P : List Int} (L : Lw h st P fo) (v : ValidH h st) : P.length ≤ h.length := by
  have := nodup_le L.nd (m := h.map (·.1)) fun i m => (L.pk i m).there v
  rwa [List.length_map] at this
theorem Lw.all {h : HeapM} {st fo : List (Option Rf)} {P : List Int} (L : Lw h st P fo) (c : Clo P fo) (r : Rf) : some r ∈ fo ↔ Reach h st r := by
  refine ⟨L.ok r, fun q => ?_⟩
  induction q with
  | base m => exact L.sf _ m
  | step _ m ih => exact L.pf _ (c _ ih) _ m
def sp__law_led_to (K : PySem.W.Frag) : Sp := SpOf (fun ((d, a, _, _, _, _) : Addr × Addr × Nat × HeapM × List V × List (Option Rf)) => [.ref d, .ref a]) fun (d, a, many, h, vs, st) H Q =>
  HeapAt H d h ∧ SqL K H a vs ∧ Paired (RfV H) vs st ∧ ValidH h st ∧ LawHeap many h ∧ many ≤ 10 ∧ vs.length ≤ 4 ∧
  ∀ (l : Addr) (wv : List V) (fo : List (Option Rf)) (H' : Hp), Same H H' → H l = none → H' l = some (.lst wv) → Paired (RfV H) wv fo → (∀ x ∈ fo, x ≠ none) → fo.length ≤ 44 → (∀ r, some r ∈ fo ↔ Reach h st r) → Q (.ref l) H'
set_option maxHeartbeats 4000000 in
theorem ok__law_led_to (T : Txt K mg) : DefOk P w K mg base "_law_led_to" 1 ["_law_heap_here", "_law_start"] (sp__law_led_to K) := by
  refine DefOk.mk' T.d__law_led_to sc__law_led_to (fun _ _ _ _ _ _ us hl => match us, hl with | [_, _], _ => rfl) (fun _ => rfl) (fun cdv f A outer s H p Q E hr h => ?_)
  obtain ⟨d, a, many, hm, vs, st⟩ := p
  obtain ⟨hH, hS, hP, hV, hL, hm10, hl, k⟩ := h
  refine ⟨_, (pss_cons (ps_set (i := 3) sc__law_led_to.nd rfl (.inr rfl) (pe_lc (own := [("_law_reference_here", 2)]) (g := gName 2) rfl sc__law_led_to.nd (ilistK (K := K) (pi_list (pv 1))) (blkOk_by (own := [("_law_reference_here", 2)]) (N := N__law_led_to) (sc := defScope s__law_led_to) (by decide +kernel)) (fun _ _ _ _ _ => pg_name (i := 2) sc__law_led_to.nd rfl (.inl rfl)) (fun _ _ _ _ _ => (pts_one (pt_cmpR op_notN (pv 2) pe_non (nomark _)))) (fun _ _ _ _ _ => (pv 2))))
    (pss_cons (ps_for PassesOwn.never rfl (pi_range1 rfl T.n_range (pa_cons (pe_op op_add (pe_callB call_lenD (by rfl) T.n_len (by decide +kernel) (pa_cons (pv 0) pa_nil)) pe_int) pa_nil)) (pg_name (i := 4) sc__law_led_to.nd rfl (.inl rfl))
    (pss_one (ps_for PassesOwn.never rfl (ilistK (K := K) (pi_list (pe_callTy (call_listK (K := K)) (by rfl) T.n_list (by decide +kernel) (pa_cons (pv 3) pa_nil)))) (pg_name (i := 2) sc__law_led_to.nd rfl (.inl rfl))
    (pss_one (ps_if (pt_cmpR op_eq (pe_ix (ix_tupK (K := K)) (pv 2) pe_int (fun _ _ => rfl)) pe_str (nomark _))
    (pss_one (ps_set (i := 3) sc__law_led_to.nd rfl (.inr rfl) (pe_op op_cat (pv 3) (pe_lc (own := [("_law_field", 5)]) (g := gName 5) rfl sc__law_led_to.nd (itupK (K := K) (pi_tup (pe_dget hr.hu (pv 0) (pe_ix (ix_tupK (K := K)) (pv 2) pe_int (fun _ _ => rfl)) (fun _ _ => rfl)))) (blkOk_by (own := [("_law_field", 5)]) (N := N__law_led_to) (sc := defScope s__law_led_to) (by decide +kernel)) (fun _ _ _ _ _ => pg_name (i := 5) sc__law_led_to.nd rfl (.inl rfl)) (fun _ _ _ _ _ => (pts_one (PW.pt (pw_and (pt_cmpR op_notN (pv 5) pe_non (nomark _)) (pw_and1 (pt_cmpR (op_notInDK (K := K) hr.un2) (pv 5) (pv 3) rfl)))))) (fun _ _ _ _ _ => (pv 5))))))
    pss_nil)))))
    (pss_one (ps_ret (pv 3))))), ?_⟩
  have small : ∀ {n : Nat}, n ≤ 1000 → n < sizeLine := fun h => small1000 h
  refine ⟨_, rfl, a, rfl, ⟨_, hS⟩, fun D nD => lc_list (xs := vs) (fun i H' => ∃ wv, H' = upd H D (.lst wv) ∧ Paired (RfV H) wv ((st.take i).filter fun r => decide (r ≠ none)))
    ⟨[], rfl, .nil⟩ (fun i H' _ ⟨wv, e, _⟩ => by rw [e]; exact nwq nD hS) ?_ ?_⟩
  · rintro i x H' hx ⟨wv, rfl, pp⟩
    obtain ⟨r, hr, rx⟩ := pairedGet hP hx
    have et : (st.take (i + 1)).filter (fun r => decide (r ≠ none)) = (st.take i).filter (fun r => decide (r ≠ none)) ++ [r].filter (fun r => decide (r ≠ none)) := by
      rw [List.take_add_one, hr, List.filter_append]
      rfl
    refine ⟨rfl, _, rfl, rfl, _, rfl, ite2 (fun h => ?_) (fun h => ?_)⟩
    · have hn : r ≠ none := fun e => by
        subst e
        cases (show x = V.non from rx)
        exact absurd h (by decide)
      refine ⟨_, rfl, wv, upd_same, ?_, wv ++ [x], by rw [upd_upd], ?_⟩
      · have h1 := Paired.length pp
        have h2 := List.length_filter_le (fun r => decide (r ≠ none)) (st.take i)
        rw [List.length_take] at h2
        have h3 := Paired.length hP
        exact small (by omega)
      · rw [et, List.filter_cons_of_pos (by simpa using hn), List.filter_nil]
        exact paired_app pp (.cons rx .nil)
    · have hn : r = none := Decidable.byContradiction fun e => by
        match r, rx, e with
        | some (.obj _), ⟨t, e1, _⟩, _ => subst e1; exact h rfl
        | some (.imp _ _), ⟨t, e1, _⟩, _ => subst e1; exact h rfl
      subst hn
      exact ⟨wv, rfl, by rw [et]; simpa using pp⟩
  rintro _ ⟨wv0, rfl, pp0⟩
  have hst : vs.length = st.length := Paired.length hP
  rw [hst, List.take_length] at pp0
  obtain ⟨kvs, hd, hkv⟩ := hH
  have sD : Same H (upd H D (.lst wv0)) := nws nD (Same.refl H)
  have hkl : kvs.length = many := by rw [Paired.length hkv, hL.len]
  refine ⟨_, rfl, d, kvs, rfl, sD _ _ hd, _, _, rfl, rfl, _, rfl, by omega, by omega, for_range (lo := 0) (n := ((kvs.length : Int) + 2).toNat)
    (fun t σ H' => ∃ (v2 v4 : Option V) (f : Addr) (wv : List V) (fo : List (Option Rf)) (P : List Int), σ = [some (.ref d), some (.ref a), v2, some (.ref f), v4, none] ∧ Same H H' ∧ H f = none ∧ H' f = some (.lst wv) ∧ Paired (RfV H) wv fo ∧ Lw hm st P fo ∧ (Clo P fo ∨ t ≤ P.length))
    ⟨none, none, D, wv0, _, [], rfl, sD, nD, upd_same, pp0, Lw.start (by omega), .inr (Nat.zero_le _)⟩ ?_ ?_⟩
  · rintro t σ H' ht ⟨v2, v4, f0, wv1, fo1, P1, rfl, s1, nf1, hf1, pp1, L1, C1⟩
    have bound : ∀ {P : List Int} {fo : List (Option Rf)} {wv : List V}, Paired (RfV H) wv fo → Lw hm st P fo → wv.length ≤ 44 := fun pp L => by
      have h1 := L.few hV
      have h2 := L.len
      have h3 := hL.len
      have h4 := Paired.length pp
      omega
    refine ⟨_, rfl, f0, wv1, rfl, .inl (SqL.of hf1), fun c nc => ?_⟩
    have ncH : H c = none := s1.free nc
    have sc : Same H (upd H' c (.lst wv1)) := nws nc s1
    refine ⟨c, rfl, ⟨_, SqL.of upd_same⟩, for_list (xs := wv1) (fun j σ H2 => ∃ (v2 : Option V) (f : Addr) (wv : List V) (fo : List (Option Rf)) (P : List Int), σ = [some (.ref d), some (.ref a), v2, some (.ref f), some (.int (0 + (t : Int))), none] ∧ Same (upd H' c (.lst wv1)) H2 ∧ H f = none ∧ H2 f = some (.lst wv) ∧
        Paired (RfV H) wv fo ∧ Lw hm st P fo ∧ (∀ x ∈ fo1, x ∈ fo) ∧ (∀ m i, m < j → fo1[m]? = some (some (.obj i)) → i ∈ P) ∧ ((P = P1 ∧ fo = fo1) ∨ (P1.length < P.length ∧ ¬ Clo P1 fo1)))
      ⟨v2, f0, wv1, fo1, P1, rfl, Same.refl _, nf1, nw nc hf1, pp1, L1, (fun _ m => m), (fun _ _ m => nomatch m), .inl ⟨rfl, rfl⟩⟩
      (fun j σ H2 _ ⟨_, _, _, _, _, _, s2, _⟩ => SqL.of (s2 _ _ upd_same)) ?_ ?_⟩
    · rintro j x σ H2 hx ⟨v2, f, wv, fo, P, rfl, s2, nf, hf, pp, L, hsub, hdone, hor⟩
      obtain ⟨r, hr, rx⟩ := pairedGet pp1 hx
      have sH2 : Same H H2 := sc.trans s2
      have hrm : r ∈ fo1 := List.mem_of_getElem? hr
      rcases rx.non_or with ⟨rfl, rfl⟩ | ⟨i, at', rfl, rfl, hat⟩ | ⟨p, e, at', rfl, rfl, hat⟩
      · exact absurd rfl (L1.nn _ hrm)
      · refine ⟨_, rfl, at', _, 0, _, rfl, rfl, SqT.of (sH2 _ _ hat), rfl, rfl, _, rfl, ite2 (fun _ => ?_) (fun h => absurd rfl h)⟩
        have hif : some (Rf.obj i) ∈ fo := hsub _ hrm
        obtain ⟨fs, hfs⟩ := lookup_of_mem ((L.ok _ hif).there hV)
        obtain ⟨ft, fv, e1, e2, e3⟩ := (valV_heap hkv i).2 fs hfs
        have efs : fieldsOf hm i = fs := by show (hm.lookup i).getD [] = fs; rw [hfs]; rfl
        have hfl : fv.length ≤ 4 := by rw [Paired.length e3, ← efs]; exact hL.fields i
        obtain ⟨P', L', hP'⟩ := L.step hif (hL.fields i)
        rw [efs] at L' hP'
        refine ⟨_, rfl, _, rfl, _, rfl, at', _, 1, _, rfl, rfl, SqT.of (sH2 _ _ hat), rfl, d, _, rfl, .inl ⟨kvs, .inl i, .inl (sH2 _ _ hd), rfl, e1.symm⟩, ft, rfl, ⟨_, SqT.of (sH2 _ _ e2)⟩, fun D2 nD2 => ?_⟩
        have nD2H : H D2 = none := sH2.free nD2
        refine lc_tup (xs := fv) (fun m H3 => ∃ uv, H3 = upd H2 D2 (.lst uv) ∧ Paired (RfV H) uv (addL (fs.take m) fo)) ⟨[], rfl, .nil⟩ (fun m H3 _ ⟨uv, e, _⟩ => by rw [e]; exact SqT.of (nw nD2 (sH2 _ _ e2))) ?_ ?_
        · rintro m y H3 hy ⟨uv, rfl, pu⟩
          obtain ⟨q, hq, ry⟩ := pairedGet e3 hy
          have s3 : Same H (upd H2 D2 (.lst uv)) := nws nD2 sH2
          have ea : addL (fs.take (m + 1)) fo = addL (fs.take m) fo ++ addL [q] fo := by
            unfold addL
            rw [List.take_add_one, hq, List.filter_append]
            rfl
          have skip : addL [q] fo = [] → ∃ uv', upd H2 D2 (.lst uv) = upd H2 D2 (.lst uv') ∧ Paired (RfV H) uv' (addL (fs.take (m + 1)) fo) := fun e => ⟨uv, rfl, by rw [ea, e, List.append_nil]; exact pu⟩
          refine ⟨rfl, _, rfl, rfl, _, rfl, ite2 (fun h1 => ?_) (fun h1 => ?_)⟩
          · have hq0 : q ≠ none := fun e => by
              subst e
              cases (show y = V.non from ry)
              exact absurd h1 (by decide)
            refine ⟨_, rfl, _, rfl, refD q, fo.map refD, dp_ref (ry.mono (Same.tups s3)), .lst (SqL.of (nw nD2 hf)) (dp_refs (L2.Paired.mapP pp fun _ _ z => z.mono (Same.tups s3))), (sh_ref (n := 0) q).shaped (by decide), (sh_refs (n := 0) fo).shaped (by decide), _, rfl, ite2 (fun h2 => ?_) (fun h2 => ?_)⟩
            · rw [refs_any] at h2
              have hq1 : q ∉ fo := by simpa using h2
              refine ⟨_, rfl, uv, upd_same, ?_, uv ++ [y], by rw [upd_upd], ?_⟩
              · have h3 := Paired.length pu
                have h4 : (addL (fs.take m) fo).length ≤ (fs.take m).length := List.length_filter_le _ _
                have h5 := Paired.length e3
                rw [List.length_take] at h4
                exact small (by omega)
              · rw [ea]
                refine paired_app pu ?_
                have : addL [q] fo = [q] := by
                  unfold addL
                  rw [List.filter_cons_of_pos (by simp [hq0, hq1]), List.filter_nil]
                rw [this]
                exact .cons ry .nil
            · rw [refs_any] at h2
              have hq1 : q ∈ fo := by simpa using h2
              exact skip (by
                unfold addL
                rw [List.filter_cons_of_neg (by simp [hq1]), List.filter_nil])
          · refine ite2 (fun h => nomatch h) (fun _ => skip ?_)
            have hq0 : q = none := Decidable.byContradiction fun e => by
              match q, ry, e with
              | some (.obj _), ⟨t, e1, _⟩, _ => subst e1; exact h1 rfl
              | some (.imp _ _), ⟨t, e1, _⟩, _ => subst e1; exact h1 rfl
            subst hq0
            rfl
        · rintro _ ⟨uv, rfl, pu⟩
          rw [Paired.length e3, List.take_length] at pu
          have hul : uv.length ≤ 4 := by
            have h3 := Paired.length pu
            have h4 : (addL fs fo).length ≤ fs.length := List.length_filter_le _ _
            have h5 := Paired.length e3
            omega
          have hwl := bound pp L
          refine ⟨f, D2, wv, uv, rfl, rfl, nw nD2 hf, upd_same, Nat.le_of_lt (small (by omega)), fun p np => ?_⟩
          have npH : H p = none := (nws nD2 sH2).free np
          refine ⟨some (.ref at'), p, wv ++ uv, fo ++ addL fs fo, P', rfl, nws np (nws nD2 s2), npH, upd_same, paired_app pp pu, L', fun x hx => List.mem_append_left _ (hsub x hx), ?_, ?_⟩
          · intro m i' hm' he
            by_cases hmj : m = j
            · subst hmj
              cases hr.symm.trans he
              rcases hP' with ⟨z, rfl, _⟩ | ⟨_, rfl⟩
              · exact z
              · exact List.mem_append_right _ List.mem_cons_self
            · have z := hdone m i' (by omega) he
              rcases hP' with ⟨_, rfl, _⟩ | ⟨_, rfl⟩
              · exact z
              · exact List.mem_append_left _ z
          · rcases hP' with ⟨_, rfl, e⟩ | ⟨z, rfl⟩
            · rw [e, List.append_nil]
              exact hor
            · refine .inr ?_
              rw [List.length_append, List.length_singleton]
              rcases hor with ⟨rfl, rfl⟩ | ⟨h1, h2⟩
              · exact ⟨by omega, fun c => z (c i hrm)⟩
              · exact ⟨by omega, h2⟩
      · refine ⟨_, rfl, at', _, 0, _, rfl, rfl, SqT.of (sH2 _ _ hat), rfl, rfl, _, rfl, ite2 (fun h => absurd h (by decide)) (fun _ => ?_)⟩
        refine ⟨some (.ref at'), f, wv, fo, P, rfl, s2, nf, hf, pp, L, hsub, fun m i' hm' he => ?_, hor⟩
        by_cases hmj : m = j
        · subst hmj
          cases hr.symm.trans he
        · exact hdone m i' (by omega) he
    · rintro σ H2 ⟨v2, f, wv, fo, P, rfl, s2, nf, hf, pp, L, hsub, hdone, hor⟩
      refine ⟨v2, _, f, wv, fo, P, rfl, sc.trans s2, nf, hf, pp, L, ?_⟩
      rcases hor with ⟨rfl, rfl⟩ | ⟨h1, h2⟩
      · refine .inl fun i hi => ?_
        obtain ⟨m, hm'⟩ := List.getElem?_of_mem hi
        have hml := (List.getElem?_eq_some_iff.mp hm').1
        exact hdone m i (by rw [Paired.length pp1]; exact hml) hm'
      · rcases C1 with c1 | c1
        · exact absurd c1 h2
        · exact .inr (by omega)
  · rintro σ H' ⟨v2, v4, f0, wv1, fo1, P1, rfl, s1, nf1, hf1, pp1, L1, C1⟩
    have cl : Clo P1 fo1 := C1.resolve_right fun h => by
      have h1 := L1.few hV
      have h3 := hL.len
      omega
    have h1 := L1.few hV
    have h2 := L1.len
    have h3 := hL.len
    exact ⟨_, rfl, k f0 wv1 fo1 H' s1 nf1 hf1 pp1 L1.nn (by omega) (L1.all cl)⟩

end
section
open PySem PySem.Spec PyProof.Rows L2
variable {P : Program} {w : World} {K : PySem.W.Frag} {mg : Str → Option Value} {base : Heap}
theorem HeapAt.box {H H' : Hp} {b d : Addr} {h : HeapM} (A : HeapAt H d h) (f : Fr [b] H H') (hb : ∃ xs, H b = some (.lst xs)) : HeapAt H' d h := by
  obtain ⟨kvs, e, p⟩ := A
  refine ⟨kvs, f _ _ (fun m => ?_) e, L2.Paired.mapP p fun _ _ => ObjV.mono (f.tups hb)⟩
  obtain ⟨ys, e2⟩ := hb
  rw [List.mem_singleton.mp m, e2] at e
  cases e
theorem led_filter {h : HeapM} {st fo : List (Option Rf)} (v : ValidH h st) (hfo : ∀ r, some r ∈ fo ↔ Reach h st r) (hk : (h.map (·.1)).Nodup) {ys : List Int} (hp : ys.Perm (h.map (·.1))) (hs : ys.Pairwise (fun x y => x ≤ y)) :
    (ys.filter fun i => decide (some (Rf.obj i) ∈ fo)) = ledO h st := by
  refine ledO_eq v ?_ fun i => ?_
  · have nd : ys.Nodup := hp.nodup_iff.mpr hk
    refine List.Pairwise.filter _ ((List.Pairwise.and hs nd).imp fun {x y} ⟨h1, h2⟩ => ?_)
    show x < y
    omega
  · rw [List.mem_filter, decide_eq_true_eq, hfo]
    exact ⟨fun z => z.2, fun z => ⟨hp.mem_iff.mpr (z.there v), z⟩⟩
/-- a sorted row without its repeats, up to a place -/
structure Dd (ps acc : List (Int × Int)) : Prop where
  s : acc.Pairwise ltP2
  m : ∀ x, x ∈ acc ↔ x ∈ ps
  l : ∀ x ∈ acc, ∀ y, ps.getLast? = some y → x = y ∨ ltP2 x y
theorem Dd.nil : Dd [] [] := ⟨List.Pairwise.nil, fun _ => Iff.rfl, fun _ m => nomatch m⟩
theorem Dd.same {ps acc : List (Int × Int)} {x : Int × Int} (D : Dd ps acc) (h : ps.getLast? = some x) : Dd (ps ++ [x]) acc :=
  ⟨D.s, fun y => by
    rw [D.m, List.mem_append, List.mem_singleton]
    exact ⟨.inl, fun z => z.elim id fun e => by rw [e]; exact List.mem_of_getLast? h⟩, fun z hz y hy => by
    rw [List.getLast?_append] at hy
    have : y = x := by simpa using hy.symm
    rw [this]
    exact D.l z hz x h⟩
theorem Dd.more {ps acc : List (Int × Int)} {x : Int × Int} (D : Dd ps acc) (h : ∀ y, ps.getLast? = some y → ltP2 y x) : Dd (ps ++ [x]) (acc ++ [x]) := by
  have lt : ∀ z ∈ acc, ltP2 z x := fun z hz => by
    have hz' := (D.m z).mp hz
    cases e : ps.getLast? with
    | none => rw [List.getLast?_eq_none_iff] at e; rw [e] at hz'; cases hz'
    | some y =>
      rcases D.l z hz y e with q | q
      · rw [q]; exact h y e
      · exact sloP.tr _ _ _ q (h y e)
  refine ⟨?_, fun y => ?_, fun z hz y hy => ?_⟩
  · rw [List.pairwise_append]
    exact ⟨D.s, by simp, fun a ha b hb => by rw [List.mem_singleton.mp hb]; exact lt a ha⟩
  · rw [List.mem_append, List.mem_append, D.m]
  · have e : y = x := by
      rw [List.getLast?_append] at hy
      simpa using hy.symm
    rw [e]
    rcases List.mem_append.mp hz with q | q
    · exact .inr (lt z q)
    · exact .inl (List.mem_singleton.mp q)
theorem last_take {α : Type} {l : List α} {j : Nat} (h : j + 1 ≤ l.length) : (l.take (j + 1)).getLast? = l[j]? := by
  rw [List.getLast?_eq_getElem?, List.length_take, Nat.min_eq_left h]
  show (l.take (j + 1))[j]? = _
  rw [List.getElem?_take, if_pos (Nat.lt_succ_self j)]
theorem ledO_none : ledO [] [] = [] := List.eq_nil_of_length_eq_zero (Nat.le_zero.mp (ledO_len [] []))
theorem reach_none : ∀ r, ¬ Reach [] [none] r := fun r q => by
  induction q with
  | base m => simp at m
  | step _ m ih => exact ih
theorem ledI_none : ledI [] [none] = [] := List.eq_nil_iff_forall_not_mem.mpr fun ⟨o, e⟩ m => reach_none _ (mem_ledI.mp m)
theorem ledI_small {many : Nat} {h : HeapM} (L : LawHeap many h) {st : List (Option Rf)} (hs : ∀ r ∈ st, OkRf many r) {o e : Int} (m : (o, e) ∈ ledI h st) : 0 ≤ o ∧ o < 4 ∧ 0 ≤ e ∧ e < 3 := by
  have q := mem_ledI.mp m
  generalize ex : Rf.imp o e = x at q
  cases q with
  | base m => subst ex; exact hs _ m
  | step _ m =>
    subst ex
    obtain ⟨en, he, hr⟩ := fields_mem m
    exact (L.refs en he).2 _ hr
theorem ledO_small {many : Nat} {h : HeapM} (L : LawHeap many h) {st : List (Option Rf)} (hs : ∀ r ∈ st, OkRf many r) {i : Int} (m : i ∈ ledO h st) : 0 ≤ i ∧ i < 3 * many := by
  have q := ((mem_ledO (L.valid hs)).mp m).there (L.valid hs)
  rw [L.keys] at q
  obtain ⟨j, hj, rfl⟩ := List.mem_map.mp q
  have := List.mem_range.mp hj
  omega
theorem LawHeap.nodup {many : Nat} {h : HeapM} (L : LawHeap many h) : (h.map (·.1)).Nodup := by
  rw [L.keys]
  rw [List.Nodup, List.pairwise_map]
  exact List.nodup_range.imp fun {a b} hab => by omega
theorem heap_keys {H : Hp} : ∀ {kvs : List (Key × V)} {h : HeapM}, Paired (ObjV H) kvs h → (kvs.map fun kv => kv.1) = (h.map (·.1)).map Sum.inl
  | _, _, .nil => rfl
  | _, _, .cons r t => by rw [List.map_cons, List.map_cons, List.map_cons, heap_keys t, r.1]

end
section
open PySem PySem.Spec PyProof.Rows L2
variable {P : Program} {w : World} {K : PySem.W.Frag} {mg : Str → Option Value} {base : Heap}
def sp_law (K : PySem.W.Frag) : Sp := SpOf (fun ((a, _) : Addr × List Int) => [.ref a]) fun (a, ns) H Q => SqL K H a (ns.map V.int) ∧ ns.length ≤ 63 ∧ ∀ H', Q (.bl true) H'
set_option maxHeartbeats 4000000 in
theorem ok_law (T : Txt K mg) : DefOk P w K mg base "law" 4 ["_law_script"] (sp_law K) := by
  have G__law_digits := ok__law_digits (P := P) (w := w) (base := base) T
  have G__law_heap := ok__law_heap (P := P) (w := w) (base := base) T
  have G__law_led_to := ok__law_led_to (P := P) (w := w) (base := base) T
  have G__law_reference := ok__law_reference (P := P) (w := w) (base := base) T
  have G_led_objects := ok_led_objects (P := P) (w := w) (base := base) T
  have G_led_imports := ok_led_imports (P := P) (w := w) (base := base) T
  have G__law_alike := ok__law_alike (P := P) (w := w) (base := base) T
  have G__law_draw := ok__law_draw (P := P) (w := w) (base := base) T
  refine DefOk.mk' T.d_law sc_law (fun _ _ _ _ _ _ us hl => match us, hl with | [_], _ => rfl) (fun _ => rfl) (fun cdv f A outer s H p Q E hr h => ?_)
  obtain ⟨a, ns⟩ := p
  obtain ⟨hS, _, k⟩ := h
  refine ⟨_, (pss_cons (ps_set (i := 1) sc_law.nd rfl (.inr rfl) (pe_lst (pa_cons (pe_callD G__law_digits (hr.mono (by decide)) rfl (pa_cons (pv 0) (pa_cons pe_int (pa_cons pe_int pa_nil)))) (pa_cons pe_int pa_nil))))
    (pss_cons (ps_for PassesOwn.never rfl (pi_range1 rfl T.n_range (pa_cons pe_int pa_nil)) (pg_name (i := 2) sc_law.nd rfl (.inl rfl))
    (pss_cons (ps_set (i := 3) sc_law.nd rfl (.inr rfl) (pe_callD G__law_heap (hr.mono (by decide)) rfl (pa_cons (pv 1) pa_nil)))
    (pss_cons (ps_setLc (i := 4) (own := [("_law_k", 11)]) (g := gName 11) (tt := tYes) rfl sc_law.nd rfl rfl (sw_true rfl rfl rfl (by decide +kernel)) (pi_range1 rfl T.n_range (pa_cons (pe_callD G__law_draw (hr.mono (by decide)) rfl (pa_cons (pv 1) (pa_cons pe_int pa_nil))) pa_nil)) (blkOk_by (own := [("_law_k", 11)]) (N := N_law) (sc := defScope s_law) (by decide +kernel)) (fun _ _ _ _ _ => pg_name (i := 11) sc_law.nd rfl (.inl rfl)) (fun _ _ _ _ _ => pts_nil) (fun _ _ _ _ _ => (pe_callD G__law_reference (hr.mono (by decide)) rfl (pa_cons (pv 1) (pa_cons (pe_callB call_lenD (by rfl) T.n_len (by decide +kernel) (pa_cons (pv 3) pa_nil)) pa_nil)))))
    (pss_cons (ps_set (i := 5) sc_law.nd rfl (.inr rfl) (pe_callD G__law_led_to (hr.mono (by decide)) rfl (pa_cons (pv 3) (pa_cons (pv 4) pa_nil))))
    (pss_cons (ps_setLc (i := 6) (own := [("_law_number", 12)]) (g := gName 12) rfl sc_law.nd rfl rfl (sw_true rfl rfl rfl (by decide +kernel)) (ilistK (K := K) (pi_list (pe_callB (cr_sortDI rfl) (by rfl) T.n_sorted (by decide +kernel) (pa_cons (pv 3) pa_nil)))) (blkOk_by (own := [("_law_number", 12)]) (N := N_law) (sc := defScope s_law) (by decide +kernel)) (fun _ _ _ _ _ => pg_name (i := 12) sc_law.nd rfl (.inl rfl)) (fun _ _ _ _ _ => (pts_one (pt_cmpR (op_inDK (K := K) hr.un2) (pe_tup (pa_cons pe_str (pa_cons (pv 12) pa_nil))) (pv 5) rfl))) (fun _ _ _ _ _ => (pv 12)))
    (pss_cons (ps_set (i := 7) sc_law.nd rfl (.inr rfl) (pe_callB (call_sortedPP (K := K)) (by rfl) T.n_sorted (by decide +kernel) (pa_cons (pe_lc (own := [("_law_row", 13)]) (g := gName 13) rfl sc_law.nd (ilistK (K := K) (pi_list (pv 5))) (blkOk_by (own := [("_law_row", 13)]) (N := N_law) (sc := defScope s_law) (by decide +kernel)) (fun _ _ _ _ _ => pg_name (i := 13) sc_law.nd rfl (.inl rfl)) (fun _ _ _ _ _ => (pts_one (pt_cmpR op_eq (pe_ix (ix_tupK (K := K)) (pv 13) pe_int (fun _ _ => rfl)) pe_str (nomark _)))) (fun _ _ _ _ _ => (pe_tup (pa_cons (pe_ix (ix_tupK (K := K)) (pv 13) pe_int (fun _ _ => rfl)) (pa_cons (pe_ix (ix_tupK (K := K)) (pv 13) pe_int (fun _ _ => rfl)) pa_nil))))) pa_nil)))
    (pss_cons (ps_setLc (i := 8) (own := [("_law_k", 11)]) (g := gName 11) rfl sc_law.nd rfl rfl (sw_true rfl rfl rfl (by decide +kernel)) (pi_range1 rfl T.n_range (pa_cons (pe_callB (call_lenK (K := K)) (by rfl) T.n_len (by decide +kernel) (pa_cons (pv 7) pa_nil)) pa_nil)) (blkOk_by (own := [("_law_k", 11)]) (N := N_law) (sc := defScope s_law) (by decide +kernel)) (fun _ _ _ _ _ => pg_name (i := 11) sc_law.nd rfl (.inl rfl)) (fun _ _ _ _ _ => (pts_one (PW.pt (pw_or (pt_cmpR op_eq (pv 11) pe_int (nomark _)) (pw_or1 (pt_cmpR (op_neK (K := K) hr.units) (pe_ix (ix_listK (K := K)) (pv 7) (pv 11) (fun _ _ => rfl)) (pe_ix (ix_listK (K := K)) (pv 7) (pe_op op_sub (pv 11) pe_int) (fun _ _ => rfl)) (nomark _))))))) (fun _ _ _ _ _ => (pe_ix (ix_listK (K := K)) (pv 7) (pv 11) (fun _ _ => rfl))))
    (pss_cons (ps_set (i := 9) sc_law.nd rfl (.inl rfl) (LiI.pe_listItems rfl (pv 3) (by rfl) T.n_list (by decide +kernel)))
    (pss_cons (ps_set (i := 10) sc_law.nd rfl (.inl rfl) (pe_callTy (call_listK (K := K)) (by rfl) T.n_list (by decide +kernel) (pa_cons (pv 4) pa_nil)))
    (pss_cons (ps_if (PW.pt (pw_or (pt_not (pt_val (pe_callD G__law_alike (hr.mono (by decide)) rfl (pa_cons (pe_callD G_led_objects (hr.mono (by decide)) rfl (pa_cons (pv 3) (pa_cons (pv 4) pa_nil))) (pa_cons (pv 6) pa_nil))))) (pw_or1 (pt_not (pt_val (pe_callD G__law_alike (hr.mono (by decide)) rfl (pa_cons (pe_callD G_led_imports (hr.mono (by decide)) rfl (pa_cons (pv 3) (pa_cons (pv 4) pa_nil))) (pa_cons (pv 8) pa_nil))))))))
    (pss_one (ps_ret pe_bl))
    pss_nil)
    (pss_one (ps_if (PW.pt (pw_or (pt_cmpR (op_neK (K := K) hr.units) (LiI.pe_listItems rfl (pv 3) (by rfl) T.n_list (by decide +kernel)) (pv 9) (nomark _)) (pw_or1 (pt_cmpR (op_neK (K := K) hr.units) (pv 4) (pv 10) (nomark _)))))
    (pss_one (ps_ret pe_bl))
    pss_nil))))))))))))
    (pss_one (ps_ret (pe_and (pe_cmpR (op_eqK (K := K) hr.units) (pe_callD G_led_objects (hr.mono (by decide)) rfl (pa_cons pe_dnewK (pa_cons (pe_lst pa_nil) pa_nil))) (pe_lst pa_nil) (nomark _)) (pe_one (pe_cmpR (op_eqK (K := K) hr.units) (pe_callD G_led_imports (hr.mono (by decide)) rfl (pa_cons pe_dnewK (pa_cons (pe_lst (pa_cons pe_non pa_nil)) pa_nil))) (pe_lst pa_nil) (nomark _)))))))), ?_⟩
  refine ⟨_, rfl, (a, ns, 0, 63), rfl, hS, by decide, by decide, by decide, fun l ds nl hdl => ⟨(by show 2 ≤ sizeLine; decide), fun b nb => ?_⟩⟩
  have lb : l ≠ b := fun e => by rw [← e, upd_same] at nb; cases nb
  refine ⟨4, rfl, by decide, by decide, for_range (lo := 0) (n := 4)
    (fun t σ H' => ∃ v2 v3 v4 v5 v6 v7 v8 v9 v10, σ = [some (.ref a), some (.ref b), v2, v3, v4, v5, v6, v7, v8, v9, v10, none, none, none] ∧ BoxAt H' b l)
    ⟨_, _, _, _, _, _, _, _, _, rfl, ds, 0, upd_same, by rw [upd_ne lb, upd_same], by decide, lb⟩ ?_ ?_⟩
  · rintro t σ H0 ht ⟨v2, v3, v4, v5, v6, v7, v8, v9, v10, rfl, B0⟩
    refine ⟨_, rfl, (b, l), rfl, B0, fun d many hm H1 hm10 L hH1 nd1 B1 f1 => ?_⟩
    refine ⟨_, rfl, (b, l, 5), rfl, B1, by decide, fun sn H2 s0 s5 B2 f2 => ⟨sn, rfl, by omega, by omega, fun D nD => ?_⟩⟩
    have hH2 := hH1.box f2 B1.isLst
    have nbD := B2.ne nD
    refine lc_range (lo := 0) (n := sn.toNat) (fun j H' => ∃ (vs : List V) (rs : List (Option Rf)), H' D = some (.lst vs) ∧ Paired (RfV H') vs rs ∧ rs.length = j ∧ (∀ r ∈ rs, OkRf many r) ∧ BoxAt H' b l ∧ Fr [b] H2 H')
      ⟨[], [], upd_same, .nil, rfl, (fun _ z => nomatch z), B2.new nD, Fr.new nD⟩ ?_ ?_
    · rintro j H3 hj ⟨vs, rs, h1, h2, h3, h4, B3, f3⟩
      obtain ⟨kvs, hd3, hkv⟩ := hH2.box f3 B2.isLst
      have hml : (kvs.length : Int) = (many : Int) := by rw [Paired.length hkv, L.len]
      refine ⟨rfl, _, rfl, _, rfl, d, kvs, rfl, hd3, (b, l, (kvs.length : Int)), rfl, B3, fun v r H4 rv okr B4 f4 => ?_⟩
      rw [hml] at okr
      have h1' : H4 D = some (.lst vs) := f4 _ _ (by simp [Ne.symm nbD.1]) h1
      refine ⟨vs, h1', small1000 (by rw [Paired.length h2, h3]; omega), vs ++ [v], rs ++ [r], upd_same, ?_, by rw [List.length_append, h3]; rfl, fun z hz => ?_, B4.put nbD, ?_⟩
      · have t4 := f4.tups B3.isLst
        have tu : ∀ a xs, H4 a = some (.tup xs) → upd H4 D (.lst (vs ++ [v])) a = some (.tup xs) := fun a xs e => by
          rw [upd_ne (fun z => by rw [z, h1'] at e; cases e)]
          exact e
        exact paired_app (L2.Paired.mapP h2 fun _ _ q => (q.mono t4).mono tu) (.cons (rv.mono tu) .nil)
      · rcases List.mem_append.mp hz with hz | hz
        · exact h4 z hz
        · rw [List.mem_singleton.mp hz]
          exact okr
      · exact fun a o na e => by
          have e2 := (f3.trans f4) a o na e
          rw [upd_ne (ne_of_none e nD)]
          exact e2
    · rintro H3 ⟨vs, st, hD, hP, hlen, hok, B3, f3⟩
      have hH3 := hH2.box f3 B2.isLst
      have hV := L.valid hok
      have hvl : vs.length ≤ 4 := by rw [Paired.length hP]; omega
      dsimp only
      clear hH2 hH1 f3 f2 f1 B2 B1 hlen nD nd1 nbD
      refine ⟨_, rfl, _, rfl, (d, D, many, hm, vs, st), rfl, hH3, SqL.of hD, hP, hV, L, hm10, hvl, fun f wv fo H4 s4 nf hf pp nn fl hfo => ?_⟩
      have fl44 : wv.length ≤ 44 := by rw [Paired.length pp]; exact fl
      obtain ⟨kvs, hd3, hkv⟩ := hH3
      have hkk := heap_keys hkv
      have hd4 := s4 _ _ hd3
      have pp4 : Paired (RfV H4) wv fo := L2.Paired.mapP pp fun _ _ q => q.mono (Same.tups s4)
      -- the objects
      refine ⟨_, rfl, d, kvs, _, rfl, .inl hd4, hkk, fun ys p1 y1 y2 np1 => ⟨p1, rfl, ⟨_, SqL.of upd_same⟩, fun D1 nD1 => ?_⟩⟩
      have s5 : Same H4 (upd H4 p1 (.lst (ys.map V.int))) := nws np1 (Same.refl H4)
      have yl : ys.length = many := by rw [y1.length_eq, List.length_map, L.len]
      have nD14 : H4 D1 = none := s5.free nD1
      refine lc_list (xs := ys.map V.int) (fun j H' => Same (upd H4 p1 (.lst (ys.map V.int))) H' ∧ H' D1 = some (.lst (((ys.take j).filter fun i => decide (some (Rf.obj i) ∈ fo)).map V.int)))
        ⟨nws nD1 (Same.refl _), upd_same⟩ (fun i H' _ ⟨e, _⟩ => SqL.of (e _ _ upd_same)) ?_ ?_
      · rintro j x H5 hx ⟨s6, hD1⟩
        rw [List.getElem?_map] at hx
        obtain ⟨y, hy, rfl⟩ := Option.map_eq_some_iff.mp hx
        have ey : (ys.take (j + 1)).filter (fun i => decide (some (Rf.obj i) ∈ fo)) = (ys.take j).filter (fun i => decide (some (Rf.obj i) ∈ fo)) ++ [y].filter (fun i => decide (some (Rf.obj i) ∈ fo)) := by
          rw [List.take_add_one, hy, List.filter_append]
          rfl
        refine ⟨rfl, _, rfl, (by show 2 ≤ sizeLine; decide), fun t1 nt1 => ?_⟩
        have s7 : Same H4 (upd H5 t1 (.tup [.str "object", .int y])) := nws nt1 (s5.trans s6)
        have hD1' : upd H5 t1 (.tup [.str "object", .int y]) D1 = some (.lst (((ys.take j).filter fun i => decide (some (Rf.obj i) ∈ fo)).map V.int)) := nw nt1 hD1
        refine ⟨_, rfl, refD (some (.obj y)), fo.map refD, dp_ref ⟨t1, rfl, upd_same⟩, .lst (SqL.of (s7 _ _ hf)) (dp_refs (L2.Paired.mapP pp4 fun _ _ z => z.mono (Same.tups s7))), (sh_ref (n := 0) _).shaped (by decide), (sh_refs (n := 0) fo).shaped (by decide), _, rfl, ?_⟩
        rw [refs_any]
        refine ite2 (fun h2 => ?_) (fun h2 => ?_)
        · refine ⟨_, rfl, _, hD1', ?_, ?_, ?_⟩
          · have h4 := List.length_filter_le (fun i => decide (some (Rf.obj i) ∈ fo)) (ys.take j)
            rw [List.length_take] at h4
            rw [List.length_map]
            exact small1000 (by omega)
          · exact fun a o e => by
              rw [upd_ne (ne_of_none e nD1)]
              exact nw nt1 (s6 a o e)
          · rw [upd_same, ey, List.filter_cons_of_pos (p := fun i => decide (some (Rf.obj i) ∈ fo)) h2, List.filter_nil, List.map_append]
            rfl
        · refine ⟨fun a o e => nw nt1 (s6 a o e), ?_⟩
          rw [ey, List.filter_cons_of_neg (p := fun i => decide (some (Rf.obj i) ∈ fo)) h2, List.filter_nil, List.append_nil]
          exact hD1'
      rintro H5 ⟨s6, hD1⟩
      rw [List.length_map, List.take_length, led_filter hV hfo L.nodup y1 y2] at hD1
      have s5' : Same H4 H5 := s5.trans s6
      clear yl y1 y2 s6
      have hf5 := s5' _ _ hf
      have pp5 : Paired (RfV H5) wv fo := L2.Paired.mapP pp4 fun _ _ q => q.mono (Same.tups s5')
      clear nD14 s5 nD1 np1
      -- the imports
      refine ⟨_, rfl, f, rfl, ⟨_, SqL.of hf5⟩, fun D2 nD2 => ?_⟩
      refine lc_list (xs := wv) (fun j H' => Same H5 H' ∧ ∃ bs : List (Addr × (Int × Int)), H' D2 = some (.lst (bs.map fun x => V.ref x.1)) ∧ bs.map (·.2) = impsOf (fo.take j) ∧ IsPrs H' bs)
        ⟨nws nD2 (Same.refl _), [], upd_same, rfl, (fun _ m => nomatch m)⟩ (fun i H' _ ⟨e, _⟩ => SqL.of (e _ _ hf5)) ?_ ?_
      · rintro j x H6 hx ⟨s6, bs, hD2, hbs, hpr⟩
        obtain ⟨r, hr, rx⟩ := pairedGet pp5 hx
        have ei : impsOf (fo.take (j + 1)) = impsOf (fo.take j) ++ impsOf [r] := by
          unfold impsOf
          rw [List.take_add_one, hr, List.filterMap_append]
          rfl
        have hbl : bs.length ≤ 44 := by
          have h4 : (impsOf (fo.take j)).length ≤ (fo.take j).length := List.length_filterMap_le _ _
          have h5 := congrArg List.length hbs
          rw [List.length_map] at h5
          rw [List.length_take] at h4
          omega
        rcases rx.non_or with ⟨rfl, rfl⟩ | ⟨i, at', rfl, rfl, hat⟩ | ⟨p, e, at', rfl, rfl, hat⟩
        · exact absurd rfl (nn _ (List.mem_of_getElem? hr))
        · refine ⟨rfl, _, rfl, at', _, 0, _, rfl, rfl, SqT.of (s6 _ _ hat), rfl, rfl, _, rfl, ite2 (fun h => absurd h (by decide)) (fun _ => ?_)⟩
          exact ⟨s6, bs, hD2, by rw [hbs, ei]; exact (List.append_nil _).symm, hpr⟩
        · refine ⟨rfl, _, rfl, at', _, 0, _, rfl, rfl, SqT.of (s6 _ _ hat), rfl, rfl, _, rfl, ite2 (fun _ => ?_) (fun h => absurd rfl h)⟩
          refine ⟨_, rfl, at', _, 1, _, rfl, rfl, SqT.of (s6 _ _ hat), rfl, _, rfl, at', _, 2, _, rfl, rfl, SqT.of (s6 _ _ hat), rfl, (by show 2 ≤ sizeLine; decide), fun t1 nt1 => ?_⟩
          have h1 := nw (u := .tup [.int p, .int e]) nt1 hD2
          have dne : D2 ≠ t1 := fun z => by rw [z, nt1] at hD2; cases hD2
          refine ⟨_, h1, by rw [List.length_map]; exact small1000 (by omega), fun a o q => by rw [upd_ne (ne_of_none q nD2)]; exact nw nt1 (s6 a o q), bs ++ [(t1, (p, e))], ?_, ?_, ?_⟩
          · rw [upd_same, List.map_append]
            rfl
          · rw [List.map_append, hbs, ei]
            rfl
          · intro y hy
            rcases List.mem_append.mp hy with hy | hy
            · have h2 := nw (u := .tup [.int p, .int e]) nt1 (hpr y hy)
              rw [upd_ne (fun z => by rw [z, h1] at h2; cases h2)]
              exact h2
            · rw [List.mem_singleton.mp hy]
              show upd (upd H6 t1 _) D2 _ t1 = _
              rw [upd_ne (Ne.symm dne)]
              exact upd_same
      rintro H6 ⟨s6, bs, hD2, hbs, hpr⟩
      rw [Paired.length pp5, List.take_length] at hbs
      refine ⟨D2, bs, rfl, SqL.of hD2, hpr, fun cs p2 cp cs2 np2 => ?_⟩
      have hcl : cs.length ≤ 44 := by
        have h4 : (impsOf fo).length ≤ fo.length := List.length_filterMap_le _ _
        have h5 := congrArg List.length hbs
        rw [List.length_map] at h5
        have := cp.length_eq
        omega
      have hcm : ∀ o e, (o, e) ∈ cs.map (·.2) ↔ Reach hm st (.imp o e) := fun o e => by
        rw [← hfo, ← mem_impsOf, ← hbs]
        exact (cp.map _).mem_iff
      have s7 : Same H5 (upd H6 p2 (.lst (cs.map fun x => V.ref x.1))) := nws np2 s6
      have hcp : IsPrs (upd H6 p2 (.lst (cs.map fun x => V.ref x.1))) cs := fun x hx => nw np2 (hpr x (cp.mem_iff.mp hx))
      have hp2 : upd H6 p2 (.lst (cs.map fun x => V.ref x.1)) p2 = some (.lst (cs.map fun x => V.ref x.1)) := upd_same
      generalize hH7 : upd H6 p2 (.lst (cs.map fun x => V.ref x.1)) = H7 at s7 hcp hp2 ⊢
      clear hH7 np2 cp hpr hbs hD2 s6
      -- without repeats
      have hnat : ((cs.map fun x => V.ref x.1).length : Int).toNat = cs.length := by rw [List.length_map]; omega
      refine ⟨_, rfl, p2, _, rfl, .inl (SqL.of hp2), _, rfl, by rw [List.length_map]; omega, by rw [List.length_map]; omega, fun D3 nD3 => ?_⟩
      rw [hnat]
      have hit : ∀ {j : Nat} (hj : j < cs.length), (cs.map fun x => V.ref x.1)[j]? = some (.ref cs[j].1) := fun hj => by rw [List.getElem?_map, List.getElem?_eq_getElem hj]; rfl
      refine lc_range (lo := 0) (n := cs.length) (fun j H' => Same H7 H' ∧ ∃ es : List (Addr × (Int × Int)), es.length ≤ j ∧ H' D3 = some (.lst (es.map fun x => V.ref x.1)) ∧ IsPrs H' es ∧ Dd ((cs.map (·.2)).take j) (es.map (·.2)))
        ⟨nws nD3 (Same.refl _), [], Nat.le_refl _, upd_same, (fun _ m => nomatch m), Dd.nil⟩ ?_ ?_
      · rintro j H8 hj ⟨s8, es, hel, hD3, hpr, hdd⟩
        have ej : (0 : Int) + (j : Int) = (j : Int) := Int.zero_add _
        have etk : (cs.map (·.2)).take (j + 1) = (cs.map (·.2)).take j ++ [cs[j].2] := by
          rw [List.take_add_one, List.getElem?_map, List.getElem?_eq_getElem hj]
          rfl
        have hx := hcp _ (List.getElem_mem hj)
        have yes : Dd ((cs.map (·.2)).take (j + 1)) ((es ++ [cs[j]]).map (·.2)) → ∃ acc, H8 D3 = some (.lst acc) ∧ acc.length < sizeLine ∧ (Same H7 (upd H8 D3 (.lst (acc ++ [V.ref cs[j].1]))) ∧ ∃ es : List (Addr × (Int × Int)), es.length ≤ j + 1 ∧ upd H8 D3 (.lst (acc ++ [V.ref cs[j].1])) D3 = some (.lst (es.map fun x => V.ref x.1)) ∧ IsPrs (upd H8 D3 (.lst (acc ++ [V.ref cs[j].1]))) es ∧ Dd ((cs.map (·.2)).take (j + 1)) (es.map (·.2))) := fun q => by
          refine ⟨_, hD3, by rw [List.length_map]; exact small1000 (by omega), same_mut s8 nD3, es ++ [cs[j]], by rw [List.length_append]; exact Nat.succ_le_succ hel, ?_, fun y hy => ?_, q⟩
          · rw [upd_same, List.map_append]
            rfl
          · rw [upd_ne (fun z => by
              rcases List.mem_append.mp hy with hy | hy
              · have := hpr y hy
                rw [z, hD3] at this
                cases this
              · rw [List.mem_singleton.mp hy] at z
                rw [z, nD3] at hx
                cases hx)]
            rcases List.mem_append.mp hy with hy | hy
            · exact hpr y hy
            · rw [List.mem_singleton.mp hy]
              exact s8 _ _ hx
        have at1 : atI (cs.map fun x => V.ref x.1) (0 + (j : Int)) = some (.ref cs[j].1) := by rw [ej]; exact atI_nat (hit hj)
        refine ⟨rfl, _, rfl, rfl, _, rfl, ite2 (fun h0 => ?_) (fun h0 => ?_)⟩
        · have h0 : (0 : Int) + (j : Int) = 0 := V.int.inj (of_decide_eq_true h0)
          have hj0 : j = 0 := by omega
          subst hj0
          refine ite2 (fun _ => ?_) (fun h => absurd rfl h)
          refine ⟨_, rfl, _, rfl, p2, _, _, _, rfl, rfl, SqL.of (s8 _ _ hp2), at1, yes ?_⟩
          rw [etk, List.map_append]
          exact hdd.more fun y hy => by simp at hy
        · have hj0 : j ≠ 0 := fun e => by subst e; exact h0 rfl
          obtain ⟨q, rfl⟩ : ∃ q, j = q + 1 := ⟨j - 1, by omega⟩
          have hq : q < cs.length := by omega
          have at2 : atI (cs.map fun x => V.ref x.1) (0 + ((q + 1 : Nat) : Int) - 1) = some (.ref cs[q].1) := by
            rw [show (0 : Int) + ((q + 1 : Nat) : Int) - 1 = (q : Int) by omega]
            exact atI_nat (hit hq)
          have dpx : Dp K H8 (.ref cs[q + 1].1) (pairD cs[q + 1].2) := .tup (SqT.of (s8 _ _ hx)) (.cons (.int _) (.cons (.int _) .nil))
          have dpy : Dp K H8 (.ref cs[q].1) (pairD cs[q].2) := .tup (SqT.of (s8 _ _ (hcp _ (List.getElem_mem hq)))) (.cons (.int _) (.cons (.int _) .nil))
          have hlast : ((cs.map (·.2)).take (q + 1)).getLast? = some cs[q].2 := by
            rw [last_take (by rw [List.length_map]; omega), List.getElem?_map, List.getElem?_eq_getElem hq]
            rfl
          refine ⟨_, rfl, _, rfl, p2, _, _, _, rfl, rfl, SqL.of (s8 _ _ hp2), at1, _, rfl, _, rfl, _, _, rfl, rfl, p2, _, _, _, rfl, rfl, SqL.of (s8 _ _ hp2), at2, pairD _, pairD _, dpx, dpy, (sh_pair (n := 0) _).shaped (by decide), (sh_pair (n := 0) _).shaped (by decide), _, rfl, ?_⟩
          rw [pairD_eqv]
          refine ite2 (fun hne => ?_) (fun heq => ?_)
          · have hne : cs[q + 1].2 ≠ cs[q].2 := by simpa using hne
            refine ⟨_, rfl, _, rfl, p2, _, _, _, rfl, rfl, SqL.of (s8 _ _ hp2), at1, yes ?_⟩
            rw [etk, List.map_append]
            refine hdd.more fun y hy => ?_
            cases hlast.symm.trans hy
            have hle := List.pairwise_iff_getElem.mp cs2 q (q + 1) (by rw [List.length_map]; exact hq) (by rw [List.length_map]; exact hj) (Nat.lt_succ_self q)
            rw [List.getElem_map, List.getElem_map] at hle
            rcases sloP.tot cs[q].2 cs[q + 1].2 with z | z | z
            · exact z
            · exact absurd z.symm hne
            · exact absurd z hle
          · have heq : cs[q + 1].2 = cs[q].2 := by simpa using heq
            refine ⟨s8, es, by omega, hD3, hpr, ?_⟩
            rw [etk, heq]
            exact hdd.same hlast
      rintro H8 ⟨s8, es, hel, hD3, hpr, hdd⟩
      rw [show cs.length = (cs.map (·.2)).length by rw [List.length_map], List.take_length] at hdd
      have hes : es.map (·.2) = ledI hm st := ledI_eq hdd.s fun o e => (hdd.m _).trans (hcm o e)
      have hP8 : PairsAt H8 D3 (ledI hm st) := ⟨es, hes, hD3, hpr⟩
      clear hdd hes hpr hD3 hel hit hnat hcm hcl hcp hp2 cs2 nD3
      have s48 : Same H4 H8 := (s5'.trans s7).trans s8
      have s38 : Same H3 H8 := s4.trans s48
      have hD18 := s8 _ _ (s7 _ _ hD1)
      have neq : ∀ {n : Nat} {x : PyData}, Sh n x → ¬ (!PyData.eqv x x) = true := fun sx h => by
        rw [sx.eqv] at h
        cases h
      -- what was given
      refine ⟨_, rfl, d, kvs, rfl, s38 _ _ hd3, fun H9 p9 ts9 s9 np9 _ _ hp9 pr9 => ?_⟩
      refine ⟨_, rfl, D, vs, rfl, .inl (SqL.of (s9 _ _ (s38 _ _ hD))), fun g ng => ?_⟩
      have s9' : Same H8 (upd H9 g (.lst vs)) := nws ng s9
      have hp9' := nw (u := .lst vs) ng hp9
      have hg : upd H9 g (.lst vs) g = some (.lst vs) := upd_same
      have pr9' : Paired (fun (t : Addr) (q : Key × V) => upd H9 g (.lst vs) t = some (.tup [kV q.1, q.2])) ts9 kvs := L2.Paired.mapP pr9 fun _ _ q => nw ng q
      generalize upd H9 g (.lst vs) = H10 at s9' hp9' hg pr9' ⊢
      have s310 : Same H3 H10 := s38.trans s9'
      have hH10 : ∀ {H'}, Same H10 H' → HeapAt H' d hm := fun s => HeapAt.mono ⟨kvs, hd3, hkv⟩ (s310.trans s)
      have pp10 : ∀ {H'}, Same H10 H' → Paired (RfV H') vs st := fun s => L2.Paired.mapP hP fun _ _ q => q.mono (Same.tups (s310.trans s))
      have hobj := ledO_len hm st
      have hml := L.len
      have hil : (ledI hm st).length ≤ 48 := by
        have h1 := sortS_len sloP ((impsOf (st ++ (hm.map (·.2)).flatten)).filter fun p => @decide (Reach hm st (.imp p.1 p.2)) (Classical.propDecidable _))
        have h2 : ((impsOf (st ++ (hm.map (·.2)).flatten)).filter fun p => @decide (Reach hm st (.imp p.1 p.2)) (Classical.propDecidable _)).length ≤ (impsOf (st ++ (hm.map (·.2)).flatten)).length := List.length_filter_le _ _
        have h3 : (impsOf (st ++ (hm.map (·.2)).flatten)).length ≤ (st ++ (hm.map (·.2)).flatten).length := List.length_filterMap_le _ _
        have h4 : (hm.map (·.2)).flatten.length ≤ 4 * many := by
          rw [← hml]
          have : ∀ l : HeapM, (∀ e ∈ l, e.2.length ≤ 4) → (l.map (·.2)).flatten.length ≤ 4 * l.length := fun l => by
            induction l with
            | nil => exact fun _ => Nat.le_refl _
            | cons e l ih =>
              intro hl
              have h1 := hl e List.mem_cons_self
              have h2 := ih fun x hx => hl x (List.mem_cons_of_mem _ hx)
              rw [List.map_cons, List.flatten_cons, List.length_append, List.length_cons]
              omega
          exact this hm fun e he => (L.refs e he).1
        have h5 := Paired.length hP
        rw [List.length_append] at h3
        unfold ledI
        omega
      have srO : Sr 1 (64 * 41) (.list ((ledO hm st).map .int)) := sr_ints (fun i hi => by
        have := ledO_small L hok hi
        omega) (by omega)
      have srI : Sr 2 (64 * 101) (.list ((ledI hm st).map pairD)) := sr_list (n := 1) (m := 100) (fun x hx => by
        obtain ⟨⟨o, e⟩, hq, rfl⟩ := List.mem_map.mp hx
        have := ledI_small L hok hq
        exact sr_pair (by show o.natAbs < _; omega) (by show e.natAbs < _; omega)) (by rw [List.length_map]; omega)
      refine ⟨_, rfl, _, rfl, (d, D, hm, vs, st), rfl, hH10 (Same.refl _), .inl (SqL.of (s310 _ _ hD)), pp10 (Same.refl _), hV, L.small hm10, by show vs.length ≤ 1000; omega, fun l1 H11 s11 nl1 h1 => ?_⟩
      refine ⟨_, rfl, (.ref l1, .ref D1, _, 1, 64 * 41), rfl, dp_ints (SqL.of h1), dp_ints (SqL.of (s11 _ _ (s9' _ _ hD18))), srO, by decide, by decide, true, rfl, ite2 (fun h => absurd h (by decide)) (fun _ => ?_)⟩
      refine ⟨_, rfl, _, rfl, (d, D, hm, vs, st), rfl, hH10 s11, .inl (SqL.of (s11 _ _ (s310 _ _ hD))), pp10 s11, hV, L.small hm10, by show vs.length ≤ 1000; omega, fun l2 H12 s12 nl2 h2 => ?_⟩
      have hD3' : PairsAt H12 D3 (ledI hm st) := by
        obtain ⟨bs, e1, e2, e3⟩ := hP8
        have s := (s9'.trans s11).trans s12
        exact ⟨bs, e1, s _ _ e2, fun x hx => s _ _ (e3 x hx)⟩
      refine ⟨_, rfl, (.ref l2, .ref D3, _, 2, 64 * 101), rfl, dp_pairs h2, dp_pairs hD3', srI, by decide, by decide, true, rfl, ite2 (fun h => absurd h (by decide)) (fun _ => ?_)⟩
      have s1012 := s11.trans s12
      refine ⟨_, rfl, d, kvs, rfl, s1012 _ _ (s310 _ _ hd3), fun H13 p13 ts13 s13 np13 _ _ hp13 pr13 => ?_⟩
      have s1013 : Same H10 H13 := s1012.trans s13
      have kv13 : Paired (ObjV H13) kvs hm := L2.Paired.mapP hkv fun _ _ q => ObjV.mono (Same.tups (s310.trans s1013)) q
      have hsh := sh_objs (n := 0) hm
      refine ⟨_, rfl, .list (hm.map objD), .list (hm.map objD), .lst (SqL.of hp13) (dp_objs pr13 kv13), .lst (SqL.of (s1013 _ _ hp9')) (dp_objs (L2.Paired.mapP pr9' fun _ _ q => s1013 _ _ q) kv13), hsh.shaped (by decide), hsh.shaped (by decide), _, rfl, ite2 (fun h => absurd h (neq hsh)) (fun _ => ?_)⟩
      have hsr := sh_refs (n := 0) st
      refine ⟨_, rfl, _, rfl, .list (st.map refD), .list (st.map refD), .lst (SqL.of (s1013 _ _ (s310 _ _ hD))) (dp_refs (pp10 s1013)), .lst (SqL.of (s1013 _ _ hg)) (dp_refs (pp10 s1013)), hsr.shaped (by decide), hsr.shaped (by decide), _, rfl, ite2 (fun h => absurd h (neq hsr)) (fun _ => ?_)⟩
      exact ⟨_, _, _, _, _, _, _, _, _, rfl, B3.same (s310.trans s1013)⟩
  · rintro σ H0 ⟨v2, v3, v4, v5, v6, v7, v8, v9, v10, rfl, B0⟩
    have vE : ValidH [] ([] : List (Option Rf)) := ⟨(fun _ z => nomatch z), fun _ _ z => nomatch z⟩
    have vN : ValidH [] [none] := ⟨fun _ z => (by simp at z), fun _ _ z => nomatch z⟩
    have sE : HeapSmall [] := ⟨by decide, fun _ => Nat.zero_le _⟩
    intro d nd
    refine ⟨Nat.zero_le _, fun e ne => ?_⟩
    refine ⟨(d, e, [], [], []), rfl, ⟨[], nw ne upd_same, .nil⟩, .inl (SqL.of upd_same), .nil, vE, sE, Nat.zero_le _, fun l1 H1 s1 nl1 h1 => ⟨Nat.zero_le _, fun l2 nl2 => ?_⟩⟩
    rw [ledO_none] at h1
    refine ⟨.list [], .list [], .lst (SqL.of (nw nl2 h1)) .nil, .lst (SqL.of upd_same) .nil, rfl, rfl, ?_⟩
    refine ⟨true, rfl, ite2 (fun _ => ?_) (fun h => absurd rfl h)⟩
    intro d2 nd2
    refine ⟨(by show 1 ≤ sizeLine; decide), fun e2 ne2 => ?_⟩
    refine ⟨(d2, e2, [], [.non], [none]), rfl, ⟨[], nw ne2 upd_same, .nil⟩, .inl (SqL.of upd_same), .cons rfl .nil, vN, sE, (by decide), fun l3 H2 s2 nl3 h3 => ⟨Nat.zero_le _, fun l4 nl4 => ?_⟩⟩
    rw [ledI_none] at h3
    obtain ⟨bs, e1, e3, _⟩ := h3
    have e1 : bs = [] := List.map_eq_nil_iff.mp e1
    subst e1
    exact ⟨.list [], .list [], .lst (SqL.of (nw nl4 e3)) .nil, .lst (SqL.of upd_same) .nil, rfl, rfl, k _⟩

end
section
open PySem PySem.Spec PyProof.Rows L2
variable {P : Program} {w : World} {K : PySem.W.Frag} {mg : Str → Option Value} {base : Heap}
theorem all_mk {l : PySem.W.OpenLaw} {w : World} {K : PySem.W.Frag} {h : Heap} {mg : Str → Option Value} {fa : Addr} (X : K.In h) (G : h.Ns mainGlobals mg) (hfa : mg "law" = some (.ref fa))
    {f0 : Addr} {od0 an0 : Option Addr} {sl0 : Array (Option Value)} {oc0 kV0 dc0 pm0 cd0 ct0 : Value} {f1 : Addr} {od1 an1 : Option Addr} {sl1 : Array (Option Value)} {oc1 kV1 dc1 pm1 cd1 ct1 : Value} {f2 : Addr} {od2 an2 : Option Addr} {sl2 : Array (Option Value)} {oc2 kV2 dc2 pm2 cd2 ct2 : Value} {f3 : Addr} {od3 an3 : Option Addr} {sl3 : Array (Option Value)} {oc3 kV3 dc3 pm3 cd3 ct3 : Value} {f4 : Addr} {od4 an4 : Option Addr} {sl4 : Array (Option Value)} {oc4 kV4 dc4 pm4 cd4 ct4 : Value} {f5 : Addr} {od5 an5 : Option Addr} {sl5 : Array (Option Value)} {oc5 kV5 dc5 pm5 cd5 ct5 : Value} {f6 : Addr} {od6 an6 : Option Addr} {sl6 : Array (Option Value)} {oc6 kV6 dc6 pm6 cd6 ct6 : Value} {f7 : Addr} {od7 an7 : Option Addr} {sl7 : Array (Option Value)} {oc7 kV7 dc7 pm7 cd7 ct7 : Value} {f8 : Addr} {od8 an8 : Option Addr} {sl8 : Array (Option Value)} {oc8 kV8 dc8 pm8 cd8 ct8 : Value} {f9 : Addr} {od9 an9 : Option Addr} {sl9 : Array (Option Value)} {oc9 kV9 dc9 pm9 cd9 ct9 : Value} {f10 : Addr} {od10 an10 : Option Addr} {sl10 : Array (Option Value)} {oc10 kV10 dc10 pm10 cd10 ct10 : Value} {t_IMPORT : Tok}
    (a0 : PySem.W.nsIn K mainGlobals "_led" = some (some (.ref f0))) (l0 : K.lookup f0 = some ⟨oc0, od0, .func (PySem.W.fnOf "_led" "_led" (defArgs s__led) (defBody s__led) (defScope s__led) .none kV0 dc0 pm0 an0 cd0 ct0), sl0⟩) (c0 : PySem.W.codeIn K cd0 "_led" = true) (k0 : PySem.W.keepIn K (.ref f0) = true)
    (a1 : PySem.W.nsIn K mainGlobals "led_objects" = some (some (.ref f1))) (l1 : K.lookup f1 = some ⟨oc1, od1, .func (PySem.W.fnOf "led_objects" "led_objects" (defArgs s_led_objects) (defBody s_led_objects) (defScope s_led_objects) .none kV1 dc1 pm1 an1 cd1 ct1), sl1⟩) (c1 : PySem.W.codeIn K cd1 "led_objects" = true) (k1 : PySem.W.keepIn K (.ref f1) = true)
    (a2 : PySem.W.nsIn K mainGlobals "led_imports" = some (some (.ref f2))) (l2 : K.lookup f2 = some ⟨oc2, od2, .func (PySem.W.fnOf "led_imports" "led_imports" (defArgs s_led_imports) (defBody s_led_imports) (defScope s_led_imports) .none kV2 dc2 pm2 an2 cd2 ct2), sl2⟩) (c2 : PySem.W.codeIn K cd2 "led_imports" = true) (k2 : PySem.W.keepIn K (.ref f2) = true)
    (a3 : PySem.W.nsIn K mainGlobals "_law_cell" = some (some (.ref f3))) (l3 : K.lookup f3 = some ⟨oc3, od3, .func (PySem.W.fnOf "_law_cell" "_law_cell" (defArgs s__law_cell) (defBody s__law_cell) (defScope s__law_cell) .none kV3 dc3 pm3 an3 cd3 ct3), sl3⟩) (c3 : PySem.W.codeIn K cd3 "_law_cell" = true) (k3 : PySem.W.keepIn K (.ref f3) = true)
    (a4 : PySem.W.nsIn K mainGlobals "_law_digits" = some (some (.ref f4))) (l4 : K.lookup f4 = some ⟨oc4, od4, .func (PySem.W.fnOf "_law_digits" "_law_digits" (defArgs s__law_digits) (defBody s__law_digits) (defScope s__law_digits) .none kV4 dc4 pm4 an4 cd4 ct4), sl4⟩) (c4 : PySem.W.codeIn K cd4 "_law_digits" = true) (k4 : PySem.W.keepIn K (.ref f4) = true)
    (a5 : PySem.W.nsIn K mainGlobals "_law_draw" = some (some (.ref f5))) (l5 : K.lookup f5 = some ⟨oc5, od5, .func (PySem.W.fnOf "_law_draw" "_law_draw" (defArgs s__law_draw) (defBody s__law_draw) (defScope s__law_draw) .none kV5 dc5 pm5 an5 cd5 ct5), sl5⟩) (c5 : PySem.W.codeIn K cd5 "_law_draw" = true) (k5 : PySem.W.keepIn K (.ref f5) = true)
    (a6 : PySem.W.nsIn K mainGlobals "_law_alike" = some (some (.ref f6))) (l6 : K.lookup f6 = some ⟨oc6, od6, .func (PySem.W.fnOf "_law_alike" "_law_alike" (defArgs s__law_alike) (defBody s__law_alike) (defScope s__law_alike) .none kV6 dc6 pm6 an6 cd6 ct6), sl6⟩) (c6 : PySem.W.codeIn K cd6 "_law_alike" = true) (k6 : PySem.W.keepIn K (.ref f6) = true)
    (a7 : PySem.W.nsIn K mainGlobals "_law_reference" = some (some (.ref f7))) (l7 : K.lookup f7 = some ⟨oc7, od7, .func (PySem.W.fnOf "_law_reference" "_law_reference" (defArgs s__law_reference) (defBody s__law_reference) (defScope s__law_reference) .none kV7 dc7 pm7 an7 cd7 ct7), sl7⟩) (c7 : PySem.W.codeIn K cd7 "_law_reference" = true) (k7 : PySem.W.keepIn K (.ref f7) = true)
    (a8 : PySem.W.nsIn K mainGlobals "_law_heap" = some (some (.ref f8))) (l8 : K.lookup f8 = some ⟨oc8, od8, .func (PySem.W.fnOf "_law_heap" "_law_heap" (defArgs s__law_heap) (defBody s__law_heap) (defScope s__law_heap) .none kV8 dc8 pm8 an8 cd8 ct8), sl8⟩) (c8 : PySem.W.codeIn K cd8 "_law_heap" = true) (k8 : PySem.W.keepIn K (.ref f8) = true)
    (a9 : PySem.W.nsIn K mainGlobals "_law_led_to" = some (some (.ref f9))) (l9 : K.lookup f9 = some ⟨oc9, od9, .func (PySem.W.fnOf "_law_led_to" "_law_led_to" (defArgs s__law_led_to) (defBody s__law_led_to) (defScope s__law_led_to) .none kV9 dc9 pm9 an9 cd9 ct9), sl9⟩) (c9 : PySem.W.codeIn K cd9 "_law_led_to" = true) (k9 : PySem.W.keepIn K (.ref f9) = true)
    (a10 : PySem.W.nsIn K mainGlobals "law" = some (some (.ref f10))) (l10 : K.lookup f10 = some ⟨oc10, od10, .func (PySem.W.fnOf "law" "law" (defArgs s_law) (defBody s_law) (defScope s_law) .none kV10 dc10 pm10 an10 cd10 ct10), sl10⟩) (c10 : PySem.W.codeIn K cd10 "law" = true) (k10 : PySem.W.keepIn K (.ref f10) = true)
    (z_int : PySem.W.nsIn K mainGlobals "int" = some none)
    (z_len : PySem.W.nsIn K mainGlobals "len" = some none)
    (z_list : PySem.W.nsIn K mainGlobals "list" = some none)
    (z_range : PySem.W.nsIn K mainGlobals "range" = some none)
    (z_repr : PySem.W.nsIn K mainGlobals "repr" = some none)
    (z_sorted : PySem.W.nsIn K mainGlobals "sorted" = some none)
    (z_tuple : PySem.W.nsIn K mainGlobals "tuple" = some none)
    (y_IMPORT : PySem.W.nsIn K mainGlobals "IMPORT" = some (some (.str "import" t_IMPORT))) :
    ∃ fd : FuncData, (∀ (s : Shared) (v : Value), BindsTo s fd ⟨[v], []⟩ [("_law_script", v)]) ∧ ∀ base : Heap, K.In base → base.Ns mainGlobals mg → FnG l.prog w K mg base CX0 4 fa fd ["_law_script"] (sp_law K) := by
  have e := hfa.symm.trans (PySem.W.mg_of X G a10)
  cases e
  have T : Txt K mg := ⟨PySem.W.mg_none_of X G z_int, PySem.W.mg_none_of X G z_len, PySem.W.mg_none_of X G z_list, PySem.W.mg_none_of X G z_range, PySem.W.mg_none_of X G z_repr, PySem.W.mg_none_of X G z_sorted, PySem.W.mg_none_of X G z_tuple, ⟨t_IMPORT, PySem.W.mg_of X G y_IMPORT⟩, ⟨_, _, PySem.W.mg_of X G a0, fun_mk l0 c0 k0⟩, ⟨_, _, PySem.W.mg_of X G a1, fun_mk l1 c1 k1⟩, ⟨_, _, PySem.W.mg_of X G a2, fun_mk l2 c2 k2⟩, ⟨_, _, PySem.W.mg_of X G a3, fun_mk l3 c3 k3⟩, ⟨_, _, PySem.W.mg_of X G a4, fun_mk l4 c4 k4⟩, ⟨_, _, PySem.W.mg_of X G a5, fun_mk l5 c5 k5⟩, ⟨_, _, PySem.W.mg_of X G a6, fun_mk l6 c6 k6⟩, ⟨_, _, PySem.W.mg_of X G a7, fun_mk l7 c7 k7⟩, ⟨_, _, PySem.W.mg_of X G a8, fun_mk l8 c8 k8⟩, ⟨_, _, PySem.W.mg_of X G a9, fun_mk l9 c9 k9⟩, ⟨_, _, PySem.W.mg_of X G a10, fun_mk l10 c10 k10⟩⟩
  exact DefOk.end (PySem.W.mg_of X G a10) (fun_mk (st := s_law) l10 c10 k10) (fun s v => .of_eq rfl) fun base => ok_law T
end
end KW
open PySem PySem.W PyProof.Rows
set_option maxRecDepth 100000 in
set_option maxHeartbeats 0 in
theorem PySem.Challenge.cw_keptbywitness_k01_what_references_lead_t_holds : PySem.Challenge.rw_keptbywitness_k01_what_references_lead_t.Holds := by
  w_on; o_law; k_head; (case hw => w_witness2)
  k_fill
  refine KW.walkG (l := PySem.Challenge.rw_keptbywitness_k01_what_references_lead_t) (n := 63) (k := 4) (x := "_law_script") (CX := fun _ => L2.CX0) (sp := fun w => KW.sp_law _) rfl (by decide) rfl ⟨⟨rfl, by decide, by decide⟩, rfl⟩ (fun w h Y => PySem.W.kIn_of Y) ?F (fun _ _ a ns hl _ hS => ⟨(a, ns), rfl, hS, hl, fun _ => rfl⟩) (fun _ _ _ _ _ h => h)
  case F =>
    intro w mg fa h KX G hmg
    refine' KW.all_mk KX G hmg ?a0 ?l0 ?c0 ?k0 ?a1 ?l1 ?c1 ?k1 ?a2 ?l2 ?c2 ?k2 ?a3 ?l3 ?c3 ?k3 ?a4 ?l4 ?c4 ?k4 ?a5 ?l5 ?c5 ?k5 ?a6 ?l6 ?c6 ?k6 ?a7 ?l7 ?c7 ?k7 ?a8 ?l8 ?c8 ?k8 ?a9 ?l9 ?c9 ?k9 ?a10 ?l10 ?c10 ?k10 ?z_int ?z_len ?z_list ?z_range ?z_repr ?z_sorted ?z_tuple ?y_IMPORT
    (case a0 => k_is)
    (case l0 => k_is)
    (case c0 => k_is)
    (case k0 => k_is)
    (case a1 => k_is)
    (case l1 => k_is)
    (case c1 => k_is)
    (case k1 => k_is)
    (case a2 => k_is)
    (case l2 => k_is)
    (case c2 => k_is)
    (case k2 => k_is)
    (case a3 => k_is)
    (case l3 => k_is)
    (case c3 => k_is)
    (case k3 => k_is)
    (case a4 => k_is)
    (case l4 => k_is)
    (case c4 => k_is)
    (case k4 => k_is)
    (case a5 => k_is)
    (case l5 => k_is)
    (case c5 => k_is)
    (case k5 => k_is)
    (case a6 => k_is)
    (case l6 => k_is)
    (case c6 => k_is)
    (case k6 => k_is)
    (case a7 => k_is)
    (case l7 => k_is)
    (case c7 => k_is)
    (case k7 => k_is)
    (case a8 => k_is)
    (case l8 => k_is)
    (case c8 => k_is)
    (case k8 => k_is)
    (case a9 => k_is)
    (case l9 => k_is)
    (case c9 => k_is)
    (case k9 => k_is)
    (case a10 => k_is)
    (case l10 => k_is)
    (case c10 => k_is)
    (case k10 => k_is)
    (case z_int => k_is)
    (case z_len => k_is)
    (case z_list => k_is)
    (case z_range => k_is)
    (case z_repr => k_is)
    (case z_sorted => k_is)
    (case z_tuple => k_is)
    (case y_IMPORT => k_is)

