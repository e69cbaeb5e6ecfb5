import PyProof.Rows.All
import Wide.All
import OpenK.AllK
import Wide.FinOn
import HandS.ForMost
import HandS.IsInst
import HandS.Deep
import HandS.SortInts
import HandS.Walk
import HandS.NoneIn
import HandS.Codes
import HandS.TupAny
import HandS.Conv
import HandS.Sort
import HandS.SortOrd
import HandS.SortRule
import HandS.ListItems
import HandS.More
import KE.SortData
import HandS.DictComp
import PySem.Challenge.RW_keptbywitness_k02_shortest_paths
set_option Elab.async false
set_option linter.all false
set_option maxRecDepth 100000
set_option maxHeartbeats 4000000
namespace KW
local macro_rules | `(tactic| walk_at "e") => `(tactic| (repeat first | refine ⟨_, rfl, ?_⟩ | refine ⟨_, _, rfl, rfl, ?_⟩ | refine .inl ⟨_, rfl, ?_⟩ | refine ⟨_, _, rfl, rfl, .inl ⟨by decide, by decide⟩, ?_⟩ | refine ⟨_, _, rfl, rfl, .inr ⟨by decide, by decide⟩, ?_⟩ | refine ⟨_, _, rfl, rfl, ⟨by decide, by decide⟩, ?_⟩ | refine ⟨_, _, rfl, rfl, (by show (_ : Int) ≠ 0; first | decide | omega), ?_⟩))
open PySem PySem.Spec PyProof.Rows L2
/-! ### the same defs where no repr is under way (guards): what repr needs -/
structure RoomG (k : Nat) (A : Around) : Prop where
  room : Room k A
  gd : A.guards = some []
theorem RoomG.mono {j k : Nat} {A : Around} (r : RoomG k A) (h : j ≤ k) : RoomG j A := ⟨r.room.mono h, r.gd⟩
theorem RoomG.units {k : Nat} {A : Around} (r : RoomG k A) : A.units + 64 < cLine := r.room.units
theorem RoomG.un2 {k : Nat} {A : Around} (r : RoomG k A) : A.units + 65 < cLine := by have := r.room.un; omega
theorem RoomG.hu {k : Nat} {A : Around} (r : RoomG k A) : A.units + 1 < cLine := hu_of r.room
structure FnG (P : Program) (w : World) (K : PySem.W.Frag) (mg : Str → Option Value) (base : Heap) (CX : CXT) (k : Nat) (f : Addr) (fd : FuncData) (ps : List Str) (sp : Sp) : Prop where
  len : ∀ vs H Q E, sp vs H Q E → vs.length = ps.length
  run : ∀ (A : Around) (out : List Env) (s : Shared) (H : Hp) (args : Args) (us : List Value) (vs : List V) (Q : VK) (E : XK), RoomG k A → Env0 P w K mg base A out s H →
    BindsTo s fd args (ps.zip us) → Vals vs us → sp vs H Q E → codeAny (model P w) A (.call (.ref f) args) (CR CX out P w H s Q E) s
section
variable {P : Program} {w : World} {K : PySem.W.Frag} {mg : Str → Option Value} {base : Heap} {CX : CXT}
theorem FnG.of {k : Nat} {f : Addr} {fd : FuncData} {ps : List Str} {sp : Sp} (F : FnOk P w K mg base CX k f fd ps sp) : FnG P w K mg base CX k f fd ps sp :=
  ⟨F.len, fun A out s H args us vs Q E g => F.run A out s H args us vs Q E g.room⟩
theorem FnG.mono {j k : Nat} {f : Addr} {fd : FuncData} {ps : List Str} {sp : Sp} (F : FnG P w K mg base CX j f fd ps sp) (h : j ≤ k) : FnG P w K mg base CX k f fd ps sp :=
  ⟨F.len, fun A out s H args us vs Q E g => F.run A out s H args us vs Q E (g.mono h)⟩
/-- a def's body keeps its promise -/
theorem Fun.okG {x qual : Str} {st : Stmt} {f : Addr} {fd : FuncData} {N ps : List Str} {k : Nat} {sp : Sp} (F : Fun K x qual st f fd) (S : FnScope N ps (defScope st)) (len : ∀ vs H Q E, sp vs H Q E → vs.length = ps.length)
    (body : ∀ (cv : Value) (A : Around) (out : List Env) (s : Shared) (H : Hp) (vs : List V) (Q : VK) (E : XK), RoomG k (A.deeper (envOfC qual (defScope st) s.heap.objs.size f cv)) → sp vs H Q E →
      ∃ t, PSs (cxOf CX P w K mg base N qual (defScope st) f cv A out s H E) (defBody st) t ∧ t { nx := fun _ H' => Q .non H', rt := Q } (start N vs) H) : FnG P w K mg base CX (k + 1) f fd ps sp := by
  obtain ⟨oc, od, kV, doc, pm, an, cv, ct, osl, rfl, lk, hcd⟩ := F.ex
  constructor
  · exact len
  intro A out s H args us vs Q E g e0 bnd rel hsp
  have lenV := len _ _ _ _ hsp
  have old : ∀ b o, base.get? b = some o → s.heap.get? b = some o := fun b o e => (e0.bs b o e).1
  have inK : K.In s.heap := e0.mod.kin.keeps old
  have nolim : s.heap.NoLimit := e0.mod.nolimit.keeps old
  have kinds : ∀ y ∈ ps.zip us, (defScope st).names.lookup y.1 = some .local ∨ ((defScope st).names.lookup y.1 = some .cell ∧
      ((cellsFrom (s.heap.objs.size + 1) (defScope st).names []).lookup y.1).isSome = true) := by
    rintro ⟨n, v⟩ m
    have mp := (List.of_mem_zip m).1
    cases S.par n mp with
    | inl q => exact Or.inl q
    | inr q => exact Or.inr ⟨q, PySem.W.cellsFrom_some _ _ _ (Or.inl q)⟩
  refine codeAny_call_function g.room.depth (inK _ _ lk) rfl S.co S.gen rfl (PySem.W.codeRec_of inK hcd) (bnd _ _ _ _ ?_)
  refine wpAny_newFunctionEnv_cells S.kind kinds fun env ev s1 ic => ?_
  subst ev
  refine ⟨nolim.keeps ic.toInCall.keep, codeAny_func ?_⟩
  obtain ⟨t, pss, tq⟩ := body cv A out s H vs Q E ⟨g.room.deeper _, g.gd⟩ hsp
  have I0 : Inv (cxOf CX P w K mg base N qual (defScope st) f cv A out s H E) [] (start N vs) H s1 := inv_start S g.room.hd e0 lenV rel ic
  have done : ∀ {s' : Shared} {σ' : L2.St} {H' : Hp} {v : V} {u : Value}, Inv (cxOf CX P w K mg base N qual (defScope st) f cv A out s H E) [] σ' H' s' → RelV v u → Q v H' → CE out P w H s Q u s' :=
    fun {s' σ' H' v u} J rv q => ⟨v, H', J.os, J.bare, J.base, J.hok, rv, q⟩
  refine wpAny_mono (pss.run [] s1 (start N vs) H _ I0 tq) (fun fl s' e => ?_) fun _ _ e => e
  match fl, e with
  | .ret u, ⟨v, σ', H', J, rv, q⟩ => exact done J rv q
  | .next, ⟨σ', H', J, q⟩ => exact done (v := .non) (u := .none) J rfl q
  | .brk, ⟨_, _, _, q⟩ => exact q.elim
  | .cont, ⟨_, _, _, q⟩ => exact q.elim
end
section
variable {X : Cx} {CX : CXT} {k : Nat} {f C : Addr} {fd : FuncData} {ps : List Str} {sp : Sp} {E : XK}
theorem runG {pins : List (Addr × Obj)} {σ : L2.St} {H : Hp} {s : Shared} {Q : VK} {us : List Value} {vs : List V} (F : FnG X.prog X.w X.K X.mg X.base CX k f fd ps sp) (g : RoomG k X.A) (b : Binds X.K fd ps []) (px : Passes CX X E)
    (I : Inv X pins σ H s) (r : Vals vs us) (h : sp vs H Q E) : wpAny (model X.prog X.w) X.A (call (.ref f) us) (EP X pins σ Q) X.xe s := by
  have n1 : (us ++ []).length = ps.length := by rw [List.append_nil, ← r.length]; exact F.len _ _ _ _ h
  have bs := b s us I.kIn n1
  rw [List.append_nil] at bs
  refine wpAny_call (codeAny_mono (F.run X.A X.stack s H ⟨us, []⟩ us vs Q E g I.env0 bs r h) fun res s' hq => ?_)
  match res, hq with
  | .error e, hq => exact px pins σ H s e s' I hq
  | .ok (.ret u), hq => exact I.after hq
  | .ok .next, hq => exact hq.elim
  | .ok .brk, hq => exact hq.elim
  | .ok .cont, hq => exact hq.elim
/-- f(e, ..) -/
def tCallG (sp : Sp) (E : XK) (t : TA) : TE := fun σ H Q => t σ H fun vs H1 => sp vs H1 Q E
theorem pe_callG {x : Str} {e : Expr} {es : List Expr} {p pos : Pos} {t : TA} (F : FnG X.prog X.w X.K X.mg X.base CX k f fd ps sp) (g : RoomG k X.A) (hg : Gl X x) (hm : X.mg x = some (.ref f)) (hk : PySem.W.keepIn X.K (.ref f) = true) (b : Binds X.K fd ps [])
    (px : Passes CX X E) (ha : PA X (e :: es) t) (hdb : (x == ("__debug__" : Str)) = false := by decide) (he : starEach (e :: es) X.env = (false, eval e X.env) :: starEach es X.env := by rfl) (hpl : (backTo pos (starEach es X.env)).any (·.1) = false := by rfl) :
    PE X (.Call (.Name x p) (e :: es) [] pos) (tCallG sp E t) := by
  constructor
  intro pins s σ H Q I h
  refine wpAny_Call_Name_kw (ld_glob I hg hm ?_ hdb)
  exact PySem.W.callWith_K (h₀ := X.base) I.ok.mod.kin hk (thn (ha.run pos pins s σ H _ I h) fun us s1 ⟨vs, H1, I1, r, q⟩ => ⟨I1.kIn, runG F g b px I1 r q⟩) he hpl
theorem pe_callG0 {x : Str} {p pos : Pos} (F : FnG X.prog X.w X.K X.mg X.base CX k f fd ps sp) (g : RoomG k X.A) (hg : Gl X x) (hm : X.mg x = some (.ref f)) (hk : PySem.W.keepIn X.K (.ref f) = true) (b : Binds X.K fd ps [])
    (px : Passes CX X E) (hdb : (x == ("__debug__" : Str)) = false := by decide) : PE X (.Call (.Name x p) [] [] pos) (tCallG sp E tNil) := by
  constructor
  intro pins s σ H Q I h
  exact wpAny_Call_Name_kw (ld_glob I hg hm (PySem.W.callWith_K0 I.kIn hk (runG (us := []) F g b px I .nil h)) hdb)
end
/-- the law's own call, from a promise that wants no repr under way -/
theorem lawG {P : Program} {w : World} {K : PySem.W.Frag} {mg mb : Str → Option Value} {CX : CXT} {k : Nat} {fa a : Addr} {fd : FuncData} {x : Str} {sp : Sp} {s : Shared} {vs : List Value} {ns : List Int}
    (KX : K.In s.heap) (nsM : s.heap.Ns mainGlobals mg) (nsB : s.heap.Ns builtinsNs mb) (blt : ∀ x : Str, x ≠ "__name__" → mb x = bootBuiltins x) (lim : s.heap.NoLimit) (gens : s.gens = #[])
    (obj : s.heap.get? a = some { cls := .type "list", data := .seq vs.toArray }) (hints : IntsAre vs ns) (len : ns.length ≤ sizeLine) (g : RoomG k callerA)
    (F : ∀ base : Heap, K.In base → base.Ns mainGlobals mg → FnG P w K mg base CX k fa fd [x] sp) (bnd : ∀ (s : Shared) (u : Value), BindsTo s fd ⟨[u], []⟩ [(x, u)])
    (prom : ∀ H : Hp, Only H → SqL K H a (ns.map V.int) → sp [.ref a] H (fun v _ => v = .bl true) fun _ _ _ => False) (nox : ∀ H e s', CX [] H s (fun _ _ _ => False) e s' → False) :
    codeAny (model P w) callerA (.call (.ref fa) ⟨[.ref a], []⟩) (fun r s' => r = .ok (.ret (.bool true)) ∧ OldK s.heap s'.heap ∧ s'.os = s.os ∧ AllBare s'.gens) s := by
  have rel := vals_ints hints
  have vl := hints.length
  suffices main : ∀ H : Hp, Only H → SqL K H a (ns.map V.int) → HOk P w H s.heap → (∀ b, H b ≠ none → b = a) → (H a ≠ none → K.lookup a = none) →
      codeAny (model P w) callerA (.call (.ref fa) ⟨[.ref a], []⟩) (fun r s' => r = .ok (.ret (.bool true)) ∧ OldK s.heap s'.heap ∧ s'.os = s.os ∧ AllBare s'.gens) s by
    cases hk : K.lookup a with
    | some o =>
      have e := (KX a o hk).symm.trans obj
      cases e
      exact main (fun _ => none) (fun _ => Or.inl rfl) (Or.inr ⟨_, vs.toArray, _, hk, rfl, rfl, rfl, by rw [List.size_toArray, vl]; exact len, by simpa using rel⟩) (fun b u z => nomatch z) (fun b z => absurd rfl z) fun z => absurd rfl z
    | none =>
      let u : HO := .frz { cls := .type "list", data := .seq vs.toArray } (.lst (ns.map V.int))
      have yes : ∀ {b}, b = a → (fun b => if b = a then some u else none : Hp) b = some u := fun e => if_pos e
      have no : ∀ {b}, ¬ b = a → (fun b => if b = a then some u else none : Hp) b = none := fun e => if_neg e
      refine main (fun b => if b = a then some u else none) (fun b => ?_) (Or.inl (Or.inr ⟨_, yes rfl⟩)) (fun b o z => ?_) (fun b z => Decidable.byContradiction fun n => z (no n)) fun _ => hk
      · by_cases e : b = a
        · exact Or.inr ⟨_, _, yes e⟩
        · exact Or.inl (no e)
      · by_cases e : b = a
        · have z2 := (yes e).symm.trans z
          cases z2
          subst e
          exact ⟨obj, by rw [List.length_map]; exact len, vs, _, rel, obj⟩
        · exact nomatch (no e).symm.trans z
  intro H only seq hok onlyA notK
  have hid : ∀ {b : Addr} {o : Obj}, s.heap.get? b = some o → H b = none → (hidT s.heap H).get? b = some o := fun e n => hidT_get e n
  have offA : ∀ {b : Addr}, (b = a → False) → H b = none := fun {b} n => by
    cases q : H b with
    | none => rfl
    | some u => exact (n (onlyA b (by rw [q]; exact fun z => nomatch z))).elim
  have dictOff : ∀ {b : Addr} {o : Obj} {es : Array DictEntry} {ep : Nat}, s.heap.get? b = some o → o.data = .dict es ep → H b = none := fun {b o es ep} e d => offA fun z => by
    rw [z, obj] at e
    cases e
    exact nomatch d
  have nsH : ∀ {b : Addr} {m : Str → Option Value}, s.heap.Ns b m → (hidT s.heap H).Ns b m := fun {b m} ⟨o, es, ep, e, d, r⟩ => ⟨o, es, ep, hid e (dictOff e d), d, r⟩
  have inB : K.In (hidT s.heap H) := fun b o e => hid (KX b o e) (by
    cases q : H b with
    | none => rfl
    | some u =>
      have z : b = a := onlyA b (by rw [q]; exact fun z => nomatch z)
      have := notK (by rw [← z, q]; exact fun z => nomatch z)
      rw [z, this] at e
      cases e)
  have md : Mod K mg (hidT s.heap H) := ⟨inB, nsH nsM, ⟨mb, nsH nsB, blt⟩, let ⟨mc, q1, q2⟩ := lim; ⟨mc, nsH q1, q2⟩⟩
  have en : Env0 P w K mg (hidT s.heap H) callerA [] s H := ⟨rfl, md, fun b o e => of_hidT e, Nat.le_of_eq (hidT_size _ _), trivial, (fun b m => nomatch m), hok, .of_eq gens⟩
  refine codeAny_mono ((F _ inB (nsH nsM)).run callerA [] s H ⟨[.ref a], []⟩ [.ref a] [.ref a] _ _ g en (bnd s (.ref a)) (.cons rfl .nil) (prom H only seq)) fun res s' h => ?_
  match res, h with
  | .error e, h => exact (nox H e s' h).elim
  | .ok .next, h => exact h.elim
  | .ok .brk, h => exact h.elim
  | .ok .cont, h => exact h.elim
  | .ok (.ret u), h =>
    obtain ⟨v, H', os, bare, un, hok', rv, q⟩ := h
    have ev : v = .bl true := q
    subst ev
    obtain rfl : u = Value.bool true := rv
    refine ⟨rfl, OldK.of_keep fun b o e => ?_, os, bare⟩
    cases only b with
    | inl z => exact un.keep b o e z (fun m => nomatch m) (fun m => nomatch m)
    | inr z =>
      obtain ⟨ob, xs, z⟩ := z
      have z2 := un.frzs b ob _ z
      have e1 := (hok b _ z).1
      have e2 := (hok' b _ z2).1
      rw [e] at e1
      cases e1
      exact e2
theorem walkG {l : PySem.W.OpenLaw} {n k : Nat} {q : Program} {loose : List Str} {XP : (Str → Option Value) → Heap → Prop} {YP : World → Heap → Prop} {d : DefRec} {K : Params → PySem.W.Frag} {CX : World → CXT} {sp : World → Sp} {x : Str}
    (hn : l.most = some n) (hn2 : n ≤ sizeLine) (hdf : d.params.defaults = []) (g : RoomG k callerA) (hY : ∀ (w : World) (h : Heap), YP w h → (K w.params).In h)
    (F : ∀ (w : World) (mg : Str → Option Value) (fa : Addr) (h : Heap), (K w.params).In h → h.Ns mainGlobals mg → mg d.name = some (.ref fa) →
      ∃ fd : FuncData, (∀ (s : Shared) (u : Value), BindsTo s fd ⟨[u], []⟩ [(x, u)]) ∧ ∀ base : Heap, (K w.params).In base → base.Ns mainGlobals mg → FnG l.prog w (K w.params) mg base (CX w) k fa fd [x] (sp w))
    (prom : ∀ (w : World) (H : Hp) (a : Addr) (ns : List Int), ns.length ≤ n → Only H → SqL (K w.params) H a (ns.map V.int) → sp w [.ref a] H (fun v _ => v = .bl true) fun _ _ _ => False)
    (nox : ∀ (w : World) (H : Hp) (s : Shared) (e : Value) (s' : Shared), CX w [] H s (fun _ _ _ => False) e s' → False) : PySem.W.WalkO q loose XP YP l.row.toRowW d [] (fun f vs => PySem.call f vs) := by
  refine Att.attach_call hn hdf fun w s₀ s₁ mg mb fa o pm cd doc a vs ns G Y _ _ _ hmg obj hints len gens => ?_
  have inK := hY w _ Y
  obtain ⟨fd, bnd, FF⟩ := F w mg fa _ inK G.T.g hmg
  exact lawG inK G.T.g G.T.b G.T.builtins G.T.nolimit gens obj hints (Nat.le_trans len hn2) g FF bnd (fun H only sq => prom w H a ns len only sq) fun H e s' => nox w H s₁ e s'
/-! ### defs of the text by name, their promises, constants of the module -/
structure DefAt (K : PySem.W.Frag) (mg : Str → Option Value) (x : Str) (st : Stmt) : Prop where
  ex : ∃ (f : Addr) (fd : FuncData), mg x = some (.ref f) ∧ Fun K x x st f fd
structure DefOk (P : Program) (w : World) (K : PySem.W.Frag) (mg : Str → Option Value) (base : Heap) (x : Str) (k : Nat) (ps : List Str) (sp : Sp) : Prop where
  ex : ∃ (f : Addr) (fd : FuncData), mg x = some (.ref f) ∧ PySem.W.keepIn K (.ref f) = true ∧ Binds K fd ps [] ∧ FnG P w K mg base CX0 k f fd ps sp ∧ ∃ (oc : Value) (od : Option Addr) (osl : Array (Option Value)), K.lookup f = some ⟨oc, od, .func fd, osl⟩
/-- a promise: for arguments made of p, R p tells what is asked and given -/
def SpOf {α : Type} (args : α → List V) (R : α → Hp → VK → Prop) : Sp := fun vs H Q _ => ∃ p : α, vs = args p ∧ R p H Q
section
variable {P : Program} {w : World} {K : PySem.W.Frag} {mg : Str → Option Value} {base : Heap}
theorem DefOk.mk' {x : Str} {st : Stmt} {N ps : List Str} {k : Nat} {α : Type} {args : α → List V} {R : α → Hp → VK → Prop} (D : DefAt K mg x st) (S : FnScope N ps (defScope st))
    (hb : ∀ (kV doc pm : Value) (an : Option Addr) (cdv ct : Value) (us : List Value), us.length = ps.length → bindArgs (PySem.W.fnOf x x (defArgs st) (defBody st) (defScope st) .none kV doc pm an cdv ct) ⟨us, []⟩ = pure (ps.zip us))
    (hl : ∀ p : α, (args p).length = ps.length)
    (hbody : ∀ (cdv : Value) (f : Addr) (A : Around) (outer : List Env) (s : Shared) (H : Hp) (p : α) (Q : VK) (E : XK), RoomG k (A.deeper (envOfC x (defScope st) s.heap.objs.size f cdv)) → R p H Q →
      ∃ t, PSs (cxOf CX0 P w K mg base N x (defScope st) f cdv A outer s H E).nox (defBody st) t ∧ t { nx := fun _ H' => Q .non H', rt := Q } (start N (args p)) H) :
    DefOk P w K mg base x (k + 1) ps (SpOf args R) := by
  obtain ⟨f, fd, hm, F⟩ := D.ex
  refine ⟨f, fd, hm, F.kp, F.binds hb, Fun.okG F S (fun vs H Q E h => ?_) (fun cdv A outer s H vs Q E hr h => ?_), ?_⟩
  · obtain ⟨p, rfl, _⟩ := h
    exact hl p
  · obtain ⟨p, rfl, h⟩ := h
    obtain ⟨t, h1, h2⟩ := hbody cdv f A outer s H p Q E hr h
    exact ⟨t, h1.nox, h2⟩
  · obtain ⟨oc, od, kV, doc, pm, an, cdv, ct, osl, _, lk, _⟩ := F.ex
    exact ⟨oc, od, osl, lk⟩
/-- the law's own promise, over any base -/
theorem DefOk.end {l : PySem.W.OpenLaw} {x par : Str} {st : Stmt} {k : Nat} {sp : Sp} {f : Addr} {fd : FuncData} (hm : mg x = some (.ref f)) (F : Fun K x x st f fd) (hb : ∀ (s : Shared) (v : Value), BindsTo s fd ⟨[v], []⟩ [(par, v)])
    (ok : ∀ base : Heap, DefOk l.prog w K mg base x k [par] sp) : ∃ fd : FuncData, (∀ (s : Shared) (v : Value), BindsTo s fd ⟨[v], []⟩ [(par, v)]) ∧ ∀ base : Heap, K.In base → base.Ns mainGlobals mg → FnG l.prog w K mg base CX0 k f fd [par] sp := by
  refine ⟨fd, hb, fun base _ _ => ?_⟩
  obtain ⟨f', fd', hm', _, _, G, oc, od, osl, lk⟩ := (ok base).ex
  cases hm.symm.trans hm'
  obtain ⟨oc2, od2, kV, doc, pm, an, cdv, ct, osl2, _, lk2, _⟩ := F.ex
  cases lk.symm.trans lk2
  exact G
end
section
variable {X : Cx}
theorem pe_callD {x : Str} {e : Expr} {es : List Expr} {p pos : Pos} {ta : TA} {k : Nat} {ps : List Str} {sp : Sp} (D : DefOk X.prog X.w X.K X.mg X.base x k ps sp) (hr : RoomG k X.A) (hg : Gl X x) (ha : PA X (e :: es) ta)
    (hdb : (x == ("__debug__" : Str)) = false := by decide) (he : starEach (e :: es) X.env = (false, eval e X.env) :: starEach es X.env := by rfl) (hpl : (backTo pos (starEach es X.env)).any (·.1) = false := by rfl) :
    PE X (.Call (.Name x p) (e :: es) [] pos) (tCallG sp E0 ta) := by
  obtain ⟨f, fd, hm, hk, hb, F, _⟩ := D.ex
  exact pe_callG F hr hg hm hk hb pass0 ha hdb he hpl
/-- a written int, a written text of the module -/
def CoI (mg : Str → Option Value) (x : Str) (i : Int) : Prop := ∃ t, mg x = some (.int i t)
def CoS (mg : Str → Option Value) (x : Str) (z : Str) : Prop := ∃ t, mg x = some (.str z t)
theorem pe_coI {x : Str} {i : Int} {pos : Pos} (h : CoI X.mg x i) (hg : Gl X x) (hd : (x == ("__debug__" : Str)) = false := by decide) : PE X (.Name x pos) (tC (.int i)) := by
  obtain ⟨t, e⟩ := h
  exact pe_glob hg e ⟨t, rfl⟩ hd
theorem pe_coS {x : Str} {z : Str} {pos : Pos} (h : CoS X.mg x z) (hg : Gl X x) (hd : (x == ("__debug__" : Str)) = false := by decide) : PE X (.Name x pos) (tC (.str z)) := by
  obtain ⟨t, e⟩ := h
  exact pe_glob hg e ⟨t, rfl⟩ hd
/-- any(xs) of ints -/
theorem truth_ints {prog : Program} {w : World} {A : Around} {ns : List Int} {its : List Value} (r : Vals (ns.map V.int) its) :
    TruthOf prog w A (fun i v => its.toArray[i]? = some v) (fun i => ns.getD i 0 != 0) := fun i v s Q E hv hq => by
  have hv' : its[i]? = some v := by simpa using hv
  have hl := r.length
  have hi : i < ns.length := by
    have := (List.getElem?_eq_some_iff.mp hv').1
    rw [List.length_map] at hl
    omega
  obtain ⟨u, hu, ru⟩ := r.get (i := i) (x := V.int ns[i]) (by rw [List.getElem?_map, List.getElem?_eq_getElem hi]; rfl)
  obtain ⟨t, rfl⟩ := ru
  have e : v = .int ns[i] t := Option.some.inj (hv'.symm.trans hu)
  subst e
  have eg : ns.getD i 0 = ns[i] := by rw [List.getD_eq_getElem?_getD, List.getElem?_eq_getElem hi]; rfl
  have hq' : Q (ns.getD i 0 != 0) s := hq
  rw [eg] at hq'
  exact truthy_int hq'
theorem any_rangeI : ∀ ns : List Int, (List.range ns.length).any (fun i => ns.getD i 0 != 0) = ns.any (· != 0)
  | [] => rfl
  | b :: bs => by
    rw [List.length_cons, List.range_succ_eq_map, List.any_cons, List.any_map, List.any_cons, ← any_rangeI bs]
    all_goals rfl
def rAnyI (K : PySem.W.Frag) : List V → Hp → VK → Prop := fun vs H Q => ∃ (a : Addr) (ns : List Int), vs = [V.ref a] ∧ SqL K H a (ns.map V.int) ∧ Q (.bl (ns.any (· != 0))) H
theorem cr_anyI (hc : X.calm = true) : CallR X (.builtin "any") (rAnyI X.K) := by
  intro pins s σ H vs us Q I r h
  obtain ⟨a, ns, rfl, hs, q⟩ := h
  obtain ⟨its, rv, hl, _⟩ := I.list hs
  have hlen := rv.length
  rw [Vals.ref1 r]
  refine call_any_walk (iter_any hl.isList fun s₂ e2 st hne => ?_)
  subst e2
  refine ⟨_, _, _, _, _, _, _, rfl, Walks.list (A := X.A.in1) (I.ok.hd hc) _ a hne its.toArray, st, truth_ints rv, fun h' tk hk => ?_⟩
  refine ⟨.bl _, H, I.kept fun b o eo => hk b o (fun hmem => ?_) (Heap.get?_push_of_some _ eo), ?_, q⟩
  · rcases List.mem_cons.mp hmem with e1 | hmem
    · exact absurd (e1 ▸ Heap.lt_size eo) (Nat.lt_irrefl _)
    · cases hmem
  · show Value.bool _ = Value.bool _
    rw [← any_rangeI, List.size_toArray, ← hlen, List.length_map]
end
theorem nd_of {c : Prop} [Decidable c] (h : (!decide c) = true) : ¬ c := fun e => by rw [decide_eq_true e] at h; cases h
theorem d_of {c : Prop} [Decidable c] (h : ¬ (!decide c) = true) : c := Decidable.byContradiction fun e => h (by rw [decide_eq_false e]; rfl)
/-! ### frames: what was tracked outside W is as it was -/
def Fr (W : List Addr) (H H' : Hp) : Prop := ∀ a o, a ∉ W → H a = some o → H' a = some o
theorem Fr.refl (W : List Addr) (H : Hp) : Fr W H H := fun _ _ _ h => h
theorem Fr.trans {W : List Addr} {H H1 H2 : Hp} (a : Fr W H H1) (b : Fr W H1 H2) : Fr W H H2 := fun x o n h => b x o n (a x o n h)
theorem Fr.new {W : List Addr} {H : Hp} {p : Addr} {o : HO} (h : H p = none) : Fr W H (upd H p o) := fun a u _ e => by
  rw [upd_ne (ne_of_none e h)]
  exact e
theorem Fr.upd {W : List Addr} {H : Hp} {p : Addr} {o : HO} (h : p ∈ W) : Fr W H (upd H p o) := fun a u n e => by
  rw [upd_ne (fun z => n (by rw [z]; exact h))]
  exact e
theorem nw {H : Hp} {p a : Addr} {o u : HO} (hp : H p = none) (h : H a = some o) : upd H p u a = some o := by rw [upd_ne (ne_of_none h hp)]; exact h
theorem nwq {K : PySem.W.Frag} {H : Hp} {p a : Addr} {u : HO} {xs : List V} (hp : H p = none) (h : SqL K H a xs) : SqL K (upd H p u) a xs := Same.seq (H := H) (fun b o e => nw hp e) h
theorem nws {H H1 : Hp} {p : Addr} {u : HO} (hp : H1 p = none) (s : Same H H1) : Same H (upd H1 p u) := fun b o e => nw hp (s b o e)
theorem same_mut {H H' : Hp} {p : Addr} {o : HO} (s : Same H H') (h : H p = none) : Same H (upd H' p o) := fun b u e => by rw [upd_ne (ne_of_none e h)]; exact s b u e
theorem Fr.mono {W W' : List Addr} {H H' : Hp} (f : Fr W H H') (h : ∀ a, a ∈ W → a ∈ W') : Fr W' H H' := fun a o n e => f a o (fun z => n (h a z)) e
theorem Fr.of {W : List Addr} {H H' : Hp} (h : Same H H') : Fr W H H' := fun a o _ e => h a o e
theorem Fr.same {H H' : Hp} (f : Fr [] H H') : Same H H' := fun a o e => f a o (by simp) e
/-- what is new behind stays apart -/
theorem Fr.free {W : List Addr} {H H' : Hp} {p : Addr} (f : Fr W H H') (hw : p ∉ W) (h : H' p = none) : H p = none := by
  cases e : H p with
  | none => rfl
  | some o => rw [f p o hw e] at h; cases h
theorem rd_fr {W : List Addr} {H H' : Hp} {a : Addr} {u : HO} (f : Fr W H H') (hw : a ∉ W) (h : Rd H a u) : Rd H' a u := by
  rcases h with h | ⟨o, h⟩
  · exact .inl (f a _ hw h)
  · exact .inr ⟨o, f a _ hw h⟩
theorem seq_fr {K : PySem.W.Frag} {W : List Addr} {H H' : Hp} {a : Addr} {xs : List V} (f : Fr W H H') (hw : a ∉ W) (h : SqL K H a xs) : SqL K H' a xs := by
  rcases h with h | h
  · exact .inl (rd_fr f hw h)
  · exact .inr h
theorem sqT_fr {K : PySem.W.Frag} {W : List Addr} {H H' : Hp} {a : Addr} {xs : List V} (f : Fr W H H') (hw : a ∉ W) (h : SqT K H a xs) : SqT K H' a xs := by
  rcases h with h | h
  · exact .inl (rd_fr f hw h)
  · exact .inr h
theorem snocI {l : List Int} {x : Int} : l.map V.int ++ [V.int x] = (l ++ [x]).map V.int := by rw [List.map_append]; rfl
theorem upd_snocI {H : Hp} {o : Addr} {u : HO} {l : List Int} {x : Int} : upd (upd H o u) o (.lst (l.map V.int ++ [V.int x])) = upd H o (.lst ((l ++ [x]).map V.int)) := by rw [upd_upd, snocI]
theorem cutV_of {xs : List V} {lo hi : Int} {a b : Nat} (h1 : lo = (a : Int)) (h2 : hi = (b : Int)) (ha : a ≤ b) (hb : b ≤ xs.length) : cutV xs (some lo) (some hi) = (xs.drop a).take (b - a) := by
  subst h1 h2
  unfold cutV
  rw [show HT.sIx xs.length 0 (some (a : Int)) = min a xs.length from HT.sIx_nat _ _ _, show HT.sIx xs.length xs.length (some (b : Int)) = min b xs.length from HT.sIx_nat _ _ _, Nat.min_eq_left hb, Nat.min_eq_left (Nat.le_trans ha hb)]
theorem cutV_to {xs : List V} {hi : Int} {b : Nat} (h : hi = (b : Int)) : cutV xs none (some hi) = xs.take b := by
  subst h
  unfold cutV
  rw [show HT.sIx xs.length 0 none = 0 from HT.sIx_none _ _, show HT.sIx xs.length xs.length (some (b : Int)) = min b xs.length from HT.sIx_nat _ _ _]
  show (xs.drop 0).take (min b xs.length - 0) = _
  rw [List.drop_zero, Nat.sub_zero]
  by_cases h : b ≤ xs.length
  · rw [Nat.min_eq_left h]
  · rw [Nat.min_eq_right (by omega), List.take_of_length_le (Nat.le_refl _), List.take_of_length_le (by omega)]
theorem cutV_from {xs : List V} {lo : Int} {a : Nat} (h : lo = (a : Int)) : cutV xs (some lo) none = xs.drop a := by
  subst h
  unfold cutV
  rw [show HT.sIx xs.length xs.length none = xs.length from HT.sIx_none _ _, show HT.sIx xs.length 0 (some (a : Int)) = min a xs.length from HT.sIx_nat _ _ _]
  by_cases h : a ≤ xs.length
  · rw [Nat.min_eq_left h, List.take_of_length_le (by rw [List.length_drop]; omega)]
  · rw [Nat.min_eq_right (by omega), List.drop_eq_nil_of_le (Nat.le_refl _), List.drop_eq_nil_of_le (by omega), List.take_nil]
theorem atI_int {ns : List Int} {i : Int} {j : Nat} (e : i = (j : Int)) (h : j < ns.length) : atI (ns.map V.int) i = some (.int (ns.getD j 0)) := by
  subst e
  refine atI_nat ?_
  rw [List.getElem?_map, List.getElem?_eq_getElem h, List.getD_eq_getElem?_getD, List.getElem?_eq_getElem h]
  rfl
section
variable {X : Cx}
/-- a sign n times -/
theorem rep_fold (c : Nat) : ∀ (n : Nat) (acc : Array Nat), (List.replicate n #[c]).foldl (· ++ ·) acc = acc ++ (List.replicate n c).toArray
  | 0, acc => by simp
  | n + 1, acc => by
    rw [List.replicate_succ, List.foldl_cons, rep_fold c n, List.replicate_succ]
    apply Array.ext'
    simp
theorem op_mul_sign : OpR X (binaryOp .Mult) (fun x y H Q => ∃ (c : Nat) (n : Int), x = .str ⟨#[c]⟩ ∧ y = .int n ∧ 1 ≤ n ∧ n ≤ 1000 ∧ Q (.str ⟨(List.replicate n.toNat c).toArray⟩) H) := by
  intro pins s σ H x y v u Q I rx ry h
  obtain ⟨c, n, rfl, rfl, h1, h2, q⟩ := h
  obtain ⟨t, rfl⟩ := rx
  obtain ⟨t', rfl⟩ := ry
  have z : ∀ k : Nat, k ≤ 1000 → k ≤ sizeLine := fun k h => Nat.le_of_lt (small1000 h)
  refine P.mul_str ?_ (fun _ _ => ?_) (fun _ _ => ?_) ?_
  · have a1 : ¬ n < -(2 ^ 63 : Int) := by omega
    have a2 : ¬ n ≥ 2 ^ 63 := by omega
    rw [decide_eq_false a1, decide_eq_false a2]
    rfl
  · have e1 : ((Str.length ⟨#[c]⟩ : Nat) : Int) = 1 := rfl
    rw [e1]
    have : (1 : Int) ≤ (2 ^ 63 - 1) / n := by
      rw [Int.le_ediv_iff_mul_le (by omega)]
      omega
    omega
  · show decide ((Str.length ⟨#[c]⟩) * n.toNat > sizeLine) = false
    have := z n.toNat (by omega)
    have e1 : Str.length ⟨#[c]⟩ = 1 := rfl
    rw [e1]
    exact decide_eq_false (by omega)
  · rw [if_neg (by omega)]
    by_cases e : (n == 1 || Str.length ⟨#[c]⟩ == 0) = true
    · rw [if_pos e]
      have en : n = 1 := by
        simp at e
        rcases e with e | e
        · exact e
        · cases e
      subst en
      exact ⟨.str ⟨#[c]⟩, H, I, ⟨t, rfl⟩, q⟩
    · rw [if_neg e]
      have er : (List.replicate n.toNat (#[c] : Array Nat)).foldl (· ++ ·) #[] = (List.replicate n.toNat c).toArray := by
        rw [rep_fold]
        simp
      refine ⟨?_, ?_⟩
      · show Str.length ⟨(List.replicate n.toNat (#[c] : Array Nat)).foldl (· ++ ·) #[]⟩ ≤ sizeLine
        rw [er]
        show (List.replicate n.toNat c).toArray.size ≤ sizeLine
        rw [List.size_toArray, List.length_replicate]
        exact z _ (by omega)
      · show _
        rw [er]
        exact ⟨.str ⟨(List.replicate n.toNat c).toArray⟩, H, I.tok _, ⟨_, rfl⟩, q⟩
end

/-! ### the rules with the written part named -/
section
variable {X : Cx} {K : PySem.W.Frag}
theorem bmK {e : Expr} {T : String} {r : V → List V → Hp → VK → Prop} {to_ : TE} {t : TA} (h : PE X e (tBM X.K T r to_ t)) (hK : X.K = K := by rfl) : PE X e (tBM K T r to_ t) := by subst hK; exact h
theorem bm0K {e : Expr} {T : String} {r : V → List V → Hp → VK → Prop} {to_ : TE} (h : PE X e (tBM0 X.K T r to_)) (hK : X.K = K := by rfl) : PE X e (tBM0 K T r to_) := by subst hK; exact h
theorem fldK {e : Expr} {ta : TE} {f : Str} (h : PE X e (tFld X.K ta f)) (hK : X.K = K := by rfl) : PE X e (tFld K ta f) := by subst hK; exact h
theorem sfldK {e : Stmt} {ta tv : TE} {f : Str} (h : PS X e (sFld X.K ta tv f)) (hK : X.K = K := by rfl) : PS X e (sFld K ta tv f) := by subst hK; exact h
theorem gtupK {e : Expr} {n : Nat} {t : TGs} (h : PG X e (gTup X.K n t)) (hK : X.K = K := by rfl) : PG X e (gTup K n t) := by subst hK; exact h
theorem gunlK {e : Expr} {n : Nat} {t : TGs} (h : PG X e (gUnl X.K n t)) (hK : X.K = K := by rfl) : PG X e (gUnl K n t) := by subst hK; exact h
theorem ilistK {tg l : Expr} {tl : TE} (h : PI X tg l (iList X.K tl)) (hK : X.K = K := by rfl) : PI X tg l (iList K tl) := by subst hK; exact h
theorem itupK {tg l : Expr} {tl : TE} (h : PI X tg l (iTup X.K tl)) (hK : X.K = K := by rfl) : PI X tg l (iTup K tl) := by subst hK; exact h
theorem ienumK {tg l : Expr} {tl : TA} (h : PI X tg l (iEnum X.K tl)) (hK : X.K = K := by rfl) : PI X tg l (iEnum K tl) := by subst hK; exact h
theorem izipK {tg l : Expr} {tl : TA} (h : PI X tg l (iZip X.K tl)) (hK : X.K = K := by rfl) : PI X tg l (iZip K tl) := by subst hK; exact h
theorem ix_listK (hK : X.K = K := by rfl) : IxR X (rIxL K) := by subst hK; exact ix_list
theorem ix_tupK (hK : X.K = K := by rfl) : IxR X (rIxT K) := by subst hK; exact ix_tup
theorem sl_listK (hK : X.K = K := by rfl) : SlR X (rSlL K) := by subst hK; exact sl_list
theorem sl_tupK (hK : X.K = K := by rfl) : SlR X (rSlA K) := by subst hK; exact sl_tupA
theorem op_inK (hK : X.K = K := by rfl) : OpR X (compareOp .In) (rIn K false) := by subst hK; exact op_in_seq
theorem op_notInK (hK : X.K = K := by rfl) : OpR X (compareOp .NotIn) (rIn K true) := by subst hK; exact op_notIn_seq
theorem op_eqK (hu : X.A.units + 64 < cLine) (hK : X.K = K := by rfl) : OpR X (compareOp .Eq) (rEqD K) := by subst hK; exact op_eqD hu
theorem op_neK (hu : X.A.units + 64 < cLine) (hK : X.K = K := by rfl) : OpR X (compareOp .NotEq) (rNeD K) := by subst hK; exact op_neD hu
theorem op_catTK (hK : X.K = K := by rfl) : OpR X (binaryOp .Add) (rCatA K) := by subst hK; exact op_catA
/-- len of a list or a tuple -/
def rLenK (K : PySem.W.Frag) : List V → Hp → VK → Prop := fun xs H Q => ∃ p ys, xs = [.ref p] ∧ (SqL K H p ys ∨ SqT K H p ys) ∧ Q (.int ys.length) H
theorem call_lenK (hK : X.K = K := by rfl) : CallR X (.builtin "len") (rLenK K) := by subst hK; exact call_len_seq
theorem cr_anyIK (hc : X.calm = true) (hK : X.K = K := by rfl) : CallR X (.builtin "any") (rAnyI K) := by subst hK; exact cr_anyI hc
theorem cr_anyK (hc : X.calm = true) (hK : X.K = K := by rfl) : CallR X (.builtin "any") (rAny K) := by subst hK; exact cr_any hc
theorem cr_allK (hc : X.calm = true) (hK : X.K = K := by rfl) : CallR X (.builtin "all") (rAll K) := by subst hK; exact cr_all hc
theorem call_isiK (hK : X.K = K := by rfl) : CallR X (.builtin "isinstance") (rIsi K) := by subst hK; exact call_isi
/-- sep.join(xs) -/
def rJoinK (K : PySem.W.Frag) : V → List V → Hp → VK → Prop := fun x xs H Q => ∃ a p, ∃ ys : List Str, x = .str a ∧ xs = [.ref p] ∧ (SqL K H p (ys.map V.str) ∨ SqT K H p (ys.map V.str)) ∧ (ys.map (·.length)).sum + ys.length * a.length ≤ 16777216 ∧ Q (.str (Txt.join a ys)) H
theorem joinK {e : Expr} {to_ te : TE} (h : PE X e (tM1 (rJoinK X.K) to_ te)) (hK : X.K = K := by rfl) : PE X e (tM1 (rJoinK K) to_ te) := by subst hK; exact h
/-- truth of any value -/
def tTruK (K : PySem.W.Frag) (ta : TE) : TT := fun σ H Q => ta σ H fun x H' => ∃ k, TruV K x H' k ∧ Q k H'
theorem truK {e : Expr} {ta : TE} (h : PT X e (tTruK X.K ta)) (hK : X.K = K := by rfl) : PT X e (tTruK K ta) := by subst hK; exact h
/-- list(xs), tuple(xs) -/
def rListOfK (K : PySem.W.Frag) : List V → Hp → VK → Prop := fun xs H Q => ∃ p ys, xs = [.ref p] ∧ (SqL K H p ys ∨ SqT K H p ys) ∧ ∀ l, H l = none → Q (.ref l) (upd H l (.lst ys))
theorem call_listK (hK : X.K = K := by rfl) : CallR X (.type "list") (rListOfK K) := by subst hK; exact call_list_of
end
theorem small100k {n : Nat} (h : n ≤ 100000) : n < sizeLine := Nat.lt_of_le_of_lt h (by decide)
/-! ### data of any depth -/
def Sh (n : Nat) (d : PyData) : Prop := d.canLay0 = true ∧ d.depth ≤ n
theorem sh_int {n : Nat} (i : Int) : Sh n (.int i) := ⟨rfl, Nat.zero_le _⟩
theorem sh_non {n : Nat} : Sh n .none := ⟨rfl, Nat.zero_le _⟩
theorem sh_bool {n : Nat} (b : Bool) : Sh n (.bool b) := ⟨rfl, Nat.zero_le _⟩
theorem sh_str {n : Nat} {z : Str} (h : ∀ c ∈ z.cps.toList, c < 0x110000) : Sh n (.str z) := by
  refine ⟨?_, Nat.zero_le _⟩
  show z.cps.all (· < 0x110000) = true
  rw [← Array.all_toList, List.all_eq_true]
  intro c hc
  exact decide_eq_true (h c hc)
theorem sh_all {n : Nat} : ∀ {ds : List PyData}, (∀ d ∈ ds, Sh n d) → PyData.canLayAll0 ds = true ∧ PyData.depthAll ds ≤ n
  | [], _ => ⟨rfl, Nat.zero_le _⟩
  | d :: ds, h => by
    obtain ⟨a, b⟩ := h d List.mem_cons_self
    obtain ⟨c, e⟩ := sh_all (ds := ds) fun x hx => h x (List.mem_cons_of_mem _ hx)
    refine ⟨?_, ?_⟩
    · show (d.canLay0 && PyData.canLayAll0 ds) = true
      rw [a, c]
      rfl
    · show max d.depth (PyData.depthAll ds) ≤ n
      omega
theorem sh_list {n : Nat} {ds : List PyData} (h : ∀ d ∈ ds, Sh n d) : Sh (n + 1) (.list ds) := ⟨(sh_all h).1, by show PyData.depthAll ds + 1 ≤ n + 1; have := (sh_all h).2; omega⟩
theorem sh_tuple {n : Nat} {ds : List PyData} (h : ∀ d ∈ ds, Sh n d) : Sh (n + 1) (.tuple ds) := ⟨(sh_all h).1, by show PyData.depthAll ds + 1 ≤ n + 1; have := (sh_all h).2; omega⟩
theorem Sh.shaped {n : Nat} {d : PyData} (h : Sh n d) (hn : n ≤ 64) : SeqAt.shaped d = true := by
  unfold SeqAt.shaped
  rw [h.1, decide_eq_true (Nat.le_trans h.2 hn)]
  rfl
theorem Sh.eqv {n : Nat} {d : PyData} (h : Sh n d) : PyData.eqv d d = true := SeqAt.eqv_refl d h.1
theorem sh_ints {n : Nat} (ns : List Int) : Sh (n + 1) (.list (ns.map .int)) := sh_list fun d hd => by
  obtain ⟨i, _, rfl⟩ := List.mem_map.mp hd
  exact sh_int i
theorem dpAll_ints {K : PySem.W.Frag} {H : Hp} : ∀ ns : List Int, DpAll K H (ns.map V.int) (ns.map .int)
  | [] => .nil
  | n :: ns => .cons (.int n) (dpAll_ints ns)
theorem dp_ints {K : PySem.W.Frag} {H : Hp} {a : Addr} {ns : List Int} (h : SqL K H a (ns.map V.int)) : Dp K H (.ref a) (.list (ns.map .int)) := .lst h (dpAll_ints ns)
theorem dpAll_refs {K : PySem.W.Frag} {H : Hp} : ∀ {as : List Addr} {ds : List PyData}, as.length = ds.length → (∀ (i : Nat) a d, as[i]? = some a → ds[i]? = some d → Dp K H (.ref a) d) → DpAll K H (as.map V.ref) ds
  | [], [], _, _ => .nil
  | [], _ :: _, h, _ => by simp at h
  | _ :: _, [], h, _ => by simp at h
  | a :: as, d :: ds, h, f => .cons (f 0 a d rfl rfl) (dpAll_refs (by simpa using h) fun i x y hx hy => f (i + 1) x y (by simpa using hx) (by simpa using hy))
theorem ne_f {n : Nat} {d : PyData} (s : Sh n d) : V.bl (!PyData.eqv d d) = V.bl false := by rw [s.eqv]; rfl
theorem eq_t {n : Nat} {d : PyData} (s : Sh n d) : V.bl (PyData.eqv d d) = V.bl true := by rw [s.eqv]

/-! ### expressions that make a list, whatever stands -/
def MkL (te : TE) (σ : L2.St) (xs : List V) : Prop := ∀ (H : Hp) (Q : VK), (∀ (p : Addr) (H' : Hp), Same H H' → H p = none → H' p = some (.lst xs) → Q (.ref p) H') → te σ H Q
theorem mk_lst {ta : TA} {σ : L2.St} {vs : List V} (h : ∀ (H : Hp) (Q : List V → Hp → Prop), Q vs H → ta σ H Q) (hl : vs.length ≤ sizeLine) : MkL (tLst ta) σ vs := fun H Q q =>
  h H _ ⟨hl, fun p hp => q p _ (nws hp (Same.refl H)) hp upd_same⟩
theorem mk_rep {ta tb : TE} {σ : L2.St} {vs : List V} {k : Nat} (h : MkL ta σ vs) (hb : ∀ (H : Hp) (Q : VK), Q (.int k) H → tb σ H Q) (hl : vs.length * k ≤ sizeLine) (hk : k < 2 ^ 62) : MkL (tOp rRep ta tb) σ (List.replicate k vs).flatten := fun H Q q =>
  h H _ fun p H1 s n c => hb H1 _ ⟨p, k, vs, rfl, rfl, c, by omega, by omega, by rw [Int.toNat_natCast]; exact hl, fun p2 h2 => q p2 _ (nws h2 s) (s.free h2) (by rw [Int.toNat_natCast]; exact upd_same)⟩
theorem mk_cat {ta tb : TE} {σ : L2.St} {vs ws : List V} (ha : MkL ta σ vs) (hb : MkL tb σ ws) (hl : vs.length + ws.length ≤ sizeLine) : MkL (tOp rCat ta tb) σ (vs ++ ws) := fun H Q q =>
  ha H _ fun p H1 s n c => hb H1 _ fun p2 H2 s2 n2 c2 => ⟨p, p2, vs, ws, rfl, rfl, s2 _ _ c, c2, hl, fun p3 h3 => q p3 _ (nws h3 (s.trans s2)) ((s.trans s2).free h3) upd_same⟩
theorem bl_same {a b : Bool} (h : a = b) : V.bl (!decide (V.bl a = V.bl b)) = V.bl false := by
  subst h
  rw [decide_eq_true rfl]
  rfl

section
open PySem PySem.Spec PyProof.Rows L2
variable {P : Program} {w : World} {K : PySem.W.Frag} {mg : Str → Option Value} {base : Heap}
/-! ### repr of data -/
structure Sr (n m : Nat) (d : PyData) : Prop where
  sh : Sh n d
  wt : PyData.weight d ≤ m
  sm : PyData.intsShort 13 d = true
  sw : d.showable = true
  nd : d.hasDict = false
theorem Sr.mono {n m n' m' : Nat} {d : PyData} (h : Sr n m d) (h1 : n ≤ n') (h2 : m ≤ m') : Sr n' m' d := ⟨⟨h.sh.1, Nat.le_trans h.sh.2 h1⟩, Nat.le_trans h.wt h2, h.sm, h.sw, h.nd⟩
theorem log2_lt {n k : Nat} (h : n < 2 ^ k) (hk : 0 < k) : n.log2 < k := by
  by_cases e : n = 0
  · subst e
    exact hk
  · exact (Nat.log2_lt e).mpr h
theorem sr_int {n : Nat} {i : Int} (h : i.natAbs < 10 ^ 12) : Sr n 40 (.int i) := by
  have hl : i.natAbs.log2 < 40 := log2_lt (Nat.lt_of_lt_of_le h (by decide)) (by decide)
  refine ⟨sh_int i, ?_, ?_, ?_, rfl⟩
  · show (if i == 0 then 0 else i.natAbs.log2 + 1) ≤ 40
    split <;> omega
  · have := PyData.intsShortAll_ints [i] (fun x hx => by rw [List.mem_singleton.mp hx]; exact h)
    simpa [PyData.intsShortAll] using this
  · exact decide_eq_true (by omega)
theorem sr_non {n : Nat} : Sr n 0 .none := ⟨sh_non, Nat.le_refl _, rfl, rfl, rfl⟩
theorem sr_bool {n : Nat} (b : Bool) : Sr n 0 (.bool b) := ⟨sh_bool b, Nat.le_refl _, rfl, rfl, rfl⟩
theorem sr_str {n : Nat} {z : Str} (h : ∀ c ∈ z.cps.toList, c < 0x110000) : Sr n z.length (.str z) := ⟨sh_str h, Nat.le_refl _, rfl, rfl, rfl⟩
theorem sr_all {n m : Nat} : ∀ {ds : List PyData}, (∀ d ∈ ds, Sr n m d) → PyData.weightAll ds ≤ ds.length * (m + 1) ∧ PyData.intsShortAll 13 ds = true ∧ PyData.showableAll ds = true ∧ PyData.hasDictAll ds = false
  | [], _ => ⟨Nat.zero_le _, rfl, rfl, rfl⟩
  | d :: ds, h => by
    have h1 := h d List.mem_cons_self
    obtain ⟨a, b, c, e⟩ := sr_all (ds := ds) fun x hx => h x (List.mem_cons_of_mem _ hx)
    refine ⟨?_, ?_, ?_, ?_⟩
    · show d.weight + 1 + PyData.weightAll ds ≤ (ds.length + 1) * (m + 1)
      have := h1.wt
      rw [Nat.succ_mul]
      omega
    · show (PyData.intsShort 13 d && PyData.intsShortAll 13 ds) = true
      rw [h1.sm, b]
      rfl
    · show (d.showable && PyData.showableAll ds) = true
      rw [h1.sw, c]
      rfl
    · show (d.hasDict || PyData.hasDictAll ds) = false
      rw [h1.nd, e]
      rfl
theorem sr_list {n m L : Nat} {ds : List PyData} (h : ∀ d ∈ ds, Sr n m d) (hl : ds.length ≤ L) : Sr (n + 1) (L * (m + 1)) (.list ds) := by
  obtain ⟨a, b, c, e⟩ := sr_all h
  exact ⟨sh_list fun d hd => (h d hd).sh, Nat.le_trans a (Nat.mul_le_mul_right _ hl), b, c, e⟩
theorem sr_tuple {n m L : Nat} {ds : List PyData} (h : ∀ d ∈ ds, Sr n m d) (hl : ds.length ≤ L) : Sr (n + 1) (L * (m + 1)) (.tuple ds) := by
  obtain ⟨a, b, c, e⟩ := sr_all h
  exact ⟨sh_tuple fun d hd => (h d hd).sh, Nat.le_trans a (Nat.mul_le_mul_right _ hl), b, c, e⟩
theorem sr_ints {L : Nat} {ns : List Int} (h : ∀ i ∈ ns, i.natAbs < 10 ^ 12) (hl : ns.length ≤ L) : Sr 1 (L * 41) (.list (ns.map .int)) := sr_list (n := 0) (fun d hd => by
  obtain ⟨i, hi, rfl⟩ := List.mem_map.mp hd
  exact sr_int (h i hi)) (by rw [List.length_map]; exact hl)
theorem Sr.fits {n m : Nat} {d : PyData} (h : Sr n m d) (hn : n ≤ 60) (hm : m ≤ 2 ^ 20) : d.shown.length ≤ sizeLine := by
  refine PyData.shown_fits_of_layable0 (B := 13) (by decide) (by decide) ?_ h.sm
  show (d.canLay0 && decide (d.depth ≤ 64) && decide (d.weight ≤ 2 ^ 20)) = true
  rw [h.sh.1, decide_eq_true (Nat.le_trans h.sh.2 (by omega)), decide_eq_true (Nat.le_trans h.wt hm)]
  rfl
section
variable {X : Cx} {K : PySem.W.Frag}
def rReprD (K : PySem.W.Frag) : List V → Hp → VK → Prop := fun xs H Q => ∃ (x : V) (d : PyData) (n m : Nat), xs = [x] ∧ Dp K H x d ∧ Sr n m d ∧ n ≤ 60 ∧ m ≤ 2 ^ 20 ∧ Q (.str d.shown) H
theorem call_repr (hr : X.A.guards = some [] ∧ X.A.units + 64 < cLine) (hK : X.K = K := by rfl) : CallR X (.builtin "repr") (rReprD K) := by
  subst hK
  intro pins s σ H xs us Q I r h
  obtain ⟨x, d, n, m, rfl, dp, sr, hn, hm, q⟩ := h
  obtain ⟨u, rfl, ru⟩ := vals1 r
  have hz := sr.fits hn hm
  have hd := sr.sh.2
  obtain ⟨as, rd⟩ := Dp.reads I d x u dp ru
  have done : ∀ a, u = .ref a → wpAny (model X.prog X.w) X.A (call (.builtin "repr") [u]) (EP X pins σ Q) X.xe s := fun a e => by
    subst e
    refine repr_of_reads' rd sr.sw (PyData.noDict_hsm sr.nd) hr.1 (by have := hr.2; omega) (fun b o e => e) (fun h' u tk hk => ?_) hz
    exact ⟨.str d.shown, H, I.kept (t' := tk) hk, ⟨u, rfl⟩, q⟩
  cases dp with
  | non =>
    cases (show u = Value.none from ru)
    exact PySem.P.repr_of_none ⟨.str _, H, I.tok _, ⟨_, rfl⟩, q⟩
  | bl b =>
    cases (show u = Value.bool b from ru)
    exact PySem.P.repr_of_bool ⟨.str _, H, I.tok _, ⟨_, rfl⟩, q⟩
  | int i =>
    obtain ⟨t, e⟩ := (show ∃ t, u = Value.int i t from ru)
    cases e
    exact PySem.P.repr_of_int (of_decide_eq_true sr.sw) ⟨.str _, H, I.tok _, ⟨_, rfl⟩, q⟩
  | str z =>
    obtain ⟨t, e⟩ := (show ∃ t, u = Value.str z t from ru)
    cases e
    exact PySem.P.repr_of_str ⟨.str _, H, I.tok _, ⟨_, rfl⟩, q⟩ hz
  | lst _ _ => exact done _ ru
  | tup _ _ => exact done _ ru
end

end
section
open PySem PySem.Spec PyProof.Rows L2
variable {P : Program} {w : World} {K : PySem.W.Frag} {mg : Str → Option Value} {base : Heap}
/-! ### list.extend of a tuple -/
set_option maxRecDepth 8000 in
theorem meets_extT (l : Addr) (xs : Array Value) (n : Nat) (b : Addr) (ys : Array Value) (m : Nat) (dd : Option Addr) (sl : Array (Option Value)) (h0 : ¬(!xs.isEmpty && Builtin.List.listTooLong (xs.size + ys.size)) = true) (h1 : xs.size ≤ sizeLine)
    (h2 : xs.size + ys.size ≤ sizeLine + 1) : Meets (Builtin.«list.extend» ⟨[.ref l, .ref b], []⟩) (fun _ R s => s.heap.get? l = some { cls := .type "list", dict := none, data := .seq xs n, slots := #[] } ∧
      s.heap.get? b = some { cls := .type "tuple", dict := dd, data := .seq ys m, slots := sl } ∧ R (.ok (.ret Value.none)) { s with heap := s.heap.update l (Obj.mapSeq fun x => x ++ ys), toks := s.toks }) := by
  refine .of_wp fun prog w A R s h => ?_
  obtain ⟨hp, gs, dr, tk, os⟩ := s
  obtain ⟨hl, hb, q⟩ := h
  have g1 := AutoSeq1.idx_int
  have g2 := AutoSeq1.sub_tuple_tuple
  have g3 := AutoSeq1.sub_list_list
  have g4 := AutoSeq1.sub_tuple_list
  have g5 := AutoSeq1.sub_list_tuple
  have hz : (xs ++ ys).size ≤ sizeLine + 1 := by rw [Array.size_append]; exact h2
  wp_walk using (wpAny_updateSeq hl rfl (hz := h1) (_hz' := hz)), AutoSeq1.wpAny_loadPart' hl, AutoSeq1.wpAny_loadPart' hb
  exact ⟨_, rfl, q⟩
section
variable {X : Cx} {K : PySem.W.Frag}
def rExtT (K : PySem.W.Frag) : V → List V → Hp → VK → Prop := fun x vs H Q => ∃ l b xs zs, x = .ref l ∧ vs = [.ref b] ∧ H l = some (.lst xs) ∧ SqT K H b zs ∧ xs.length + zs.length ≤ sizeLine ∧ Q .non (upd H l (.lst (xs ++ zs)))
theorem mt_extT (hK : X.K = K := by rfl) : MtM X "list.extend" (rExtT K) := by
  subst hK
  intro pins s σ H x vs v us Q I rx rv h
  obtain ⟨l, b, xs, zs, rfl, rfl, hH, hB, hz, q⟩ := h
  cases rx
  obtain ⟨u, rfl, ru⟩ := rv.one
  cases ru
  obtain ⟨_, its, n, r, hl, e⟩ := I.lstM hH
  obtain ⟨ys, r2, ⟨o, e2, hc, m, hd⟩, _⟩ := I.tuple hB
  have hl2 := r2.length
  obtain ⟨cls, dd, data, sl⟩ := o
  obtain rfl : cls = .type "tuple" := hc
  obtain rfl : data = .seq ys.toArray m := hd
  have hsz : its.toArray.size + ys.toArray.size ≤ sizeLine := by rw [List.size_toArray, List.size_toArray]; omega
  have ok : ¬ (!its.toArray.isEmpty && Builtin.List.listTooLong (its.toArray.size + ys.toArray.size)) = true := by
    rw [notLongL hsz, Bool.and_false]
    exact Bool.false_ne_true
  refine call_meets F.slot_list_extend ⟨_, e, rfl⟩ F.entry_list_extend (F.args_list_extend_2 _ _) (meets_extT l its.toArray n b ys.toArray m dd sl ok (by rw [List.size_toArray]; omega) (by omega)) ⟨e, e2, ?_⟩
  exact ⟨.non, _, I.lset (its' := its ++ ys) hH e (by simp) (r.append r2) (by rw [List.length_append]; omega), rfl, q⟩
end
/-! ### sorted of a dict whose keys are pairs of ints -/
section
variable {X : Cx}
theorem pairedGet {α β : Type} {F : α → β → Prop} : ∀ {l : List α} {m : List β} {j : Nat} {x : α}, Paired F l m → l[j]? = some x → ∃ y, m[j]? = some y ∧ F x y
  | _, _, _, _, .nil, h => by simp at h
  | _, _, 0, _, .cons r _, h => ⟨_, rfl, by cases Option.some.inj h; exact r⟩
  | _, _, j + 1, x, .cons _ t, h => pairedGet (j := j) (x := x) t (by simpa using h)
def keyP (k : List L2.Key) : Int × Int := match k with
  | [.inl a, .inl b] => (a, b)
  | _ => (0, 0)
/-- the keys are pairs of ints; the new list: their tuples, rising -/
def rSortDT : List V → Hp → VK → Prop := fun vs H Q => ∃ (d : Addr) (kvs : List (List L2.Key × V)), vs = [V.ref d] ∧ Rd H d (.dT kvs) ∧ (∀ kv ∈ kvs, ∃ a b : Int, kv.1 = [.inl a, .inl b]) ∧
  ∀ (bs : List (Addr × (Int × Int))) (p : Addr), (bs.map (·.2)).Perm (kvs.map fun kv => keyP kv.1) → bs.Pairwise (fun x y => SrtO.lexB y.2 x.2 = false) → (∀ x ∈ bs, H x.1 = some (.tup [.int x.2.1, .int x.2.2])) → H p = none → Q (.ref p) (upd H p (.lst (bs.map fun x => V.ref x.1)))
theorem cr_sortDT (hc : X.calm = true) : CallR X (.builtin "sorted") rSortDT := by
  intro pins s σ H xs us Q I r h
  obtain ⟨d, kvs, rfl, hd, hk, q⟩ := h
  obtain ⟨u, rfl, rx⟩ := vals1 r
  cases rx
  obtain ⟨z, hs, ks, pr, o, es, ep, ho, hx, hdt, he, hn⟩ := (show ObjOk X.prog X.w H s.heap d (.dT kvs) from hd.ok I.hok)
  have l1 : es.size = ks.length := by
    have := congrArg List.length he
    rw [Array.length_toList, List.length_map] at this
    exact this
  have l2 : kvs.length = ks.length := Paired.length pr
  have get : ∀ (j : Nat) (q : List L2.Key × Addr × Value), ks[j]? = some q → ∃ v, kvs[j]? = some (q.1, v) ∧ H q.2.1 = some (.tup (q.1.map kV)) := by
    intro j x hj
    have hjl : j < kvs.length := by have := (List.getElem?_eq_some_iff.mp hj).1; omega
    obtain ⟨y, hy, e1, e2, _⟩ := pairedGet pr (List.getElem?_eq_getElem hjl)
    cases hj.symm.trans hy
    exact ⟨kvs[j].2, by rw [List.getElem?_eq_getElem hjl, ← e1], by rw [← e1]; exact e2⟩
  let kf : Value → Int × Int := fun v => match v with
    | .ref a => (match H a with | some (.tup [.int x, .int y]) => (x, y) | _ => (0, 0))
    | _ => (0, 0)
  refine Calls.call_function_entry PyProof.Rows.kind_sorted PyProof.Rows.plain_sorted PyProof.Rows.entry_sorted (PyProof.Rows.args_sorted1 _) ?_
  unfold Builtin.«sorted»
  refine wpAny_bind (m := checkCount "sorted" 1 1 _) (wpAny_pure ?_)
  refine wpAny_bind (PySem.W.kdu_collect (A := X.A.in1) (kdl_raw hs hx hdt) (I.ok.hd hc) ho (by omega) fun h' tk acc kp it => ?_)
  have ea : acc.toList = ks.map fun x => Value.ref x.2.1 := by
    have hl : acc.toList.length = ks.length := by rw [Array.length_toList, it.1]; exact l1
    apply List.ext_getElem?
    intro j
    rw [List.getElem?_map]
    cases hj : acc.toList[j]? with
    | none => rw [List.getElem?_eq_none (by rw [← hl]; exact List.getElem?_eq_none_iff.mp hj)]; rfl
    | some v =>
      obtain ⟨en, hen, hv⟩ := it.2 j v (by rw [← Array.getElem?_toList]; exact hj)
      have qe : es.toList[j]? = some en := by rw [Array.getElem?_toList]; exact hen
      rw [he, List.getElem?_map] at qe
      cases hb : ks[j]? with
      | none => rw [hb] at qe; cases qe
      | some b =>
        rw [hb] at qe
        have e2 := Option.some.inj qe
        rw [hv, ← e2]
        rfl
  have I1 : Inv X pins σ H { s with heap := h', toks := tk } := I.kept kp
  have hal : acc.toList.length = ks.length := by rw [ea, List.length_map]
  have hzs : acc.toList.length ≤ sizeLine := by rw [hal, ← l2]; exact z
  -- each collected key: its tuple of two ints
  have keyAt : ∀ v ∈ acc.toList, ∃ (a : Addr) (x y : Int), v = .ref a ∧ H a = some (.tup [.int x, .int y]) := fun v hv => by
    rw [ea] at hv
    obtain ⟨b, hb, rfl⟩ := List.mem_map.mp hv
    obtain ⟨j, hj⟩ := List.getElem?_of_mem hb
    obtain ⟨w', hw, hH⟩ := get j b hj
    obtain ⟨x, y, e⟩ := hk _ (List.mem_of_getElem? hw)
    have e : b.1 = [.inl x, .inl y] := e
    rw [e] at hH
    exact ⟨b.2.1, x, y, rfl, hH⟩
  have kfAt : ∀ {a : Addr} {x y : Int}, H a = some (.tup [.int x, .int y]) → kf (.ref a) = (x, y) := fun {a x y} e => by
    show (match H a with | some (.tup [.int x, .int y]) => (x, y) | _ => (0, 0)) = _
    rw [e]
  refine wpAny_bind (wpAny_newList ?_ hzs)
  have hoL : (h'.push (seqObj "list" acc.toList.toArray 0)).get? h'.objs.size = some (seqObj "list" acc.toList.toArray 0) := Heap.get?_push_size _ rfl
  show wpAny _ _ _ _ _ { s with heap := h'.push (seqObj "list" acc.toList.toArray 0), toks := tk }
  have pairs : ∀ v ∈ acc.toList, Srt.IsPair (h'.push (seqObj "list" acc.toList.toArray 0)) v (kf v).1 (kf v).2 := fun v hv => by
    obtain ⟨a, x, y, rfl, hH⟩ := keyAt v hv
    rw [kfAt hH]
    obtain ⟨_, its, r2, o2, ho2, hc2, n2, hd2⟩ := I1.hok _ _ hH
    obtain ⟨u1, u2, rfl, ri, rj⟩ := vals2 r2
    obtain ⟨t1, rfl⟩ := ri
    obtain ⟨t2, rfl⟩ := rj
    exact ⟨a, o2, t1, t2, n2, rfl, Heap.get?_push_of_some _ ho2, hc2, hd2⟩
  refine wpAny_bind (wpAny_holding (wpAny_call_entry PyProof.Rows.slot_list_sort ⟨_, hoL, rfl⟩ PyProof.Rows.entry_list_sort (SrtO.list_sort_ord (SrtO.swo_lex kf) hoL hzs
    (fun h2 => SrtO.pairs_sortableO (by omega) pairs fun o e => ?_) fun out hs1 hb1 => ⟨_, rfl, ?_⟩) (PyProof.Rows.args_list_sort _)))
  · have e' : some o = some (seqObj "list" acc.toList.toArray 0) := e.symm.trans hoL
    cases e'
    intro c
    exact absurd (Value.type.inj c) (by decide)
  · have mem : ∀ v ∈ out, v ∈ acc.toList := fun v hv => hb1.perm.mem_iff.mp hv
    obtain ⟨e', he'⟩ := PyProof.Rows.sortedHeap_at (vs := acc.toList) (out := out.toArray) hoL
    let adr : Value → Addr := fun v => match v with | .ref a => a | _ => 0
    have back : out.map (fun v => Value.ref (adr v)) = out := by
      conv => rhs; rw [← List.map_id out]
      refine List.map_congr_left fun v hv => ?_
      obtain ⟨a, x, y, rfl, _⟩ := keyAt v (mem v hv)
      rfl
    have rv : Vals ((out.map fun v => (adr v, kf v)).map fun x => V.ref x.1) out := by
      rw [List.map_map]
      have : ∀ l : List Value, (∀ v ∈ l, ∃ a, v = Value.ref a) → Vals (l.map ((fun x : Addr × (Int × Int) => V.ref x.1) ∘ fun v => (adr v, kf v))) l := fun l => by
        induction l with
        | nil => exact fun _ => .nil
        | cons v l ih =>
          intro hl
          obtain ⟨a, rfl⟩ := hl v List.mem_cons_self
          exact .cons rfl (ih fun x hx => hl x (List.mem_cons_of_mem _ hx))
      exact this out fun v hv => by
        obtain ⟨a, _, _, e, _⟩ := keyAt v (mem v hv)
        exact ⟨a, e⟩
    have hlen : ((out.map fun v => (adr v, kf v)).map fun x => V.ref x.1).length ≤ sizeLine := by
      rw [List.length_map, List.length_map, hb1.perm.length_eq]
      exact hzs
    refine wpAny_pure ⟨_, rfl, .ref h'.objs.size, upd H h'.objs.size (.lst ((out.map fun v => (adr v, kf v)).map fun x => V.ref x.1)), I1.laid (t' := tk) (fun b u e => ?_) (Nat.le_refl _)
      (show ObjOk X.prog X.w _ _ _ (.lst _) from ⟨hlen, out, e', rv, he'⟩), rfl, q _ _ ?_ ?_ ?_ (I1.hok.fresh (Nat.le_refl _))⟩
    · have hb : b < h'.objs.size := Heap.lt_size e
      rw [PyProof.Rows.sortedHeap_old (Nat.ne_of_lt hb) (by rw [size_push']; exact Nat.lt_succ_of_lt hb)]
      exact Heap.get?_push_of_some _ e
    · rw [List.map_map]
      refine (hb1.perm.map kf).trans ?_
      have : acc.toList.map kf = kvs.map fun kv => keyP kv.1 := by
        rw [ea, List.map_map]
        apply List.ext_getElem?
        intro j
        rw [List.getElem?_map, List.getElem?_map]
        cases hj : ks[j]? with
        | none => rw [List.getElem?_eq_none (by rw [l2]; exact List.getElem?_eq_none_iff.mp hj)]; rfl
        | some b =>
          obtain ⟨w', hw, hH⟩ := get j b hj
          rw [hw]
          obtain ⟨x, y, e⟩ := hk _ (List.mem_of_getElem? hw)
          have e : b.1 = [.inl x, .inl y] := e
          rw [e] at hH
          show some (kf (.ref b.2.1)) = some (keyP b.1)
          rw [kfAt hH, e]
          rfl
      rw [this]
    · rw [List.pairwise_map]
      exact hs1
    · intro x hx
      obtain ⟨v, hv, rfl⟩ := List.mem_map.mp hx
      obtain ⟨a, y1, y2, rfl, hH⟩ := keyAt v (mem v hv)
      show H a = some (.tup [.int (kf (.ref a)).1, .int (kf (.ref a)).2])
      rw [kfAt hH]
      exact hH
end
/-! ### sorted of a dict whose keys are ints, any number of them -/
section
variable {X : Cx}
def rSortDI : List V → Hp → VK → Prop := fun vs H Q => ∃ (d : Addr) (kvs : List (Key × V)) (ks : List Int), vs = [V.ref d] ∧ Rd H d (.dK kvs) ∧ (kvs.map fun kv => kv.1) = ks.map Sum.inl ∧
  ∀ (ys : List Int) (p : Addr), ys.Perm ks → ys.Pairwise (fun x y => x ≤ y) → H p = none → Q (.ref p) (upd H p (.lst (ys.map V.int)))
theorem cr_sortDI (hc : X.calm = true) : CallR X (.builtin "sorted") rSortDI := by
  intro pins s σ H xs us Q I r h
  obtain ⟨d, kvs, ks, rfl, hd, hks, q⟩ := h
  obtain ⟨u, rfl, rx⟩ := vals1 r
  cases rx
  obtain ⟨hz, hlo, ws, rel, dd⟩ := dk_rd I.hok hd
  obtain ⟨ep, hat⟩ := dd.dictAt
  have hkeys : (ws.map fun kv => kv.1) = ks.map Sum.inl := rel.keys.symm.trans hks
  have hln : ws.length = ks.length := by
    have e := congrArg List.length hkeys
    simpa using e
  have hzw : ws.length ≤ sizeLine := by rw [← rel.length]; exact hz
  refine Calls.call_function_entry PyProof.Rows.kind_sorted PyProof.Rows.plain_sorted PyProof.Rows.entry_sorted (PyProof.Rows.args_sorted1 _) ?_
  unfold Builtin.«sorted»
  refine wpAny_bind (m := checkCount "sorted" 1 1 _) (wpAny_pure ?_)
  refine wpAny_bind (PySem.W.kdu_collect (A := X.A.in1) (PySem.W.kdl_dict (knd := mixKind X.prog X.w) (kvs := ws) (ep := ep) hlo) (I.ok.hd hc) hat hzw fun h1 tk1 acc kp it => ?_)
  have al : acc.toList.length = ks.length := by rw [Array.length_toList, it.1, hln]
  have its : IntsAre acc.toList ks := ints_each al fun j v ev => by
    obtain ⟨key, x, h1, h2⟩ := it.2 j v (by rw [← Array.getElem?_toList]; exact ev)
    have h3 : (ws.map fun kv => kv.1)[j]? = some key := by rw [List.getElem?_map, h1]; rfl
    rw [hkeys, List.getElem?_map] at h3
    cases h4 : ks[j]? with
    | none => rw [h4] at h3; cases h3
    | some y =>
      rw [h4] at h3
      have h5 : Sum.inl y = key := Option.some.inj h3
      subst h5
      rcases keyIs_shape (show keyIs (Sum.inl y) v = true from h2) with ⟨i, t, ek, ew⟩ | ⟨z, t, ek, ew⟩
      · cases ek
        exact ⟨y, t, rfl, ew⟩
      · cases ek
  have I1 : Inv X pins σ H { s with heap := h1, toks := tk1 } := I.kept kp
  have accz : acc.toList.length ≤ sizeLine := by rw [al, ← hln]; exact hzw
  refine wpAny_bind (wpAny_newList ?_ accz)
  have hoL : (h1.push (seqObj "list" acc.toList.toArray 0)).get? h1.objs.size = some (seqObj "list" acc.toList.toArray 0) := Heap.get?_push_size _ rfl
  show wpAny _ _ _ _ _ { s with heap := h1.push (seqObj "list" acc.toList.toArray 0), toks := tk1 }
  refine wpAny_bind (wpAny_holding (wpAny_call_entry PyProof.Rows.slot_list_sort ⟨_, hoL, rfl⟩ PyProof.Rows.entry_list_sort (SrtO.list_sort_ord SrtO.swo_int hoL accz
    (fun h2 => SrtO.ints_sortable its h2) fun out hs1 hb1 => ⟨_, rfl, ?_⟩) (PyProof.Rows.args_list_sort _)))
  obtain ⟨k1, k2, k3⟩ := SrtO.ints_out its hs1 hb1
  obtain ⟨e1, he1⟩ := PyProof.Rows.sortedHeap_at (vs := acc.toList) (out := out.toArray) hoL
  have hlen : ((out.map SrtO.iv).map V.int).length ≤ sizeLine := by
    rw [List.length_map, k2.length_eq, ← al]
    exact accz
  refine wpAny_pure ⟨_, rfl, .ref h1.objs.size, upd H h1.objs.size (.lst ((out.map SrtO.iv).map V.int)), I1.laid (t' := tk1) (fun b u e => ?_) (Nat.le_refl _)
    (show ObjOk X.prog X.w _ _ _ (.lst _) from ⟨hlen, out, e1, vals_of_ints k1, he1⟩), rfl, q _ _ k2 k3 (I1.hok.fresh (Nat.le_refl _))⟩
  have hb : b < h1.objs.size := Heap.lt_size e
  rw [PyProof.Rows.sortedHeap_old (Nat.ne_of_lt hb) (by rw [size_push']; exact Nat.lt_succ_of_lt hb)]
  exact Heap.get?_push_of_some _ e
end

/-! ### sorted of a list of any data -/
def rSortD (K : PySem.W.Frag) : List V → Hp → VK → Prop := fun vs H Q => ∃ (a : Addr) (bs : List (V × PyData)), vs = [V.ref a] ∧ SqL K H a (bs.map fun b => b.1) ∧ (∀ b ∈ bs, Dp K H b.1 b.2 ∧ b.2.depth ≤ 60) ∧ PySem.W.AllAlike (bs.map fun b => b.2) ∧ PySem.W.Sortable (bs.map fun b => b.2) ∧
  ∀ p, H p = none → Q (.ref p) (upd H p (.lst ((bs.mergeSort (PySem.W.dataLe false fun b => b.2)).map fun b => b.1)))
section
variable {X : Cx} {K : PySem.W.Frag}
theorem each_vals : ∀ {bs : List (V × PyData)} {us : List Value}, Vals (bs.map fun b => b.1) us → PySem.W.EachIs (fun v (b : V × PyData) => RelV b.1 v) us bs
  | [], us, r => by
    cases r
    exact .nil
  | b :: bs, us, r => by
    cases r with
    | cons h t => exact .cons h (each_vals t)
theorem vals_each : ∀ {bs : List (V × PyData)} {us : List Value}, PySem.W.EachIs (fun v (b : V × PyData) => RelV b.1 v) us bs → Vals (bs.map fun b => b.1) us
  | _, _, .nil => .nil
  | _, _, .cons h t => .cons h (vals_each t)
theorem call_sortD (hu : X.A.units + 64 < cLine) (hK : X.K = K := by rfl) : CallR X (.builtin "sorted") (rSortD K) := by
  subst hK
  intro pins s σ H vs us Q I r h
  obtain ⟨a, bs, rfl, hs, hd, hal, hk, q⟩ := h
  obtain ⟨its, rv, hl, hz⟩ := I.list hs
  rw [Vals.ref1 r]
  have e := each_vals rv
  have hbl : bs.length ≤ sizeLine := by
    rw [List.length_map] at hz
    exact hz
  have er : PySem.W.EachIs (fun v (b : V × PyData) => ∃ as, Reads s.heap v b.2 as) its bs := by
    have : ∀ {bs : List (V × PyData)} {us : List Value}, (∀ b ∈ bs, Dp X.K H b.1 b.2 ∧ b.2.depth ≤ 60) → PySem.W.EachIs (fun v (b : V × PyData) => RelV b.1 v) us bs → PySem.W.EachIs (fun v (b : V × PyData) => ∃ as, Reads s.heap v b.2 as) us bs := fun {bs us} hd e => by
      induction e with
      | nil => exact .nil
      | cons h t ih => exact .cons (Dp.reads I _ _ _ (hd _ List.mem_cons_self).1 h) (ih fun b hb => hd b (List.mem_cons_of_mem _ hb))
    exact this hd e
  refine PySem.W.sorted_data (enc := fun b : V × PyData => b.2) hl.isList e er hal hk hbl (fun b hb => by have := (hd b hb).2; omega) fun out ho eo => ?_
  obtain ⟨ep, he'⟩ := PyProof.Rows.sortedAll_at s.heap its out.toArray
  have hlen : ((bs.mergeSort (PySem.W.dataLe false fun b => b.2)).map fun b => b.1).length ≤ sizeLine := by
    rw [List.length_map, List.length_mergeSort]
    exact hbl
  exact ⟨.ref _, upd H (s.heap.objs.size + 1) (.lst _), I.laid (t' := s.toks) (fun _ _ => PyProof.Rows.sortedAll_old) (Nat.le_succ _) ⟨hlen, out, ep, vals_each eo, he'⟩, rfl, q _ (I.hok.fresh (Nat.le_succ _))⟩
end

/-! ### name = {k: v for ..} on one line -/
section
variable {X : Cx}
theorem swd_true {kx vx : Expr} {gs : List Comprehension} {scope : Scope} {pos py : Pos} {y : Str} {l : Nat} {env : Env} (hk : env.scope.kind = .function) (hy : env.scope.names.lookup y = some .local) (hl : (py.line == pos.line) = true)
    (ha : (scope.names.any fun (n, k) => n == y && (k == .local || k == .cell)) = false) : swapsWith (.DictComp kx vx gs scope pos) (some (.Name y py)) l env = pure true := by
  have k1 : env.kindOf y = some .local := hy
  have k2 : env.blockKind = .function := by
    unfold Env.blockKind
    rw [hk]
    rfl
  unfold swapsWith
  simp only [k2, k1, ha, Expr.pos, hl]
  rfl
theorem ps_setDc {i : Nat} {y : Str} {py : Pos} {kx vx tg iter : Expr} {ifs : List Expr} {scope : Scope} {own : List (Str × Nat)} {pos sp : Pos} {wi : TI} {g : TG} {tt : TT} {tk tv : TE} (hc : X.calm = true) (hN : X.N.Nodup) (hy : X.N[i]? = some y)
    (hyl : X.env.scope.names.lookup y = some .local) (hsw : swapsWith (.DictComp kx vx [⟨tg, iter, ifs, 0⟩] scope pos) (some (.Name y py)) sp.line X.env = pure true) (hi : PI X tg iter wi) (ok : BlkOk X.N X.env.scope scope own)
    (hg : ∀ (s : Shared) (H : Hp) (C : Addr) (cl : List (Str × Addr)) (fp : List Addr), PG (X.blk s H scope (compEnvC scope cl C X.env) fp) tg g)
    (ht : ∀ (s : Shared) (H : Hp) (C : Addr) (cl : List (Str × Addr)) (fp : List Addr), PTs (X.blk s H scope (compEnvC scope cl C X.env) fp) ifs tt)
    (hk : ∀ (s : Shared) (H : Hp) (C : Addr) (cl : List (Str × Addr)) (fp : List Addr), PE (X.blk s H scope (compEnvC scope cl C X.env) fp) kx tk) (he : ∀ (s : Shared) (H : Hp) (C : Addr) (cl : List (Str × Addr)) (fp : List Addr), PE (X.blk s H scope (compEnvC scope cl C X.env) fp) vx tv)
    (hs : ∀ x, foldedSetIterable iter X.env x = pure x := by intro _; rfl) : PS X (.Assign [.Name y py] (.DictComp kx vx [⟨tg, iter, ifs, 0⟩] scope pos) sp) (tAsg (tDc wi g tt tk tv (own.map (·.2))) (gName i)) := by
  refine ⟨fun pins s σ H D I h0 => ?_⟩
  rw [exec_Assign_Name_used _ _ _ _ hsw]
  refine wpAny_bind (wpAny_standAt (wpAny_bind ?_))
  show wpAny _ X.A (do let _ ← comprehension (.DictComp kx vx [⟨tg, iter, ifs, 0⟩] scope pos) scope X.env (firstIterPos [⟨tg, iter, ifs, 0⟩] pos) newDict false (eval iter X.env) (some (assign (.Name y py) X.env))) _ _ s
  have h1 : tDc wi g tt tk tv (own.map (·.2)) σ H (fun x H1 => gName i x σ H1 D.nx) := h0
  refine wpAny_bind (thn (dc_core (Qf := fun _ s' => SP X pins D .next s') hc hN I hi ok hg ht hk he hs h1 fun L C s' m H' I' q hn f => ?_) fun _ s' hq => wpAny_pure (wpAny_pure hq))
  show wpAny _ _ (assign (.Name y py) X.env (.ref L)) _ _ _
  obtain ⟨f0, f1, f2, f3, f4, f5⟩ := f
  refine wpAny_assign_Name (store_ok2 (v := V.ref L) I' hN hy (.inl hyl) rfl (fun s2 I2 ⟨c, sb, hc'⟩ => ?_) (.inr hyl))
  have ne : C ≠ c := by
    rcases hc' with z | z
    · rw [z]
      exact f1
    · exact fun e => f4 y c z e.symm
  exact ⟨m, hn.sameBut sb ne, fun h3 sb3 => ⟨_, H', I2.turned (t' := s2.toks) (fun b o hb e => (sb3.2 b hb).trans e) f0 f1 f3 f4 f5, q⟩⟩
end
/-- a dict made over a list -/
theorem dc_list {K : PySem.W.Frag} {a : Addr} {xs : List V} {g : TG} {tt : TT} {tk tv : TE} {vs : List Nat} {σ : L2.St} {H1 : Hp} {D : Addr} {Qd : Hp → Prop} (Pv : Nat → Hp → Prop) (h0 : Pv 0 (upd H1 D (.dK []))) (hl : ∀ i H, i ≤ xs.length → Pv i H → SqL K H a xs)
    (hs : ∀ i x H, xs[i]? = some x → Pv i H → g x (wipe σ vs) H fun σ2 H2 => wipe σ2 vs = wipe σ vs ∧ tt σ2 H2 fun b H3 => if b = true then tk σ2 H3 fun y H4 => tv σ2 H4 fun z H5 => ∃ kvs k, y = kV k ∧ H5 D = some (.dK kvs) ∧ kvs.length < sizeLine ∧ Pv (i + 1) (upd H5 D (.dK (putK kvs k z))) else Pv (i + 1) H3)
    (hd : ∀ H, Pv xs.length H → Qd H) :
    ∃ W : Nat → Nat → Hp → Prop, (∃ m, W 0 m (upd H1 D (.dK []))) ∧ ∀ i m H, W i m H →
      ((Itl K a).stop i H ∧ Qd H) ∨ ((Itl K a).go i H ∧ ∃ Nx : Hp → Prop, (∀ H', Nx H' → ∃ m', m' < m ∧ W (i + 1) m' H') ∧ ∀ x H', (Itl K a).yld i H x H' → g x (wipe σ vs) H' fun σ2 H2 => wipe σ2 vs = wipe σ vs ∧ tt σ2 H2 fun b H3 =>
        if b = true then tk σ2 H3 fun y H4 => tv σ2 H4 fun z H5 => ∃ kvs k, y = kV k ∧ H5 D = some (.dK kvs) ∧ kvs.length < sizeLine ∧ Nx (upd H5 D (.dK (putK kvs k z))) else Nx H3) := by
  refine ⟨fun i m H => m = xs.length - i ∧ i ≤ xs.length ∧ Pv i H, ⟨xs.length, by simp, Nat.zero_le _, h0⟩, ?_⟩
  rintro i m H ⟨rfl, hi, p⟩
  have q := hl i H hi p
  rcases Nat.lt_or_ge i xs.length with lt | ge
  · exact .inr ⟨⟨xs, xs[i], q, by simp [lt]⟩, Pv (i + 1), fun H' p' => ⟨xs.length - (i + 1), by omega, rfl, lt, p'⟩, fun x H' ⟨e, y⟩ => by subst e; exact hs i x _ (y xs q) p⟩
  · have e : i = xs.length := by omega
    subst e
    exact .inl ⟨⟨xs, q, Nat.le_refl _⟩, hd H p⟩

end
section
open PySem PySem.Spec PyProof.Rows L2
variable {P : Program} {w : World} {K : PySem.W.Frag} {mg : Str → Option Value} {base : Heap}
/-! ### references, heaps, what leads where -/
inductive Rf where
  | obj (i : Int) | imp (o e : Int)
  deriving DecidableEq
abbrev HeapM := List (Int × List (Option Rf))
def fieldsOf (h : HeapM) (i : Int) : List (Option Rf) := (h.lookup i).getD []
inductive Reach (h : HeapM) (st : List (Option Rf)) : Rf → Prop
  | base {r : Rf} : some r ∈ st → Reach h st r
  | step {i : Int} {r : Rf} : Reach h st (.obj i) → some r ∈ fieldsOf h i → Reach h st r
/-- the objects that are referred to are there -/
structure ValidH (h : HeapM) (st : List (Option Rf)) : Prop where
  st : ∀ i, some (Rf.obj i) ∈ st → i ∈ h.map (·.1)
  fl : ∀ j i, some (Rf.obj i) ∈ fieldsOf h j → i ∈ h.map (·.1)
theorem Reach.there {h : HeapM} {st : List (Option Rf)} (v : ValidH h st) {i : Int} (r : Reach h st (.obj i)) : i ∈ h.map (·.1) := by
  generalize e : Rf.obj i = x at r
  cases r with
  | base m => subst e; exact v.st i m
  | step _ m => subst e; exact v.fl _ i m
/-! ### sorted lists without repeats -/
section
variable {α : Type} {lt : α → α → Prop}
structure Slo (lt : α → α → Prop) : Prop where
  irr : ∀ x, ¬ lt x x
  tr : ∀ x y z, lt x y → lt y z → lt x z
  tot : ∀ x y, lt x y ∨ x = y ∨ lt y x
theorem sorted_uniq (O : Slo lt) : ∀ {l m : List α}, l.Pairwise lt → m.Pairwise lt → (∀ x, x ∈ l ↔ x ∈ m) → l = m
  | [], [], _, _, _ => rfl
  | [], y :: m, _, _, h => absurd ((h y).mpr List.mem_cons_self) (by simp)
  | x :: l, [], _, _, h => absurd ((h x).mp List.mem_cons_self) (by simp)
  | x :: l, y :: m, p, q, h => by
    obtain ⟨p1, p2⟩ := List.pairwise_cons.mp p
    obtain ⟨q1, q2⟩ := List.pairwise_cons.mp q
    have e : x = y := by
      rcases List.mem_cons.mp ((h x).mp List.mem_cons_self) with e | hx
      · exact e
      · rcases List.mem_cons.mp ((h y).mpr List.mem_cons_self) with e | hy
        · exact e.symm
        · exact absurd (O.tr _ _ _ (p1 y hy) (q1 x hx)) (O.irr x)
    subst e
    have : ∀ z, z ∈ l ↔ z ∈ m := fun z => by
      constructor
      · intro hz
        rcases List.mem_cons.mp ((h z).mp (List.mem_cons_of_mem _ hz)) with e | hm
        · subst e; exact absurd (p1 z hz) (O.irr z)
        · exact hm
      · intro hz
        rcases List.mem_cons.mp ((h z).mpr (List.mem_cons_of_mem _ hz)) with e | hm
        · subst e; exact absurd (q1 z hz) (O.irr z)
        · exact hm
    rw [sorted_uniq O p2 q2 this]
variable [DecidableRel lt]
def insS (lt : α → α → Prop) [DecidableRel lt] (x : α) : List α → List α
  | [] => [x]
  | y :: r => if lt x y then x :: y :: r else if lt y x then y :: insS lt x r else y :: r
theorem mem_insS (O : Slo lt) {x z : α} : ∀ {l : List α}, z ∈ insS lt x l ↔ z = x ∨ z ∈ l
  | [] => by simp [insS]
  | y :: r => by
    unfold insS
    split
    · exact List.mem_cons
    · rename_i h1
      split
      · rw [List.mem_cons, mem_insS O (l := r), List.mem_cons]
        constructor <;> (intro h; rcases h with h | h | h <;> simp [h])
      · rename_i h2
        rcases O.tot x y with h | h | h
        · exact absurd h h1
        · subst h; simp
        · exact absurd h h2
theorem insS_sorted (O : Slo lt) {x : α} : ∀ {l : List α}, l.Pairwise lt → (insS lt x l).Pairwise lt
  | [], _ => by simp [insS]
  | y :: r, p => by
    obtain ⟨p1, p2⟩ := List.pairwise_cons.mp p
    unfold insS
    split
    · rename_i h
      refine List.pairwise_cons.mpr ⟨fun z hz => ?_, p⟩
      rcases List.mem_cons.mp hz with e | hz
      · subst e; exact h
      · exact O.tr _ _ _ h (p1 z hz)
    · split
      · rename_i h
        refine List.pairwise_cons.mpr ⟨fun z hz => ?_, insS_sorted O p2⟩
        rcases (mem_insS O).mp hz with e | hz
        · subst e; exact h
        · exact p1 z hz
      · exact p
def sortS (lt : α → α → Prop) [DecidableRel lt] (l : List α) : List α := l.foldr (insS lt) []
theorem mem_sortS (O : Slo lt) {z : α} : ∀ {l : List α}, z ∈ sortS lt l ↔ z ∈ l
  | [] => Iff.rfl
  | x :: r => by
    show z ∈ insS lt x (sortS lt r) ↔ _
    rw [mem_insS O, mem_sortS O (l := r), List.mem_cons]
theorem sortS_sorted (O : Slo lt) : ∀ l : List α, (sortS lt l).Pairwise lt
  | [] => List.Pairwise.nil
  | _ :: r => insS_sorted O (sortS_sorted O r)
theorem sortS_eq (O : Slo lt) {l m : List α} (p : m.Pairwise lt) (h : ∀ x, x ∈ m ↔ x ∈ l) : m = sortS lt l := sorted_uniq O p (sortS_sorted O l) fun x => (h x).trans (mem_sortS O).symm
theorem sortS_len (O : Slo lt) : ∀ l : List α, (sortS lt l).length ≤ l.length
  | [] => Nat.le_refl _
  | x :: r => by
    have : ∀ l : List α, (insS lt x l).length ≤ l.length + 1 := fun l => by
      induction l with
      | nil => exact Nat.le_refl _
      | cons y r ih =>
        unfold insS
        split
        · exact Nat.le_refl _
        · split
          · exact Nat.succ_le_succ ih
          · exact Nat.le_succ _
    exact Nat.le_trans (this _) (Nat.succ_le_succ (sortS_len O r))
end
def ltI (a b : Int) : Prop := a < b
instance : DecidableRel ltI := fun a b => inferInstanceAs (Decidable (a < b))
def ltP2 (a b : Int × Int) : Prop := a.1 < b.1 ∨ a.1 = b.1 ∧ a.2 < b.2
instance : DecidableRel ltP2 := fun a b => inferInstanceAs (Decidable (a.1 < b.1 ∨ a.1 = b.1 ∧ a.2 < b.2))
theorem sloI : Slo ltI := ⟨fun x => Int.lt_irrefl x, fun _ _ _ => Int.lt_trans, fun x y => by unfold ltI; omega⟩
theorem sloP : Slo ltP2 := ⟨fun x => by unfold ltP2; omega, fun x y z => by unfold ltP2; omega, fun x y => by
  unfold ltP2
  rcases x with ⟨a, b⟩
  rcases y with ⟨c, d⟩
  by_cases h : a = c ∧ b = d
  · exact .inr (.inl (by rw [h.1, h.2]))
  · dsimp only
    omega⟩
open Classical in
/-- the objects, the imports, to which references lead, rising -/
noncomputable def ledO (h : HeapM) (st : List (Option Rf)) : List Int := sortS ltI ((h.map (·.1)).filter fun i => decide (Reach h st (.obj i)))
def impsOf (l : List (Option Rf)) : List (Int × Int) := l.filterMap fun r => match r with
  | some (.imp o e) => some (o, e)
  | _ => none
theorem mem_impsOf {l : List (Option Rf)} {o e : Int} : (o, e) ∈ impsOf l ↔ some (Rf.imp o e) ∈ l := by
  unfold impsOf
  rw [List.mem_filterMap]
  constructor
  · rintro ⟨r, hr, h⟩
    match r, h with
    | some (.imp o' e'), h =>
      cases h
      exact hr
  · intro h
    exact ⟨_, h, rfl⟩
open Classical in
noncomputable def ledI (h : HeapM) (st : List (Option Rf)) : List (Int × Int) := sortS ltP2 ((impsOf (st ++ (h.map (·.2)).flatten)).filter fun p => decide (Reach h st (.imp p.1 p.2)))
open Classical in
theorem mem_ledO {h : HeapM} {st : List (Option Rf)} (v : ValidH h st) {i : Int} : i ∈ ledO h st ↔ Reach h st (.obj i) := by
  unfold ledO
  rw [mem_sortS sloI, List.mem_filter]
  exact ⟨fun x => of_decide_eq_true x.2, fun r => ⟨r.there v, decide_eq_true r⟩⟩
theorem lookup_mem {h : HeapM} {i : Int} {fs : List (Option Rf)} (e : h.lookup i = some fs) : (i, fs) ∈ h := by
  induction h with
  | nil => cases e
  | cons p h ih =>
    obtain ⟨j, gs⟩ := p
    rw [List.lookup_cons] at e
    by_cases hj : i = j
    · subst hj
      simp at e
      subst e
      exact List.mem_cons_self
    · have : (i == j) = false := by simpa using hj
      rw [this] at e
      exact List.mem_cons_of_mem _ (ih e)
theorem mem_fields {h : HeapM} {i : Int} {r : Option Rf} (m : r ∈ fieldsOf h i) : r ∈ (h.map (·.2)).flatten := by
  unfold fieldsOf at m
  cases e : h.lookup i with
  | none => rw [e] at m; cases m
  | some fs =>
    rw [e] at m
    exact List.mem_flatten.mpr ⟨fs, List.mem_map.mpr ⟨_, lookup_mem e, rfl⟩, m⟩
open Classical in
theorem mem_ledI {h : HeapM} {st : List (Option Rf)} {o e : Int} : (o, e) ∈ ledI h st ↔ Reach h st (.imp o e) := by
  unfold ledI
  rw [mem_sortS sloP, List.mem_filter]
  refine ⟨fun x => of_decide_eq_true x.2, fun r => ⟨mem_impsOf.mpr ?_, decide_eq_true r⟩⟩
  cases r with
  | base m => exact List.mem_append_left _ m
  | step _ m => exact List.mem_append_right _ (mem_fields m)
theorem ledO_sorted (h : HeapM) (st : List (Option Rf)) : (ledO h st).Pairwise ltI := sortS_sorted sloI _
theorem ledI_sorted (h : HeapM) (st : List (Option Rf)) : (ledI h st).Pairwise ltP2 := sortS_sorted sloP _
theorem ledO_eq {h : HeapM} {st : List (Option Rf)} (v : ValidH h st) {l : List Int} (p : l.Pairwise ltI) (m : ∀ i, i ∈ l ↔ Reach h st (.obj i)) : l = ledO h st :=
  sorted_uniq sloI p (ledO_sorted h st) fun i => (m i).trans (mem_ledO v).symm
theorem ledI_eq {h : HeapM} {st : List (Option Rf)} {l : List (Int × Int)} (p : l.Pairwise ltP2) (m : ∀ o e, (o, e) ∈ l ↔ Reach h st (.imp o e)) : l = ledI h st :=
  sorted_uniq sloP p (ledI_sorted h st) fun ⟨o, e⟩ => (m o e).trans mem_ledI.symm
theorem ledO_len (h : HeapM) (st : List (Option Rf)) : (ledO h st).length ≤ h.length := by
  refine Nat.le_trans (sortS_len sloI _) (Nat.le_trans (List.length_filter_le _ _) ?_)
  rw [List.length_map]
  exact Nat.le_refl _

end
section
open PySem PySem.Spec PyProof.Rows L2
variable {P : Program} {w : World} {K : PySem.W.Frag} {mg : Str → Option Value} {base : Heap}
/-! ### heaps in the heap -/
def RfV (H : Hp) (v : V) (r : Option Rf) : Prop := match r with
  | none => v = .non
  | some (.obj i) => ∃ t, v = .ref t ∧ H t = some (.tup [.str "object", .int i])
  | some (.imp o e) => ∃ t, v = .ref t ∧ H t = some (.tup [.str "import", .int o, .int e])
theorem RfV.mono {H H' : Hp} (s : ∀ a xs, H a = some (.tup xs) → H' a = some (.tup xs)) {v : V} {r : Option Rf} (h : RfV H v r) : RfV H' v r := by
  match r, h with
  | none, h => exact h
  | some (.obj i), ⟨t, e, h⟩ => exact ⟨t, e, s _ _ h⟩
  | some (.imp o e), ⟨t, e', h⟩ => exact ⟨t, e', s _ _ h⟩
/-- one object of a heap: its key, its fields -/
def ObjV (H : Hp) (kv : Key × V) (e : Int × List (Option Rf)) : Prop := kv.1 = .inl e.1 ∧ ∃ t vs, kv.2 = .ref t ∧ H t = some (.tup vs) ∧ Paired (RfV H) vs e.2
theorem ObjV.mono {H H' : Hp} (s : ∀ a xs, H a = some (.tup xs) → H' a = some (.tup xs)) {kv : Key × V} {e : Int × List (Option Rf)} (h : ObjV H kv e) : ObjV H' kv e := by
  obtain ⟨h1, t, vs, h2, h3, h4⟩ := h
  exact ⟨h1, t, vs, h2, s _ _ h3, L2.Paired.mapP h4 fun _ _ => RfV.mono s⟩
def HeapAt (H : Hp) (d : Addr) (h : HeapM) : Prop := ∃ kvs, H d = some (.dK kvs) ∧ Paired (ObjV H) kvs h
theorem Same.tups {H H' : Hp} (s : Same H H') : ∀ a xs, H a = some (.tup xs) → H' a = some (.tup xs) := fun a xs h => s a _ h
theorem HeapAt.mono {H H' : Hp} {d : Addr} {h : HeapM} (A : HeapAt H d h) (s : Same H H') : HeapAt H' d h := by
  obtain ⟨kvs, e, p⟩ := A
  exact ⟨kvs, s _ _ e, L2.Paired.mapP p fun _ _ => ObjV.mono (Same.tups s)⟩
theorem valV_heap {H : Hp} : ∀ {kvs : List (Key × V)} {h : HeapM}, Paired (ObjV H) kvs h → ∀ i : Int, (h.lookup i = none → valV kvs (.inl i) = none) ∧
    ∀ fs, h.lookup i = some fs → ∃ t vs, valV kvs (.inl i) = some (.ref t) ∧ H t = some (.tup vs) ∧ Paired (RfV H) vs fs
  | [], [], .nil, i => ⟨fun _ => rfl, fun fs e => nomatch e⟩
  | kv :: kvs, (j, gs) :: h, .cons r t, i => by
    obtain ⟨h1, a, vs, h2, h3, h4⟩ := r
    by_cases e : i = j
    · subst e
      refine ⟨fun q => ?_, fun fs q => ?_⟩
      · simp at q
      · have q : gs = fs := by simpa using q
        subst q
        exact ⟨a, vs, by rw [valV_pos h1, h2], h3, h4⟩
    · have hne : ¬ kv.1 = (Sum.inl i : Key) := fun q => e (by rw [h1] at q; exact (Sum.inl.inj q).symm)
      have hl : List.lookup i ((j, gs) :: h) = List.lookup i h := by
        have : (i == j) = false := by simpa using e
        rw [List.lookup_cons, this]
      rw [valV_neg hne, hl]
      exact valV_heap t i
theorem lookup_of_mem : ∀ {h : HeapM} {i : Int}, i ∈ h.map (·.1) → ∃ fs, h.lookup i = some fs
  | [], _, m => nomatch m
  | (j, gs) :: h, i, m => by
    by_cases e : i = j
    · subst e
      exact ⟨gs, by simp⟩
    · rcases List.mem_cons.mp m with q | m
      · exact absurd q e
      · obtain ⟨fs, q⟩ := lookup_of_mem m
        have : (i == j) = false := by simpa using e
        exact ⟨fs, by rw [List.lookup_cons, this]; exact q⟩
theorem paired_app {α β : Type} {F : α → β → Prop} : ∀ {a b : List α} {c d : List β}, Paired F a c → Paired F b d → Paired F (a ++ b) (c ++ d)
  | _, _, _, _, .nil, q => q
  | _, _, _, _, .cons r t, q => .cons r (paired_app t q)
/-- the last of a list in pairs -/
theorem paired_last {α β : Type} {F : α → β → Prop} {a : List α} {c : List β} (p : Paired F a c) (hn : a ≠ []) : ∃ x y, a[a.length - 1]? = some x ∧ c = c.dropLast ++ [y] ∧ F x y ∧ Paired F a.dropLast c.dropLast := by
  induction p with
  | nil => exact absurd rfl hn
  | @cons x y a c r t ih =>
    cases t with
    | nil => exact ⟨x, y, rfl, rfl, r, .nil⟩
    | @cons x2 y2 a2 c2 r2 t2 =>
      obtain ⟨u, v, h1, h2, h3, h4⟩ := ih (by simp)
      refine ⟨u, v, ?_, ?_, h3, .cons r h4⟩
      · show (x :: x2 :: a2)[(x2 :: a2).length]? = _
        rw [List.length_cons, List.getElem?_cons_succ]
        simpa using h1
      · show y :: y2 :: c2 = y :: ((y2 :: c2).dropLast ++ [v])
        rw [← h2]
/-- the search: what waits, the objects and the imports found -/
def found (os : List Int) (is : List (Int × Int)) : Rf → Prop
  | .obj i => i ∈ os
  | .imp o e => (o, e) ∈ is
structure Srch (h : HeapM) (st ws : List (Option Rf)) (os : List Int) (is : List (Int × Int)) : Prop where
  w : ∀ r, some r ∈ ws → Reach h st r
  o : ∀ i, i ∈ os → Reach h st (.obj i)
  i : ∀ o e, (o, e) ∈ is → Reach h st (.imp o e)
  all : ∀ r, (some r ∈ st ∨ ∃ i ∈ os, some r ∈ fieldsOf h i) → some r ∈ ws ∨ found os is r
  nd : os.Nodup
  ni : is.Nodup
theorem Srch.start (h : HeapM) (st : List (Option Rf)) : Srch h st st [] [] :=
  ⟨fun _ m => .base m, (fun _ m => nomatch m), (fun _ _ m => nomatch m), fun r q => by
    rcases q with q | ⟨_, m, _⟩
    · exact .inl q
    · exact (nomatch m), List.nodup_nil, List.nodup_nil⟩
theorem Srch.skip {h : HeapM} {st ws : List (Option Rf)} {os : List Int} {is : List (Int × Int)} {x : Option Rf} (S : Srch h st (ws ++ [x]) os is) (hx : ∀ r, x = some r → found os is r) : Srch h st ws os is :=
  ⟨fun r m => S.w r (List.mem_append_left _ m), S.o, S.i, fun r q => by
    rcases S.all r q with m | f
    · rcases List.mem_append.mp m with m | m
      · exact .inl m
      · exact .inr (hx r (List.mem_singleton.mp m).symm)
    · exact .inr f, S.nd, S.ni⟩
theorem Srch.imp {h : HeapM} {st ws : List (Option Rf)} {os : List Int} {is : List (Int × Int)} {o e : Int} (S : Srch h st (ws ++ [some (.imp o e)]) os is) (hn : (o, e) ∉ is) : Srch h st ws os (is ++ [(o, e)]) := by
  have S2 : Srch h st (ws ++ [some (.imp o e)]) os (is ++ [(o, e)]) := by
    refine ⟨S.w, S.o, fun o' e' m => ?_, fun r q => ?_, S.nd, ?_⟩
    · rcases List.mem_append.mp m with m | m
      · exact S.i _ _ m
      · cases List.mem_singleton.mp m
        exact S.w _ (List.mem_append_right _ (List.mem_singleton.mpr rfl))
    · rcases S.all r q with m | f
      · exact .inl m
      · refine .inr ?_
        cases r with
        | obj i => exact f
        | imp a b => exact List.mem_append_left _ f
    · rw [List.nodup_append]
      exact ⟨S.ni, by simp, fun a ha b hb => by rw [List.mem_singleton.mp hb]; exact fun q => hn (by rw [← q]; exact ha)⟩
  exact S2.skip fun r q => by
    cases q
    exact List.mem_append_right _ (List.mem_singleton.mpr rfl)
theorem Srch.obj {h : HeapM} {st ws : List (Option Rf)} {os : List Int} {is : List (Int × Int)} {i : Int} (S : Srch h st (ws ++ [some (.obj i)]) os is) (hn : i ∉ os) : Srch h st (ws ++ fieldsOf h i) (os ++ [i]) is := by
  have ri : Reach h st (.obj i) := S.w _ (List.mem_append_right _ (List.mem_singleton.mpr rfl))
  refine ⟨fun r m => ?_, fun j m => ?_, S.i, fun r q => ?_, ?_, S.ni⟩
  · rcases List.mem_append.mp m with m | m
    · exact S.w r (List.mem_append_left _ m)
    · exact .step ri m
  · rcases List.mem_append.mp m with m | m
    · exact S.o j m
    · rw [List.mem_singleton.mp m]
      exact ri
  · have lift : (some r ∈ ws ++ [some (.obj i)] ∨ found os is r) → (some r ∈ ws ++ fieldsOf h i ∨ found (os ++ [i]) is r) := fun z => by
      rcases z with m | f
      · rcases List.mem_append.mp m with m | m
        · exact .inl (List.mem_append_left _ m)
        · cases List.mem_singleton.mp m
          exact .inr (List.mem_append_right _ (List.mem_singleton.mpr rfl))
      · refine .inr ?_
        cases r with
        | obj j => exact List.mem_append_left _ f
        | imp a b => exact f
    rcases q with q | ⟨j, m, q⟩
    · exact lift (S.all r (.inl q))
    · rcases List.mem_append.mp m with m | m
      · exact lift (S.all r (.inr ⟨j, m, q⟩))
      · rw [List.mem_singleton.mp m] at q
        exact .inl (List.mem_append_right _ q)
  · rw [List.nodup_append]
    exact ⟨S.nd, by simp, fun a ha b hb => by rw [List.mem_singleton.mp hb]; exact fun q => hn (by rw [← q]; exact ha)⟩
theorem Srch.done {h : HeapM} {st : List (Option Rf)} {os : List Int} {is : List (Int × Int)} (S : Srch h st [] os is) : (∀ i, i ∈ os ↔ Reach h st (.obj i)) ∧ ∀ o e, (o, e) ∈ is ↔ Reach h st (.imp o e) := by
  have key : ∀ r, Reach h st r → found os is r := fun r q => by
    induction q with
    | base m => exact (S.all _ (.inl m)).resolve_left (fun z => nomatch z)
    | step _ m ih => exact (S.all _ (.inr ⟨_, ih, m⟩)).resolve_left (fun z => nomatch z)
  exact ⟨fun i => ⟨S.o i, key (.obj i)⟩, fun o e => ⟨S.i o e, key (.imp o e)⟩⟩
theorem nodup_le {α : Type} [DecidableEq α] : ∀ {l m : List α}, l.Nodup → (∀ x ∈ l, x ∈ m) → l.length ≤ m.length
  | [], _, _, _ => Nat.zero_le _
  | x :: l, m, nd, h => by
    obtain ⟨h1, h2⟩ := List.nodup_cons.mp nd
    have hx : x ∈ m := h x List.mem_cons_self
    have := nodup_le (l := l) (m := m.erase x) h2 fun y hy => (List.mem_erase_of_ne (fun q => h1 (by rw [← q]; exact hy))).mpr (h y (List.mem_cons_of_mem _ hy))
    rw [List.length_erase_of_mem hx] at this
    have : 0 < m.length := List.length_pos_of_mem hx
    simp only [List.length_cons]
    omega
theorem Srch.few {h : HeapM} {st ws : List (Option Rf)} {os : List Int} {is : List (Int × Int)} (S : Srch h st ws os is) (v : ValidH h st) : os.length ≤ h.length := by
  have := nodup_le S.nd (m := h.map (·.1)) fun i m => (S.o i m).there v
  rwa [List.length_map] at this

/-! ### more rules with the written part named -/
section
variable {X : Cx} {K : PySem.W.Frag}
theorem op_inDK (hu : X.A.units + 65 < cLine) (hK : X.K = K := by rfl) : OpR X (compareOp .In) (rInD K) := by subst hK; exact op_inD hu
theorem op_notInDK (hu : X.A.units + 65 < cLine) (hK : X.K = K := by rfl) : OpR X (compareOp .NotIn) (rNotInD K) := by subst hK; exact op_notInD hu
def rTupOfK (K : PySem.W.Frag) : List V → Hp → VK → Prop := fun xs H Q => ∃ p ys, xs = [.ref p] ∧ ((SqL K H p ys ∧ ∀ l, H l = none → Q (.ref l) (upd H l (.tup ys))) ∨ (SqT K H p ys ∧ Q (.ref p) H))
theorem call_tupleK (hK : X.K = K := by rfl) : CallR X (.type "tuple") (rTupOfK K) := by subst hK; exact call_tuple_of
theorem call_sortedPK (hK : X.K = K := by rfl) : CallR X (.builtin "sorted") (rSortedPO K) := by subst hK; exact cr_sortedPO
end
/-! ### dicts used as sets -/
theorem valV_set {κ : Type} [DecidableEq κ] {v : V} {k : κ} : ∀ {ks : List κ}, valV (ks.map fun x => (x, v)) k = if k ∈ ks then some v else none
  | [] => rfl
  | x :: ks => by
    by_cases e : x = k
    · subst e
      rw [if_pos List.mem_cons_self]
      exact valV_pos rfl
    · rw [List.map_cons, valV_neg e, valV_set (ks := ks)]
      by_cases m : k ∈ ks
      · rw [if_pos m, if_pos (List.mem_cons_of_mem _ m)]
      · rw [if_neg m, if_neg (fun z => by
          rcases List.mem_cons.mp z with z | z
          · exact e z.symm
          · exact m z)]
theorem putK_setNew {κ : Type} [DecidableEq κ] {v : V} {k : κ} {ks : List κ} (h : k ∉ ks) : putK (ks.map fun x => (x, v)) k v = (ks ++ [k]).map fun x => (x, v) := by
  rw [putK_new v (by rw [valV_set, if_neg h]), List.map_append]
  rfl
theorem putK_setOld {κ : Type} [DecidableEq κ] {v : V} {k : κ} {ks : List κ} (h : k ∈ ks) : putK (ks.map fun x => (x, v)) k v = ks.map fun x => (x, v) := by
  have hs : ((ks.map fun x => (x, v)).any fun kv => decide (kv.1 = k)) = true := by rw [valV_any, valV_set, if_pos h]; rfl
  unfold putK
  rw [if_pos hs]
  conv => rhs; rw [← List.map_id (ks.map fun x => (x, v))]
  refine List.map_congr_left fun kv hkv => ?_
  obtain ⟨x, _, rfl⟩ := List.mem_map.mp hkv
  dsimp only
  split <;> rfl
/-! ### a for over a list or a tuple; a dict compared with an empty one -/
def iSeqK (K : PySem.W.Frag) (tl : TE) : TI := fun σ H R => tl σ H fun x H1 => ∃ a, x = .ref a ∧ (((∃ xs, SqL K H1 a xs) ∧ R (Itl K a) H1) ∨ ((∃ xs, SqT K H1 a xs) ∧ R (Itt K a) H1))
section
variable {X : Cx} {K : PySem.W.Frag} {tg : Expr}
theorem iseqK {l : Expr} {tl : TE} (he : PE X l tl) (hK : X.K = K := by rfl) : PI X tg l (iSeqK K tl) := by
  subst hK
  refine ⟨fun pins s σ H R I h0 => ?_⟩
  refine thn (he.run pins s σ H _ I h0) fun v s1 ⟨x, H1, I1, r1, a, e, q1⟩ => ?_
  subst e
  cases r1
  have fresh : ∀ b ∈ [s1.heap.objs.size], FpOk X pins H1 b := fun b hb => by
    rw [List.mem_singleton.mp hb]
    exact I1.fpOk (Nat.le_refl _) (I1.hok.fresh (Nat.le_refl _))
  rcases q1 with ⟨⟨xs, hq⟩, q⟩ | ⟨⟨xs, hq⟩, q⟩
  · obtain ⟨its, rv, p, hz⟩ := I1.list hq
    exact wpAny_pyIter_list p.isList ⟨s1.heap.objs.size, [s1.heap.objs.size], _, _, H1, rfl, I1.kept (t' := s1.toks) fun b o e => Heap.get?_push_of_some _ e, turn_list a _, ⟨_, Heap.get?_push_size _ rfl, rfl, rfl⟩, fresh, q⟩
  · obtain ⟨its, rv, p, hz⟩ := I1.tuple hq
    exact wpAny_pyIter_tuple (show s1.heap.IsTuple a its.toArray from p) ⟨s1.heap.objs.size, [s1.heap.objs.size], _, _, H1, rfl, I1.kept (t' := s1.toks) fun b o e => Heap.get?_push_of_some _ e, turn_tuple a _, ⟨_, Heap.get?_push_size _ rfl, rfl, rfl⟩, fresh, q⟩
theorem for_seq {a : Addr} {xs : List V} {g : TG} {tb : TS} {D : Ends} {σ : L2.St} {H H0 : Hp} (hS : SqL K H0 a xs ∨ SqT K H0 a xs) (Pv : Nat → L2.St → Hp → Prop) (h0 : Pv 0 σ H) (hl : ∀ i σ H', Pv i σ H' → Same H0 H')
    (hs : ∀ i x σ H', xs[i]? = some x → Pv i σ H' → g x σ H' fun σ2 H2 => tb { D with nx := Pv (i + 1), ct := Pv (i + 1), bk := D.nx } σ2 H2) (hd : ∀ σ H', Pv xs.length σ H' → D.nx σ H') :
    ((∃ xs, SqL K H a xs) ∧ ∃ W : Nat → Nat → L2.St → Hp → Prop, (∃ m, W 0 m σ H) ∧ ∀ i m σ H, W i m σ H →
      ((Itl K a).stop i H ∧ D.nx σ H) ∨ ((Itl K a).go i H ∧ ∃ N : L2.St → Hp → Prop, (∀ σ' H', N σ' H' → ∃ m', m' < m ∧ W (i + 1) m' σ' H') ∧ ∀ x H', (Itl K a).yld i H x H' → g x σ H' fun σ2 H2 => tb { D with nx := N, ct := N, bk := D.nx } σ2 H2)) ∨
    ((∃ xs, SqT K H a xs) ∧ ∃ W : Nat → Nat → L2.St → Hp → Prop, (∃ m, W 0 m σ H) ∧ ∀ i m σ H, W i m σ H →
      ((Itt K a).stop i H ∧ D.nx σ H) ∨ ((Itt K a).go i H ∧ ∃ N : L2.St → Hp → Prop, (∀ σ' H', N σ' H' → ∃ m', m' < m ∧ W (i + 1) m' σ' H') ∧ ∀ x H', (Itt K a).yld i H x H' → g x σ H' fun σ2 H2 => tb { D with nx := N, ct := N, bk := D.nx } σ2 H2)) := by
  have s := hl _ _ _ h0
  rcases hS with q | q
  · exact .inl ⟨⟨_, s.seq q⟩, for_list (xs := xs) Pv h0 (fun i σ H' _ p => (hl i σ H' p).seq q) hs hd⟩
  · exact .inr ⟨⟨_, sqT_fr (W := []) (Fr.of s) (by simp) q⟩, for_tup (xs := xs) Pv h0 (fun i σ H' _ p => sqT_fr (W := []) (Fr.of (hl i σ H' p)) (by simp) q) hs hd⟩
def rEqDE : R2 := fun x y H Q => ∃ a b ks, x = .ref a ∧ y = .ref b ∧ H a = some (.dK ks) ∧ H b = some (.dK []) ∧ Q (.bl ks.isEmpty) H
theorem op_eqDE (hu : X.A.units < cLine) : OpR X (compareOp .Eq) rEqDE := by
  intro pins s σ H x y v u Q I rx ry h
  obtain ⟨a, b, ks, rfl, rfl, ea, eb, q⟩ := h
  obtain rfl : v = Value.ref a := rx
  obtain rfl : u = Value.ref b := ry
  obtain ⟨_, ya, va, ra, da⟩ := (show ObjOk X.prog X.w H s.heap a (.dK ks) from I.hok a _ ea)
  obtain ⟨_, yb, vb, rb, db⟩ := (show ObjOk X.prog X.w H s.heap b (.dK []) from I.hok b _ eb)
  cases rb
  refine PySem.W.keq_eq (knd := mixKind X.prog X.w) (r := true) ya yb da db hu (fun hl => ?_) (fin_bl I q ?_)
  · have : va = [] := List.eq_nil_of_length_eq_zero hl
    subst this
    exact .nil
  · have hl := ra.length
    cases ks with
    | nil => cases ra; rfl
    | cons k ks => cases ra; rfl
end

/-! ### sorted of a list of pairs: told by the pairs -/
def leP (a b : Int × Int) : Prop := ¬ ltP2 b a
def IsPrs (H : Hp) (bs : List (Addr × (Int × Int))) : Prop := ∀ x ∈ bs, H x.1 = some (.tup [.int x.2.1, .int x.2.2])
def rSortedPP (K : PySem.W.Frag) : List V → Hp → VK → Prop := fun vs H Q => ∃ (a : Addr) (bs : List (Addr × (Int × Int))), vs = [V.ref a] ∧ SqL K H a (bs.map fun x => V.ref x.1) ∧ IsPrs H bs ∧
  ∀ (cs : List (Addr × (Int × Int))) (p : Addr), cs.Perm bs → (cs.map (·.2)).Pairwise leP → H p = none → Q (.ref p) (upd H p (.lst (cs.map fun x => V.ref x.1)))
section
variable {X : Cx} {K : PySem.W.Frag}
theorem call_sortedPP (hK : X.K = K := by rfl) : CallR X (.builtin "sorted") (rSortedPP K) := by
  subst hK
  intro pins s σ H vs us Q I r h
  obtain ⟨a, bs, e, hs, hp, q⟩ := h
  let kf : V → Int × Int := fun v => match v with
    | .ref t => (match H t with | some (.tup [.int x, .int y]) => (x, y) | _ => (0, 0))
    | _ => (0, 0)
  let ad : V → Addr := fun v => match v with | .ref t => t | _ => 0
  have hk : ∀ x ∈ bs, kf (.ref x.1) = x.2 := fun x hx => by
    show (match H x.1 with | some (.tup [.int x, .int y]) => (x, y) | _ => (0, 0)) = _
    rw [hp x hx]
  refine cr_sortedPO pins s σ H vs us Q I r ⟨a, _, kf, e, hs, fun v hv => ?_, fun ys p h1 h2 np => ?_⟩
  · obtain ⟨x, hx, rfl⟩ := List.mem_map.mp hv
    exact ⟨x.1, rfl, by rw [hk x hx]; exact hp x hx⟩
  · have hm : ∀ v ∈ ys, ∃ x ∈ bs, v = V.ref x.1 := fun v hv => by
      obtain ⟨x, hx, e⟩ := List.mem_map.mp (h2.perm.mem_iff.mp hv)
      exact ⟨x, hx, e.symm⟩
    have e1 : (ys.map fun v => (ad v, kf v)).map (fun x => V.ref x.1) = ys := by
      rw [List.map_map]
      conv => rhs; rw [← List.map_id ys]
      refine List.map_congr_left fun v hv => ?_
      obtain ⟨x, _, rfl⟩ := hm v hv
      rfl
    have e2 : (bs.map fun x => V.ref x.1).map (fun v => (ad v, kf v)) = bs := by
      rw [List.map_map]
      conv => rhs; rw [← List.map_id bs]
      refine List.map_congr_left fun x hx => ?_
      show (x.1, kf (.ref x.1)) = x
      rw [hk x hx]
    have := q (ys.map fun v => (ad v, kf v)) p (by rw [← e2]; exact h2.perm.map _) (by
      rw [List.map_map, List.pairwise_map]
      exact h1.imp fun {x y} z => by
        have z := SrtO.lexB_no.mp z
        show ¬ ltP2 (kf y) (kf x)
        unfold ltP2
        omega) np
    rwa [e1] at this
end

/-- what the search has: its two dicts -/
def setI (os : List Int) : HO := .dK ((os.map (Sum.inl : Int → Key)).map fun k => (k, V.bl true))
theorem inl_mem {j : Int} {os : List Int} : (Sum.inl j : Key) ∈ os.map Sum.inl ↔ j ∈ os := by
  rw [List.mem_map]
  exact ⟨fun ⟨q, hq, e⟩ => by cases e; exact hq, fun h => ⟨j, h, rfl⟩⟩
def pairK (p : Int × Int) : List L2.Key := [.inl p.1, .inl p.2]
def setP (is : List (Int × Int)) : HO := .dT (((is.map pairK)).map fun k => (k, V.bl true))
theorem pairK_inj {p q : Int × Int} (h : pairK p = pairK q) : p = q := by
  obtain ⟨a, b⟩ := p
  obtain ⟨c, d⟩ := q
  cases h
  rfl
theorem pairK_mem {p : Int × Int} {is : List (Int × Int)} : pairK p ∈ is.map pairK ↔ p ∈ is := by
  rw [List.mem_map]
  exact ⟨fun ⟨q, hq, e⟩ => by rw [← pairK_inj e]; exact hq, fun h => ⟨p, h, rfl⟩⟩
/-- a new list of pairs -/
def PairsAt (H : Hp) (l : Addr) (ps : List (Int × Int)) : Prop := ∃ bs : List (Addr × (Int × Int)), bs.map (·.2) = ps ∧ H l = some (.lst (bs.map fun x => V.ref x.1)) ∧ ∀ x ∈ bs, H x.1 = some (.tup [.int x.2.1, .int x.2.2])
structure HeapSmall (h : HeapM) : Prop where
  len : h.length < 64
  fl : ∀ i, (fieldsOf h i).length ≤ 1000
/-- what a reference is -/
theorem RfV.non_or {H : Hp} {v : V} {r : Option Rf} (h : RfV H v r) : (r = none ∧ v = .non) ∨ ((∃ i t, r = some (.obj i) ∧ v = .ref t ∧ H t = some (.tup [.str "object", .int i])) ∨ ∃ o e t, r = some (.imp o e) ∧ v = .ref t ∧ H t = some (.tup [.str "import", .int o, .int e])) := by
  match r, h with
  | none, h => exact .inl ⟨rfl, h⟩
  | some (.obj i), ⟨t, e, h⟩ => exact .inr (.inl ⟨i, t, rfl, e, h⟩)
  | some (.imp o e), ⟨t, e', h⟩ => exact .inr (.inr ⟨o, e, t, rfl, e', h⟩)

/-! ### references as data -/
def refD : Option Rf → PyData
  | none => .none
  | some (.obj i) => .tuple [.str "object", .int i]
  | some (.imp o e) => .tuple [.str "import", .int o, .int e]
theorem dp_ref {H : Hp} {v : V} {r : Option Rf} (h : RfV H v r) : Dp K H v (refD r) := by
  rcases h.non_or with ⟨rfl, rfl⟩ | ⟨j, t, rfl, rfl, ht⟩ | ⟨p, e, t, rfl, rfl, ht⟩
  · exact .non
  · exact .tup (SqT.of ht) (.cons (.str _) (.cons (.int _) .nil))
  · exact .tup (SqT.of ht) (.cons (.str _) (.cons (.int _) (.cons (.int _) .nil)))
theorem dp_refs {H : Hp} : ∀ {vs : List V} {rs : List (Option Rf)}, Paired (RfV H) vs rs → DpAll K H vs (rs.map refD)
  | _, _, .nil => .nil
  | _, _, .cons r t => .cons (dp_ref r) (dp_refs t)
theorem refD_eqv (r s : Option Rf) : PyData.eqv (refD r) (refD s) = decide (r = s) := by
  match r, s with
  | none, none => rfl
  | none, some (.obj _) => rfl
  | none, some (.imp _ _) => rfl
  | some (.obj _), none => rfl
  | some (.imp _ _), none => rfl
  | some (.obj i), some (.obj j) =>
    simp only [refD, PyData.eqv, PyData.eqvAll]
    by_cases h : i = j
    · subst h; simp
    · simp [h]
  | some (.obj i), some (.imp _ _) => simp [refD, PyData.eqv, PyData.eqvAll]
  | some (.imp _ _), some (.obj i) => simp [refD, PyData.eqv, PyData.eqvAll]
  | some (.imp a b), some (.imp c d) =>
    simp only [refD, PyData.eqv, PyData.eqvAll]
    by_cases h : a = c
    · subst h
      by_cases h : b = d
      · subst h; simp
      · simp [h]
    · simp [h]
theorem ascii_lt {z : Str} (h : z.cps.toList.all (fun c => decide (c < 0x110000)) = true) : ∀ c ∈ z.cps.toList, c < 0x110000 := fun c hc => of_decide_eq_true (List.all_eq_true.mp h c hc)
theorem sh_ref {n : Nat} : ∀ r : Option Rf, Sh (n + 1) (refD r)
  | none => sh_non
  | some (.obj i) => sh_tuple fun d hd => by
    simp only [List.mem_cons, List.not_mem_nil, or_false] at hd
    rcases hd with rfl | rfl
    · exact sh_str (ascii_lt (by decide))
    · exact sh_int _
  | some (.imp o e) => sh_tuple fun d hd => by
    simp only [List.mem_cons, List.not_mem_nil, or_false] at hd
    rcases hd with rfl | rfl | rfl
    · exact sh_str (ascii_lt (by decide))
    · exact sh_int _
    · exact sh_int _
theorem sh_refs {n : Nat} (rs : List (Option Rf)) : Sh (n + 2) (.list (rs.map refD)) := sh_list fun d hd => by
  obtain ⟨r, _, rfl⟩ := List.mem_map.mp hd
  exact sh_ref r
theorem refs_any (rs : List (Option Rf)) (r : Option Rf) : ((rs.map refD).any fun z => PyData.eqv z (refD r)) = decide (r ∈ rs) := by
  induction rs with
  | nil => simp
  | cons s rs ih =>
    rw [List.map_cons, List.any_cons, ih, refD_eqv]
    by_cases h : s = r
    · subst h; simp
    · have h' : ¬ r = s := fun e => h e.symm
      simp [h, h']
/-- one object with its fields -/
def objD (e : Int × List (Option Rf)) : PyData := .tuple [.int e.1, .tuple (e.2.map refD)]
theorem sh_obj {n : Nat} (e : Int × List (Option Rf)) : Sh (n + 3) (objD e) := sh_tuple fun d hd => by
  simp only [List.mem_cons, List.not_mem_nil, or_false] at hd
  rcases hd with rfl | rfl
  · exact sh_int _
  · exact sh_tuple fun d hd => by
      obtain ⟨r, _, rfl⟩ := List.mem_map.mp hd
      exact sh_ref r
theorem sh_objs {n : Nat} (h : HeapM) : Sh (n + 4) (.list (h.map objD)) := sh_list fun d hd => by
  obtain ⟨e, _, rfl⟩ := List.mem_map.mp hd
  exact sh_obj e
theorem dp_obj {H : Hp} {kv : Key × V} {e : Int × List (Option Rf)} {t : Addr} (ht : H t = some (.tup [kV kv.1, kv.2])) (o : ObjV H kv e) : Dp K H (.ref t) (objD e) := by
  obtain ⟨h1, a, vs, h2, h3, h4⟩ := o
  rw [h1, h2] at ht
  exact .tup (SqT.of ht) (.cons (.int _) (.cons (.tup (SqT.of h3) (dp_refs h4)) .nil))
theorem dp_objs {H : Hp} : ∀ {ts : List Addr} {kvs : List (Key × V)} {h : HeapM}, Paired (fun (t : Addr) (q : Key × V) => H t = some (.tup [kV q.1, q.2])) ts kvs → Paired (ObjV H) kvs h → DpAll K H (ts.map V.ref) (h.map objD)
  | _, _, _, .nil, .nil => .nil
  | _, _, _, .cons r t, .cons o u => .cons (dp_obj r o) (dp_objs t u)
/-- pairs as data -/
def pairD (p : Int × Int) : PyData := .tuple [.int p.1, .int p.2]
theorem sh_pair {n : Nat} (p : Int × Int) : Sh (n + 1) (pairD p) := sh_tuple fun d hd => by
  simp only [List.mem_cons, List.not_mem_nil, or_false] at hd
  rcases hd with rfl | rfl
  · exact sh_int _
  · exact sh_int _
theorem pairD_eqv (p q : Int × Int) : PyData.eqv (pairD p) (pairD q) = decide (p = q) := by
  obtain ⟨a, b⟩ := p
  obtain ⟨c, d⟩ := q
  simp only [pairD, PyData.eqv, PyData.eqvAll]
  by_cases h : a = c
  · subst h
    by_cases h : b = d
    · subst h; simp
    · simp [h]
  · simp [h]
theorem dp_pairs {H : Hp} {l : Addr} {ps : List (Int × Int)} (h : PairsAt H l ps) : Dp K H (.ref l) (.list (ps.map pairD)) := by
  obtain ⟨bs, e, h1, h2⟩ := h
  subst e
  refine .lst (SqL.of h1) ?_
  clear h1
  induction bs with
  | nil => exact .nil
  | cons b bs ih => exact .cons (.tup (SqT.of (h2 b List.mem_cons_self)) (.cons (.int _) (.cons (.int _) .nil))) (ih fun x hx => h2 x (List.mem_cons_of_mem _ hx))
theorem sr_pair {n : Nat} {p : Int × Int} (h1 : p.1.natAbs < 10 ^ 12) (h2 : p.2.natAbs < 10 ^ 12) : Sr (n + 1) 100 (pairD p) := (sr_tuple (n := n) (m := 40) (L := 2) (fun d hd => by
  simp only [List.mem_cons, List.not_mem_nil, or_false] at hd
  rcases hd with rfl | rfl
  · exact sr_int h1
  · exact sr_int h2) (Nat.le_refl _)).mono (Nat.le_refl _) (by decide)

end
section
open PySem PySem.Spec PyProof.Rows L2
variable {P : Program} {w : World} {K : PySem.W.Frag} {mg : Str → Option Value} {base : Heap}
def topS (i : Nat) : Stmt := PySem.Challenge.pw_keptbywitness_k02_shortest_paths.main.body.getD i (.Pass ⟨0, 0, 0, 0⟩)
abbrev s__object_ids : Stmt := topS 2
abbrev N__object_ids : List Str := ["references", "found", "reference"]
theorem sc__object_ids : FnScope N__object_ids ["references"] (defScope s__object_ids) := ⟨rfl, rfl, rfl, by decide +kernel, rfl, by decide +kernel, by decide +kernel⟩
abbrev s_shortest_path : Stmt := topS 3
abbrev N_shortest_path : List Str := ["heap", "start", "wanted", "number", "paths", "path", "known", "later"]
theorem sc_shortest_path : FnScope N_shortest_path ["heap", "start", "wanted"] (defScope s_shortest_path) := ⟨rfl, rfl, rfl, by decide +kernel, rfl, by decide +kernel, by decide +kernel⟩
abbrev s__law_cell : Stmt := topS 5
abbrev N__law_cell : List Str := ["_law_script", "_law_k"]
theorem sc__law_cell : FnScope N__law_cell ["_law_script", "_law_k"] (defScope s__law_cell) := ⟨rfl, rfl, rfl, by decide +kernel, rfl, by decide +kernel, by decide +kernel⟩
abbrev s__law_digits : Stmt := topS 6
abbrev N__law_digits : List Str := ["_law_script", "_law_first", "_law_last", "_law_digits_here", "_law_k", "_law_cell_here", "_law_turn", "_law_seed"]
theorem sc__law_digits : FnScope N__law_digits ["_law_script", "_law_first", "_law_last"] (defScope s__law_digits) := ⟨rfl, rfl, rfl, by decide +kernel, rfl, by decide +kernel, by decide +kernel⟩
abbrev s__law_draw : Stmt := topS 7
abbrev N__law_draw : List Str := ["_law_box", "_law_many", "_law_at"]
theorem sc__law_draw : FnScope N__law_draw ["_law_box", "_law_many"] (defScope s__law_draw) := ⟨rfl, rfl, rfl, by decide +kernel, rfl, by decide +kernel, by decide +kernel⟩
abbrev s__law_alike : Stmt := topS 8
abbrev N__law_alike : List Str := ["_law_one", "_law_two"]
theorem sc__law_alike : FnScope N__law_alike ["_law_one", "_law_two"] (defScope s__law_alike) := ⟨rfl, rfl, rfl, by decide +kernel, rfl, by decide +kernel, by decide +kernel⟩
abbrev s__law_heap : Stmt := topS 9
abbrev N__law_heap : List Str := ["_law_box", "_law_many", "_law_heap_here", "_law_k", "_law_fields", "_law_field"]
theorem sc__law_heap : FnScope N__law_heap ["_law_box"] (defScope s__law_heap) := ⟨rfl, rfl, rfl, by decide +kernel, rfl, by decide +kernel, by decide +kernel⟩
abbrev s__law_paths : Stmt := topS 10
abbrev N__law_paths : List Str := ["_law_heap_here", "_law_start", "_law_number", "_law_rows", "_law_turn", "_law_row", "_law_ended", "_law_longer", "_law_seen", "_law_field", "_law_reference", "_law_other"]
theorem sc__law_paths : FnScope N__law_paths ["_law_heap_here", "_law_start", "_law_number"] (defScope s__law_paths) := ⟨rfl, rfl, rfl, by decide +kernel, rfl, by decide +kernel, by decide +kernel⟩
abbrev s_law : Stmt := topS 11
abbrev N_law : List Str := ["_law_script", "_law_box", "_law_turn", "_law_heap_here", "_law_start", "_law_k", "_law_given", "_law_number", "_law_due", "_law_told", "_law_reference"]
theorem sc_law : FnScope N_law ["_law_script"] (defScope s_law) := ⟨rfl, rfl, rfl, by decide +kernel, rfl, by decide +kernel, by decide +kernel⟩
def cs_OBJECT : Str := "object"
structure Txt (K : PySem.W.Frag) (mg : Str → Option Value) : Prop where
  n_int : mg "int" = none
  n_len : mg "len" = none
  n_list : mg "list" = none
  n_max : mg "max" = none
  n_range : mg "range" = none
  n_repr : mg "repr" = none
  n_sorted : mg "sorted" = none
  n_tuple : mg "tuple" = none
  c_OBJECT : CoS mg "OBJECT" cs_OBJECT
  d__object_ids : DefAt K mg "_object_ids" s__object_ids
  d_shortest_path : DefAt K mg "shortest_path" s_shortest_path
  d__law_cell : DefAt K mg "_law_cell" s__law_cell
  d__law_digits : DefAt K mg "_law_digits" s__law_digits
  d__law_draw : DefAt K mg "_law_draw" s__law_draw
  d__law_alike : DefAt K mg "_law_alike" s__law_alike
  d__law_heap : DefAt K mg "_law_heap" s__law_heap
  d__law_paths : DefAt K mg "_law_paths" s__law_paths
  d_law : DefAt K mg "law" s_law
end
section
open PySem PySem.Spec PyProof.Rows L2
variable {P : Program} {w : World} {K : PySem.W.Frag} {mg : Str → Option Value} {base : Heap}
/-! ### the draws of a law -/
def sp__law_cell (K : PySem.W.Frag) : Sp := SpOf (fun ((a, _, i) : Addr × List Int × Int) => [.ref a, .int i]) fun (a, ns, i) H Q => SqL K H a (ns.map V.int) ∧ 0 ≤ i ∧ ∀ v, Q (.int v) H
set_option maxHeartbeats 4000000 in
theorem ok__law_cell (T : Txt K mg) : DefOk P w K mg base "_law_cell" 1 ["_law_script", "_law_k"] (sp__law_cell K) := by
  refine DefOk.mk' T.d__law_cell sc__law_cell (fun _ _ _ _ _ _ us hl => match us, hl with | [_, _], _ => rfl) (fun _ => rfl) (fun cdv f A outer s H p Q E hr h => ?_)
  obtain ⟨a, ns, i⟩ := p
  obtain ⟨hS, hi, k⟩ := h
  refine ⟨_, (pss_cons (ps_if (pt_cmpR op_lt (pv 1) (pe_callB (call_lenK (K := K)) (by rfl) T.n_len (by decide +kernel) (pa_cons (pv 0) pa_nil)) (nomark _))
    (pss_one (ps_ret (pe_ix (ix_listK (K := K)) (pv 0) (pv 1) (fun _ _ => rfl))))
    pss_nil)
    (pss_one (ps_ret pe_int))), ?_⟩
  refine ⟨_, rfl, .ref a, rfl, a, _, rfl, .inl hS, _, _, rfl, rfl, _, rfl, ite2 (fun h => ?_) (fun h => ?_)⟩
  · have h : i < ((ns.map V.int).length : Int) := of_decide_eq_true h
    rw [List.length_map] at h
    obtain ⟨j, rfl⟩ : ∃ j : Nat, i = (j : Int) := ⟨i.toNat, by omega⟩
    have hj : j < ns.length := by omega
    refine ⟨_, rfl, _, rfl, a, _, _, .int ns[j], rfl, rfl, hS, atI_nat ?_, k _⟩
    rw [List.getElem?_map, List.getElem?_eq_getElem hj]
    rfl
  · exact k _
def sp__law_digits (K : PySem.W.Frag) : Sp := SpOf (fun ((a, _, lo, hi) : Addr × List Int × Int × Int) => [.ref a, .int lo, .int hi]) fun (a, ns, lo, hi) H Q =>
  SqL K H a (ns.map V.int) ∧ 0 ≤ lo ∧ lo ≤ hi ∧ hi ≤ 1000 ∧ ∀ (l : Addr) (ds : List Int), H l = none → ds.length ≤ 60 * (hi - lo).toNat → Q (.ref l) (upd H l (.lst (ds.map V.int)))
set_option maxHeartbeats 4000000 in
theorem ok__law_digits (T : Txt K mg) : DefOk P w K mg base "_law_digits" 2 ["_law_script", "_law_first", "_law_last"] (sp__law_digits K) := by
  have G__law_cell := ok__law_cell (P := P) (w := w) (base := base) T
  refine DefOk.mk' T.d__law_digits sc__law_digits (fun _ _ _ _ _ _ us hl => match us, hl with | [_, _, _], _ => rfl) (fun _ => rfl) (fun cdv f A outer s H p Q E hr h => ?_)
  obtain ⟨a, ns, lo, hi⟩ := p
  obtain ⟨hS, h0, h1, h2, k⟩ := h
  refine ⟨_, (pss_cons (ps_set (i := 3) sc__law_digits.nd rfl (.inl rfl) (pe_lst pa_nil))
    (pss_cons (ps_for PassesOwn.never rfl (pi_range2 rfl T.n_range (pa_cons (pv 1) (pa_cons (pv 2) pa_nil))) (pg_name (i := 4) sc__law_digits.nd rfl (.inl rfl))
    (pss_cons (ps_set (i := 5) sc__law_digits.nd rfl (.inl rfl) (pe_callD G__law_cell (hr.mono (by decide)) rfl (pa_cons (pv 0) (pa_cons (pv 4) pa_nil))))
    (C8.pss_cut (ps_if (pt_cmpR op_lt (pv 5) pe_int (nomark _))
    (pss_one (ps_set (i := 5) sc__law_digits.nd rfl (.inl rfl) (pe_op op_sub pe_int (pe_op op_mul pe_int (pv 5)))))
    pss_nil)
    (pss_one (ps_if (pt_cmpR op_ge (pv 5) pe_int (nomark _))
    (pss_one (ps_for PassesOwn.never rfl (pi_range1 rfl T.n_range (pa_cons pe_int pa_nil)) (pg_name (i := 6) sc__law_digits.nd rfl (.inl rfl))
    (pss_one (ps_if (pt_cmpR op_gt (pv 5) pe_int (nomark _))
    (pss_cons (ps_expr (bmK (K := K) (pe_bm PySem.F.plainAttrs_list PySem.F.slot_list_append PySem.F.type_list_append mt_append (pv 3) (pa_cons (pe_op op_modN (pe_callTy call_int1 (by rfl) T.n_int (by decide +kernel) (pa_cons (pv 5) pa_nil)) pe_int) pa_nil))))
    (pss_one (ps_set (i := 5) sc__law_digits.nd rfl (.inl rfl) (pe_op op_fdivN (pv 5) pe_int))))
    pss_nil))))
    (pss_cons (ps_set (i := 7) sc__law_digits.nd rfl (.inl rfl) (pe_op op_modN (pe_callTy call_int1 (by rfl) T.n_int (by decide +kernel) (pa_cons (pe_op op_add (pe_op op_add (pe_op op_mul (pv 5) pe_int) (pe_op op_mul (pv 4) pe_int)) pe_int) pa_nil)) pe_int))
    (pss_one (ps_for PassesOwn.never rfl (pi_range1 rfl T.n_range (pa_cons pe_int pa_nil)) (pg_name (i := 6) sc__law_digits.nd rfl (.inl rfl))
    (pss_cons (ps_set (i := 7) sc__law_digits.nd rfl (.inl rfl) (pe_op op_modN (pe_callTy call_int1 (by rfl) T.n_int (by decide +kernel) (pa_cons (pe_op op_add (pe_op op_add (pe_op op_mul (pv 7) pe_int) (pe_op op_mul pe_int (pv 6))) pe_int) pa_nil)) pe_int))
    (pss_one (ps_expr (bmK (K := K) (pe_bm PySem.F.plainAttrs_list PySem.F.slot_list_append PySem.F.type_list_append mt_append (pv 3) (pa_cons (pe_op op_modN (pe_callTy call_int1 (by rfl) T.n_int (by decide +kernel) (pa_cons (pe_op op_fdivN (pv 7) pe_int) pa_nil)) pe_int) pa_nil))))))))))))))
    (pss_one (ps_ret (pv 3))))), ?_⟩
  refine ⟨Nat.zero_le _, fun o no => ?_⟩
  have hSo : ∀ ds : List Int, SqL K (upd H o (.lst (ds.map V.int))) a (ns.map V.int) := fun ds => (Fr.same (Fr.new no)).seq hS
  refine ⟨_, rfl, _, rfl, _, _, rfl, ⟨by omega, by omega, by omega, by omega⟩, for_range (lo := lo) (n := (hi - lo).toNat)
    (fun i σ H' => ∃ (ds : List Int) (v4 v5 v6 v7 : Option V), σ = [some (.ref a), some (.int lo), some (.int hi), some (.ref o), v4, v5, v6, v7] ∧ ds.length ≤ 60 * i ∧ H' = upd H o (.lst (ds.map V.int)))
    ⟨[], none, none, none, none, rfl, Nat.le_refl _, rfl⟩ ?_ ?_⟩
  · rintro i σ H' hi' ⟨ds, v4, v5, v6, v7, rfl, hl, rfl⟩
    refine ⟨_, rfl, _, rfl, (a, ns, lo + i), rfl, hSo ds, by show 0 ≤ lo + (i : Int); omega, fun c => ?_⟩
    refine ⟨fun σ H' => ∃ z, σ = [some (.ref a), some (.int lo), some (.int hi), some (.ref o), some (.int (lo + i)), some (.int z), v6, v7] ∧ H' = upd H o (.lst (ds.map V.int)), ?_, ?_⟩
    · refine ⟨_, rfl, _, _, rfl, rfl, _, rfl, ite2 (fun _ => ?_) (fun _ => ⟨c, rfl, rfl⟩)⟩
      exact ⟨_, rfl, _, _, rfl, rfl, .inl ⟨by decide, by decide⟩, _, _, rfl, rfl, _, rfl, rfl⟩
    · rintro σ H' ⟨z, rfl, rfl⟩
      refine ⟨_, rfl, _, _, rfl, rfl, _, rfl, ite2 (fun _ => ?_) (fun _ => ?_)⟩
      · refine ⟨60, rfl, by decide, by decide, for_range (lo := 0) (n := 60)
          (fun j σ H' => ∃ (ds' : List Int) (z : Int) (v6 : Option V), σ = [some (.ref a), some (.int lo), some (.int hi), some (.ref o), some (.int (lo + i)), some (.int z), v6, v7] ∧ ds'.length ≤ 60 * i + j ∧ H' = upd H o (.lst (ds'.map V.int)))
          ⟨ds, z, _, rfl, hl, rfl⟩ ?_ fun σ H' ⟨ds', z, v6, e, hl', e'⟩ => ⟨ds', _, _, _, _, e, by omega, e'⟩⟩
        rintro j σ H' hj ⟨ds', z, v6, rfl, hl', rfl⟩
        refine ⟨_, rfl, _, _, rfl, rfl, _, rfl, ite2 (fun _ => ?_) (fun _ => ⟨ds', z, _, rfl, by omega, rfl⟩)⟩
        refine ⟨_, rfl, .inl ⟨rfl, _, SqL.of upd_same⟩, _, rfl, .inl ⟨_, rfl, _, _, rfl, rfl, (by show (1000 : Int) ≠ 0; decide), o, _, _, rfl, rfl, upd_same, ?_, _, rfl, _, _, rfl, rfl, ⟨by decide, by decide⟩, ?_⟩⟩
        · rw [List.length_map]
          exact small100k (by omega)
        · refine ⟨_, _, _, rfl, ?_, upd_snocI⟩
          rw [List.length_append]
          show ds'.length + 1 ≤ _
          omega
      · refine ⟨_, rfl, _, _, rfl, rfl, .inr ⟨by decide, by decide⟩, _, rfl, _, _, rfl, rfl, .inr ⟨by decide, by decide⟩, _, _, rfl, rfl, _, _, rfl, rfl, .inl ⟨_, rfl, _, _, rfl, rfl, (by show (2147483399 : Int) ≠ 0; decide), ?_⟩⟩
        refine ⟨12, rfl, by decide, by decide, for_range (lo := 0) (n := 12)
          (fun j σ H' => ∃ (ds' : List Int) (y : Int) (v6 : Option V), σ = [some (.ref a), some (.int lo), some (.int hi), some (.ref o), some (.int (lo + i)), some (.int z), v6, some (.int y)] ∧ ds'.length ≤ 60 * i + j ∧ H' = upd H o (.lst (ds'.map V.int)))
          ⟨ds, _, _, rfl, hl, rfl⟩ ?_ fun σ H' ⟨ds', y, v6, e, hl', e'⟩ => ⟨ds', _, _, _, _, e, by omega, e'⟩⟩
        rintro j σ H' hj ⟨ds', y, v6, rfl, hl', rfl⟩
        refine ⟨_, rfl, _, _, rfl, rfl, .inr ⟨by decide, by decide⟩, _, rfl, _, _, rfl, rfl, .inl ⟨by decide, by decide⟩, _, _, rfl, rfl, _, _, rfl, rfl, .inl ⟨_, rfl, _, _, rfl, rfl, (by show (2147483563 : Int) ≠ 0; decide), ?_⟩⟩
        refine ⟨_, rfl, .inl ⟨rfl, _, SqL.of upd_same⟩, _, rfl, _, _, rfl, rfl, ⟨by decide, by decide⟩, .inl ⟨_, rfl, _, _, rfl, rfl, (by show (1000 : Int) ≠ 0; decide), o, _, _, rfl, rfl, upd_same, ?_, ?_⟩⟩
        · rw [List.length_map]
          exact small100k (by omega)
        · refine ⟨_, _, _, rfl, ?_, upd_snocI⟩
          rw [List.length_append]
          show ds'.length + 1 ≤ _
          omega
  · rintro σ H' ⟨ds, v4, v5, v6, v7, rfl, hl, rfl⟩
    exact ⟨_, rfl, k o ds no hl⟩


/-! the box of the draws: its digits, and how many were drawn -/
def BoxAt (H : Hp) (b l : Addr) : Prop := ∃ (ds : List Int) (at_ : Int), H b = some (.lst [.ref l, .int at_]) ∧ H l = some (.lst (ds.map V.int)) ∧ 0 ≤ at_ ∧ l ≠ b
theorem BoxAt.fr {W : List Addr} {H H' : Hp} {b l : Addr} (B : BoxAt H b l) (f : Fr W H H') (hb : b ∉ W) (hl : l ∉ W) : BoxAt H' b l := by
  obtain ⟨ds, z, h1, h2, h3, h4⟩ := B
  exact ⟨ds, z, f _ _ hb h1, f _ _ hl h2, h3, h4⟩
theorem BoxAt.same {H H' : Hp} {b l : Addr} (B : BoxAt H b l) (f : Same H H') : BoxAt H' b l := B.fr (W := []) (Fr.of f) (by simp) (by simp)
theorem BoxAt.new {H : Hp} {b l p : Addr} {u : HO} (B : BoxAt H b l) (hp : H p = none) : BoxAt (upd H p u) b l := B.same fun a o e => nw hp e
theorem BoxAt.ne {H : Hp} {b l p : Addr} (B : BoxAt H b l) (hp : H p = none) : b ≠ p ∧ l ≠ p := by
  obtain ⟨ds, z, h1, h2, h3, h4⟩ := B
  exact ⟨fun e => (by rw [e, hp] at h1; cases h1), fun e => (by rw [e, hp] at h2; cases h2)⟩
theorem BoxAt.put {H : Hp} {b l p : Addr} {u : HO} (B : BoxAt H b l) (hp : b ≠ p ∧ l ≠ p) : BoxAt (upd H p u) b l := B.fr (W := [p]) (Fr.upd List.mem_cons_self) (by simp [hp.1]) (by simp [hp.2])
def sp__law_draw (K : PySem.W.Frag) : Sp := SpOf (fun ((b, _, m) : Addr × Addr × Int) => [.ref b, .int m]) fun (b, l, m) H Q =>
  BoxAt H b l ∧ 0 < m ∧ ∀ (r : Int) (H' : Hp), 0 ≤ r → r < m → BoxAt H' b l → Fr [b] H H' → Q (.int r) H'
set_option maxHeartbeats 4000000 in
theorem ok__law_draw (T : Txt K mg) : DefOk P w K mg base "_law_draw" 1 ["_law_box", "_law_many"] (sp__law_draw K) := by
  refine DefOk.mk' T.d__law_draw sc__law_draw (fun _ _ _ _ _ _ us hl => match us, hl with | [_, _], _ => rfl) (fun _ => rfl) (fun cdv f A outer s H p Q E hr h => ?_)
  obtain ⟨b, l, m⟩ := p
  obtain ⟨⟨ds, z, hb, hl, hz, ne⟩, hm, k⟩ := h
  refine ⟨_, (pss_cons (ps_set (i := 2) sc__law_draw.nd rfl (.inl rfl) (pe_ix (ix_listK (K := K)) (pv 0) pe_int (fun _ _ => rfl)))
    (pss_cons (ps_asg (pe_op op_add (pv 2) pe_int) (pg_sub (pv 0) pe_int set_list))
    (pss_cons (ps_if (pt_cmpR op_lt (pv 2) (pe_callB (call_lenK (K := K)) (by rfl) T.n_len (by decide +kernel) (pa_cons (pe_ix (ix_listK (K := K)) (pv 0) pe_int (fun _ _ => rfl)) pa_nil)) (nomark _))
    (pss_one (ps_ret (pe_op op_modN (pe_callTy call_int1 (by rfl) T.n_int (by decide +kernel) (pa_cons (pe_ix (ix_listK (K := K)) (pe_ix (ix_listK (K := K)) (pv 0) pe_int (fun _ _ => rfl)) (pv 2) (fun _ _ => rfl)) pa_nil)) (pv 1))))
    pss_nil)
    (pss_one (ps_ret (pe_op op_modN (pe_callTy call_int1 (by rfl) T.n_int (by decide +kernel) (pa_cons (pe_op op_add (pe_op op_mul (pv 2) pe_int) pe_int) pa_nil)) (pv 1))))))), ?_⟩
  have B' : BoxAt (upd H b (.lst [.ref l, .int (z + 1)])) b l := ⟨ds, z + 1, upd_same, by rw [upd_ne ne]; exact hl, by omega, ne⟩
  have f' : Fr [b] H (upd H b (.lst [.ref l, .int (z + 1)])) := Fr.upd List.mem_cons_self
  have hl2 : SqL K (upd H b (.lst [.ref l, .int (z + 1)])) l (ds.map V.int) := SqL.of (by rw [upd_ne ne]; exact hl)
  refine ⟨_, rfl, b, _, 1, .int z, rfl, rfl, SqL.of hb, rfl, _, rfl, _, _, rfl, rfl, _, rfl, b, _, 1, 1, rfl, rfl, hb, rfl, ?_⟩
  refine ⟨_, rfl, _, rfl, b, _, 0, .ref l, rfl, rfl, SqL.of upd_same, rfl, l, _, rfl, .inl hl2, _, _, rfl, rfl, _, rfl, ite2 (fun h => ?_) (fun _ => ?_)⟩
  · have h : z < ((ds.map V.int).length : Int) := of_decide_eq_true h
    rw [List.length_map] at h
    obtain ⟨j, rfl⟩ : ∃ j : Nat, z = (j : Int) := ⟨z.toNat, by omega⟩
    have hj : j < ds.length := by omega
    refine ⟨_, rfl, b, _, 0, .ref l, rfl, rfl, SqL.of upd_same, rfl, _, rfl, l, _, _, .int ds[j], rfl, rfl, hl2, atI_nat (by rw [List.getElem?_map, List.getElem?_eq_getElem hj]; rfl), .inl ⟨_, rfl, _, rfl, _, _, rfl, rfl, (by show m ≠ 0; omega), ?_⟩⟩
    exact k _ _ (Int.fmod_nonneg_of_pos _ hm) (Int.fmod_lt_of_pos _ hm) B' f'
  · refine ⟨_, rfl, _, _, rfl, rfl, .inr ⟨by decide, by decide⟩, _, _, rfl, rfl, .inl ⟨_, rfl, _, rfl, _, _, rfl, rfl, (by show m ≠ 0; omega), ?_⟩⟩
    exact k _ _ (Int.fmod_nonneg_of_pos _ hm) (Int.fmod_lt_of_pos _ hm) B' f'

end
section
open PySem PySem.Spec PyProof.Rows L2
variable {P : Program} {w : World} {K : PySem.W.Frag} {mg : Str → Option Value} {base : Heap}
/-! ### walks through a heap, the least shortest ones -/
inductive Wk (h : HeapM) (st : List (Option Rf)) : Nat → List Int → Int → Prop
  | base {v : Int} : some (.obj v) ∈ st → Wk h st 0 [v] v
  | step {n : Nat} {p : List Int} {u v : Int} : Wk h st n p u → some (.obj v) ∈ fieldsOf h u → Wk h st (n + 1) (p ++ [v]) v
def Dst (h : HeapM) (st : List (Option Rf)) (n : Nat) (v : Int) : Prop := (∃ p, Wk h st n p v) ∧ ∀ m, m < n → ∀ p, ¬ Wk h st m p v
def Bst (h : HeapM) (st : List (Option Rf)) (n : Nat) (p : List Int) (v : Int) : Prop := Wk h st n p v ∧ ∀ q, Wk h st n q v → p ≤ q
section
variable {h : HeapM} {st : List (Option Rf)}
theorem Wk.len {n : Nat} {p : List Int} {v : Int} (w : Wk h st n p v) : p.length = n + 1 := by
  induction w with
  | base _ => rfl
  | step _ _ ih => rw [List.length_append, ih]; rfl
theorem Wk.last {n : Nat} {p : List Int} {v : Int} (w : Wk h st n p v) : p.getLast? = some v := by
  cases w with
  | base _ => rfl
  | step _ _ => rw [List.getLast?_append]; rfl
theorem Wk.ends {n m : Nat} {p : List Int} {u v : Int} (w : Wk h st n p u) (w' : Wk h st m p v) : n = m ∧ u = v := by
  have h1 := w.len
  have h2 := w'.len
  have h3 := w.last
  rw [w'.last] at h3
  exact ⟨by omega, (Option.some.inj h3).symm⟩
theorem Wk.there {n : Nat} {p : List Int} {v : Int} (V : ValidH h st) (w : Wk h st n p v) : v ∈ h.map (·.1) := by
  cases w with
  | base m => exact V.st _ m
  | step _ m => exact V.fl _ _ m
theorem le_snoc {p q : List Int} {a b : Int} (hl : p.length = q.length) : p ++ [a] ≤ q ++ [b] ↔ p < q ∨ (p = q ∧ a ≤ b) := by
  induction p generalizing q with
  | nil =>
    cases q with
    | nil =>
      simp only [List.nil_append]
      rw [List.cons_le_cons_iff]
      simp
      omega
    | cons c q => cases hl
  | cons c p ih =>
    cases q with
    | nil => cases hl
    | cons d q =>
      have hl : p.length = q.length := by simpa using hl
      rw [List.cons_append, List.cons_append, List.cons_le_cons_iff, ih hl, List.cons_lt_cons_iff]
      constructor
      · rintro (z | ⟨rfl, z | ⟨rfl, z⟩⟩)
        · exact .inl (.inl z)
        · exact .inl (.inr ⟨rfl, z⟩)
        · exact .inr ⟨rfl, z⟩
      · rintro ((z | ⟨rfl, z⟩) | ⟨z, w⟩)
        · exact .inl z
        · exact .inr ⟨rfl, .inl z⟩
        · cases z
          exact .inr ⟨rfl, .inr ⟨rfl, w⟩⟩
theorem le_snocI {p q : List Int} {a : Int} (hl : p.length = q.length) (hle : p ≤ q) : p ++ [a] ≤ q ++ [a] := by
  rw [le_snoc hl]
  by_cases e : p = q
  · exact .inr ⟨e, Int.le_refl _⟩
  · refine .inl ?_
    rcases List.le_iff_lt_or_eq.mp hle with z | z
    · exact z
    · exact absurd z e
theorem Bst.uniq {n : Nat} {p q : List Int} {v : Int} (a : Bst h st n p v) (b : Bst h st n q v) : p = q := List.le_antisymm (a.2 q b.1) (b.2 p a.1)
theorem Dst.uniq {n m : Nat} {v : Int} (a : Dst h st n v) (b : Dst h st m v) : n = m := by
  rcases Nat.lt_trichotomy n m with z | z | z
  · exact absurd a.1.choose_spec (b.2 n z _)
  · exact z
  · exact absurd b.1.choose_spec (a.2 m z _)
theorem dst_of {n : Nat} {p : List Int} {v : Int} (w : Wk h st n p v) : ∃ m, m ≤ n ∧ Dst h st m v := by
  induction n using Nat.strongRecOn generalizing p with
  | ind n ih =>
    by_cases hx : ∃ m, m < n ∧ ∃ q, Wk h st m q v
    · obtain ⟨m, hm, q, wq⟩ := hx
      obtain ⟨k, hk, d⟩ := ih m hm wq
      exact ⟨k, by omega, d⟩
    · exact ⟨n, Nat.le_refl _, ⟨p, w⟩, fun m hm q wq => hx ⟨m, hm, q, wq⟩⟩
/-- what lies before the end of a shortest walk is as near as can be -/
theorem Dst.before {n : Nat} {p : List Int} {u v : Int} (d : Dst h st (n + 1) v) (w : Wk h st n p u) (e : some (.obj v) ∈ fieldsOf h u) : Dst h st n u :=
  ⟨⟨p, w⟩, fun m hm q wq => d.2 (m + 1) (by omega) _ (.step wq e)⟩
/-- the nodes of a walk: how far they are -/
theorem Wk.near {n : Nat} {p : List Int} {v : Int} (w : Wk h st n p v) : ∀ x ∈ p, ∃ m, m ≤ n ∧ ∃ q, Wk h st m q x := by
  induction w with
  | base m => exact fun x hx => by rw [List.mem_singleton.mp hx]; exact ⟨0, Nat.le_refl _, _, .base m⟩
  | @step n p u v w e ih =>
    intro x hx
    rcases List.mem_append.mp hx with hx | hx
    · obtain ⟨m, hm, q⟩ := ih x hx
      exact ⟨m, by omega, q⟩
    · rw [List.mem_singleton.mp hx]
      exact ⟨n + 1, Nat.le_refl _, _, .step w e⟩
theorem Dst.fresh {n : Nat} {p : List Int} {u v : Int} (d : Dst h st (n + 1) v) (w : Wk h st n p u) : v ∉ p := fun m => by
  obtain ⟨k, hk, q, wq⟩ := w.near v m
  exact d.2 k (by omega) q wq
/-- a shortest walk has no node twice, so it is short -/
theorem Dst.short (V : ValidH h st) : ∀ {n : Nat} {v : Int}, Dst h st n v → n < h.length := by
  have key : ∀ (n : Nat) (v : Int), Dst h st n v → ∃ p, Wk h st n p v ∧ p.Nodup ∧ ∀ x ∈ p, x ∈ h.map (·.1) := fun n => by
    induction n with
    | zero =>
      rintro v ⟨⟨p, w⟩, _⟩
      cases w with
      | base m => exact ⟨_, .base m, by simp, fun x hx => by rw [List.mem_singleton.mp hx]; exact V.st _ m⟩
    | succ n ih =>
      intro v d
      obtain ⟨p, w⟩ := d.1
      cases w with
      | @step _ p u _ w e =>
        obtain ⟨q, wq, nd, hq⟩ := ih u (d.before w e)
        refine ⟨_, .step wq e, ?_, fun x hx => ?_⟩
        · rw [List.nodup_append]
          exact ⟨nd, by simp, fun a ha b hb => by rw [List.mem_singleton.mp hb]; exact fun z => d.fresh wq (by rw [← z]; exact ha)⟩
        · rcases List.mem_append.mp hx with hx | hx
          · exact hq x hx
          · rw [List.mem_singleton.mp hx]
            exact V.fl _ _ e
  intro n v d
  obtain ⟨p, w, nd, hp⟩ := key n v d
  have h1 := nodup_le nd hp
  rw [List.length_map, w.len] at h1
  omega
/-- a level: for each object that is so far one least walk -/
def Lev (h : HeapM) (st : List (Option Rf)) (n : Nat) (R : List (List Int)) : Prop := ∀ v, Dst h st n v → ∃ p ∈ R, Bst h st n p v
/-- the next level: the candidates stand sorted, the first of each end is taken -/
theorem lev_next {n : Nat} {R C S : List (List Int)} (L : Lev h st n R) (sound : ∀ r ∈ C, ∃ v, Wk h st (n + 1) r v) (full : ∀ p ∈ R, ∀ u v, Wk h st n p u → Dst h st (n + 1) v → some (.obj v) ∈ fieldsOf h u → p ++ [v] ∈ C)
    (sub : ∀ s ∈ S, s ∈ C) (first : ∀ r ∈ C, ∀ v, r.getLast? = some v → Dst h st (n + 1) v → ∃ s ∈ S, s.getLast? = some v ∧ s ≤ r) (uniq : ∀ s ∈ S, ∀ t ∈ S, s.getLast? = t.getLast? → s = t) : Lev h st (n + 1) S := by
  intro v d
  obtain ⟨p, w⟩ := d.1
  have cand : ∀ q, Wk h st (n + 1) q v → ∃ c ∈ C, c.getLast? = some v ∧ c ≤ q := fun q wq => by
    cases wq with
    | @step _ q u _ w e =>
      obtain ⟨b, hb, B⟩ := L u (d.before w e)
      exact ⟨b ++ [v], full b hb u v B.1 d e, by rw [List.getLast?_append]; rfl, le_snocI (by rw [B.1.len, w.len]) (B.2 _ w)⟩
  obtain ⟨c, hc, cl, _⟩ := cand p w
  obtain ⟨s, hs, sl, _⟩ := first c hc v cl d
  refine ⟨s, hs, ?_, fun q wq => ?_⟩
  · obtain ⟨v', ws⟩ := sound s (sub s hs)
    have e := ws.last
    rw [sl] at e
    cases e
    exact ws
  · obtain ⟨c', hc', cl', le'⟩ := cand q wq
    obtain ⟨s', hs', sl', sle⟩ := first c' hc' v cl' d
    rw [← uniq s hs s' hs' (sl.trans sl'.symm)] at sle
    exact List.le_trans sle le'
end
/-- what shortest_path tells -/
def PathTo (h : HeapM) (st : List (Option Rf)) (v : Int) : Option (List Int) → Prop
  | none => ∀ n p, ¬ Wk h st n p v
  | some p => ∃ n, Dst h st n v ∧ Bst h st n p v
theorem PathTo.uniq {h : HeapM} {st : List (Option Rf)} {v : Int} : ∀ {a b : Option (List Int)}, PathTo h st v a → PathTo h st v b → a = b
  | none, none, _, _ => rfl
  | none, some _, x, ⟨n, _, B⟩ => absurd B.1 (x _ _)
  | some _, none, ⟨n, _, B⟩, x => absurd B.1 (x _ _)
  | some p, some q, ⟨n, d, B⟩, ⟨m, d', B'⟩ => by
    have e := d.uniq d'
    subst e
    rw [B.uniq B']

end
section
open PySem PySem.Spec PyProof.Rows L2
variable {P : Program} {w : World} {K : PySem.W.Frag} {mg : Str → Option Value} {base : Heap}
def sp__object_ids (K : PySem.W.Frag) : Sp := SpOf (fun ((a, _, _) : Addr × List V × List (Option Rf)) => [.ref a]) fun (a, vs, rs) H Q =>
  (SqL K H a vs ∨ SqT K H a vs) ∧ Paired (RfV H) vs rs ∧ vs.length ≤ 1000 ∧
  ∀ (l : Addr) (ids : List Int) (H' : Hp), Same H H' → H l = none → H' l = some (.lst (ids.map V.int)) → ids.Pairwise ltI → ids.length ≤ vs.length → (∀ i, i ∈ ids ↔ some (Rf.obj i) ∈ rs) → Q (.ref l) H'
set_option maxHeartbeats 4000000 in
theorem ok__object_ids (T : Txt K mg) : DefOk P w K mg base "_object_ids" 1 ["references"] (sp__object_ids K) := by
  refine DefOk.mk' T.d__object_ids sc__object_ids (fun _ _ _ _ _ _ us hl => match us, hl with | [_], _ => rfl) (fun _ => rfl) (fun cdv f A outer s H p Q E hr h => ?_)
  obtain ⟨a, vs, rs⟩ := p
  obtain ⟨hS, hP, hl, k⟩ := h
  refine ⟨_, (pss_cons (ps_set (i := 1) sc__object_ids.nd rfl (.inl rfl) pe_dnewK)
    (pss_cons (ps_for PassesOwn.never rfl (iseqK (K := K) (pv 0)) (pg_name (i := 2) sc__object_ids.nd rfl (.inl rfl))
    (pss_one (ps_if (PW.pt (pw_and (pt_cmpR op_notN (pv 2) pe_non (nomark _)) (pw_and1 (pt_cmpR op_eq (pe_ix (ix_tupK (K := K)) (pv 2) pe_int (fun _ _ => rfl)) (pe_coS T.c_OBJECT rfl) (nomark _)))))
    (pss_one (ps_dput hr.hu (pv 1) (pe_ix (ix_tupK (K := K)) (pv 2) pe_int (fun _ _ => rfl)) pe_bl rfl))
    pss_nil)))
    (pss_one (ps_ret (pe_callB (cr_sortDI rfl) (by rfl) T.n_sorted (by decide +kernel) (pa_cons (pv 1) pa_nil)))))), ?_⟩
  intro o no
  have s0 : Same H (upd H o (.dK [])) := nws no (Same.refl H)
  refine ⟨_, rfl, a, rfl, for_seq hS (fun i σ H' => ∃ (v2 : Option V) (os : List Int), σ = [some (.ref a), some (.ref o), v2] ∧ Same H H' ∧ H' o = some (setI os) ∧ os.Nodup ∧ os.length ≤ i ∧ ∀ j, j ∈ os ↔ some (Rf.obj j) ∈ rs.take i)
    ⟨none, [], rfl, s0, upd_same, List.nodup_nil, Nat.le_refl _, fun j => by simp⟩ (fun i σ H' ⟨_, _, _, s, _⟩ => s) ?_ ?_⟩
  · rintro i x σ H' hx ⟨v2, os, rfl, s, ho, nd, hle, hm⟩
    obtain ⟨r, hr, rx⟩ := pairedGet hP hx
    have et : ∀ z, z ∈ rs.take (i + 1) ↔ z ∈ rs.take i ∨ z = r := fun z => by
      rw [List.take_add_one, hr, List.mem_append]
      simp
    have hil : i < vs.length := (List.getElem?_eq_some_iff.mp hx).1
    have skip : ∀ v2', (∀ j, r ≠ some (Rf.obj j)) → ∃ (v2 : Option V) (os' : List Int), [some (.ref a), some (.ref o), v2'] = [some (V.ref a), some (.ref o), v2] ∧ Same H H' ∧ H' o = some (setI os') ∧ os'.Nodup ∧ os'.length ≤ i + 1 ∧ ∀ j, j ∈ os' ↔ some (Rf.obj j) ∈ rs.take (i + 1) := fun v2' hn =>
      ⟨v2', os, rfl, s, ho, nd, by omega, fun j => by rw [hm, et]; exact ⟨.inl, fun z => z.elim id fun e => absurd e.symm (hn j)⟩⟩
    rcases rx.non_or with ⟨rfl, rfl⟩ | ⟨j, t, rfl, rfl, ht⟩ | ⟨p, e, t, rfl, rfl, ht⟩
    · exact ⟨_, rfl, rfl, _, rfl, ite2 (fun h => absurd h (by decide)) (fun _ => ite2 (fun h => nomatch h) fun _ => skip _ fun j e => nomatch e)⟩
    · refine ⟨_, rfl, rfl, _, rfl, ite2 (fun _ => ?_) (fun h => absurd rfl h)⟩
      refine ⟨_, rfl, t, _, 0, _, rfl, rfl, SqT.of (s _ _ ht), rfl, rfl, _, rfl, ite2 (fun _ => ?_) (fun h => absurd rfl h)⟩
      refine ⟨_, rfl, _, rfl, t, _, 1, _, rfl, rfl, SqT.of (s _ _ ht), rfl, o, _, rfl, DPut.k (k := .inl j) ho (by rw [List.length_map, List.length_map]; exact small1000 (by omega)), ?_⟩
      by_cases hj : j ∈ os
      · rw [putK_setOld (inl_mem.mpr hj)]
        refine ⟨some (.ref t), os, rfl, same_mut s no, upd_same, nd, by omega, fun i' => ?_⟩
        rw [hm, et]
        exact ⟨.inl, fun z => z.elim id fun e => by cases e; exact (hm _).mp hj⟩
      · rw [putK_setNew (fun m => hj (inl_mem.mp m)), ← show (os ++ [j]).map (Sum.inl : Int → Key) = os.map Sum.inl ++ [Sum.inl j] by rw [List.map_append]; rfl]
        refine ⟨some (.ref t), os ++ [j], rfl, same_mut s no, upd_same, ?_, by rw [List.length_append, List.length_singleton]; omega, fun i' => ?_⟩
        · rw [List.nodup_append]
          exact ⟨nd, by simp, fun a ha b hb => by rw [List.mem_singleton.mp hb]; exact fun q => hj (by rw [← q]; exact ha)⟩
        · rw [List.mem_append, hm, et, List.mem_singleton]
          exact ⟨fun z => z.imp id fun e => by rw [e], fun z => z.imp id fun e => by cases e; rfl⟩
    · refine ⟨_, rfl, rfl, _, rfl, ite2 (fun _ => ?_) (fun h => absurd rfl h)⟩
      refine ⟨_, rfl, t, _, 0, _, rfl, rfl, SqT.of (s _ _ ht), rfl, rfl, _, rfl, ite2 (fun h => absurd h (by decide)) (fun _ => skip _ fun j e => nomatch e)⟩
  · rintro σ H' ⟨v2, os, rfl, s, ho, nd, hle, hm⟩
    refine ⟨_, rfl, o, _, os, rfl, .inl ho, by rw [List.map_map]; exact List.map_id _, fun ys p1 y1 y2 np1 => ?_⟩
    rw [Paired.length hP, List.take_length] at hm
    refine k p1 ys _ (nws np1 s) (s.free np1) upd_same ?_ (by rw [y1.length_eq]; exact hle) fun i => y1.mem_iff.trans (hm i)
    refine (List.Pairwise.and y2 (y1.nodup_iff.mpr nd)).imp fun {x y} ⟨h1, h2⟩ => ?_
    show x < y
    omega

end
section
open PySem PySem.Spec PyProof.Rows L2
variable {P : Program} {w : World} {K : PySem.W.Frag} {mg : Str → Option Value} {base : Heap}
/-! ### level by level -/
structure Nx (ks : List Int) (Cd S : List (List Int)) (kn : List Int) : Prop where
  sub : ∀ s ∈ S, s ∈ Cd
  first : ∀ r ∈ Cd, ∀ v, r.getLast? = some v → v ∉ ks → ∃ s ∈ S, s.getLast? = some v ∧ s ≤ r
  uniq : ∀ s ∈ S, ∀ t ∈ S, s.getLast? = t.getLast? → s = t
  kk : ∀ i, i ∈ kn ↔ i ∈ ks ∨ ∃ s ∈ S, s.getLast? = some i
  new : ∀ s ∈ S, ∀ v, s.getLast? = some v → v ∉ ks
  so : S.Pairwise (fun a b => a < b)
  nd : kn.Nodup
theorem Nx.start {ks : List Int} (h : ks.Nodup) : Nx ks [] [] ks :=
  ⟨fun _ m => (nomatch m), (fun _ m => nomatch m), (fun _ m => nomatch m), fun i => by simp, (fun _ m => nomatch m), List.Pairwise.nil, h⟩
theorem Nx.old {ks : List Int} {Cd S : List (List Int)} {kn : List Int} {r : List Int} {v : Int} (N : Nx ks Cd S kn) (hr : r.getLast? = some v) (hle : ∀ c ∈ Cd, c ≤ r) (hk : v ∈ kn) : Nx ks (Cd ++ [r]) S kn :=
  ⟨fun s m => List.mem_append_left _ (N.sub s m), fun q m u hu hn => by
    rcases List.mem_append.mp m with m | m
    · exact N.first q m u hu hn
    · rw [List.mem_singleton.mp m] at hu ⊢
      rw [hr] at hu
      cases hu
      rcases (N.kk v).mp hk with z | ⟨s, hs, e⟩
      · exact absurd z hn
      · exact ⟨s, hs, e, hle s (N.sub s hs)⟩, N.uniq, N.kk, N.new, N.so, N.nd⟩
theorem Nx.add {ks : List Int} {Cd S : List (List Int)} {kn : List Int} {r : List Int} {v : Int} (N : Nx ks Cd S kn) (hr : r.getLast? = some v) (hle : ∀ c ∈ Cd, c ≤ r) (hk : v ∉ kn) : Nx ks (Cd ++ [r]) (S ++ [r]) (kn ++ [v]) := by
  have ns : ∀ s ∈ S, s.getLast? ≠ some v := fun s hs e => hk ((N.kk v).mpr (.inr ⟨s, hs, e⟩))
  refine ⟨fun s m => ?_, fun q m u hu hn => ?_, fun s hs t ht e => ?_, fun i => ?_, fun s m u hu => ?_, ?_, ?_⟩
  · rcases List.mem_append.mp m with m | m
    · exact List.mem_append_left _ (N.sub s m)
    · exact List.mem_append_right _ m
  · rcases List.mem_append.mp m with m | m
    · obtain ⟨s, hs, e⟩ := N.first q m u hu hn
      exact ⟨s, List.mem_append_left _ hs, e⟩
    · exact ⟨q, List.mem_append_right _ m, hu, List.le_refl _⟩
  · rcases List.mem_append.mp hs with hs | hs
    · rcases List.mem_append.mp ht with ht | ht
      · exact N.uniq s hs t ht e
      · rw [List.mem_singleton.mp ht, hr] at e
        exact absurd e (ns s hs)
    · rcases List.mem_append.mp ht with ht | ht
      · rw [List.mem_singleton.mp hs, hr] at e
        exact absurd e.symm (ns t ht)
      · rw [List.mem_singleton.mp hs, List.mem_singleton.mp ht]
  · rw [List.mem_append, N.kk, List.mem_singleton]
    constructor
    · rintro ((z | ⟨s, hs, e⟩) | z)
      · exact .inl z
      · exact .inr ⟨s, List.mem_append_left _ hs, e⟩
      · exact .inr ⟨r, List.mem_append_right _ List.mem_cons_self, by rw [z]; exact hr⟩
    · rintro (z | ⟨s, hs, e⟩)
      · exact .inl (.inl z)
      · rcases List.mem_append.mp hs with hs | hs
        · exact .inl (.inr ⟨s, hs, e⟩)
        · rw [List.mem_singleton.mp hs, hr] at e
          exact .inr (Option.some.inj e).symm
  · rcases List.mem_append.mp m with m | m
    · exact N.new s m u hu
    · rw [List.mem_singleton.mp m, hr] at hu
      cases hu
      exact fun z => hk ((N.kk v).mpr (.inl z))
  · rw [List.pairwise_append]
    refine ⟨N.so, by simp, fun a ha b hb => ?_⟩
    rw [List.mem_singleton.mp hb]
    rcases List.le_iff_lt_or_eq.mp (hle a (N.sub a ha)) with z | z
    · exact z
    · rw [z] at ha
      exact absurd hr (ns r ha)
  · rw [List.nodup_append]
    exact ⟨N.nd, by simp, fun a ha b hb => by rw [List.mem_singleton.mp hb]; exact fun z => hk (by rw [← z]; exact ha)⟩
section
variable {h : HeapM} {st : List (Option Rf)}
structure LvI (h : HeapM) (st : List (Option Rf)) (n : Nat) (Ps : List (List Int)) (ks : List Int) : Prop where
  b : ∀ p ∈ Ps, ∃ v, Bst h st n p v ∧ Dst h st n v
  l : Lev h st n Ps
  s : Ps.Pairwise (fun a b => a < b)
  k : ∀ i, i ∈ ks ↔ ∃ m, m ≤ n ∧ Dst h st m i
  nd : ks.Nodup
theorem LvI.len (V : ValidH h st) {n : Nat} {Ps : List (List Int)} {ks : List Int} (I : LvI h st n Ps ks) : Ps.length ≤ h.length := by
  have h1 : (Ps.map fun p => p.getLast?.getD 0).Nodup := by
    rw [List.Nodup, List.pairwise_map]
    refine (List.Pairwise.and_mem.mp I.s).imp fun {p q} ⟨hp, hq, lt⟩ e => ?_
    obtain ⟨u, bu, _⟩ := I.b p hp
    obtain ⟨v, bv, _⟩ := I.b q hq
    rw [bu.1.last, bv.1.last] at e
    have e : u = v := e
    subst e
    rw [bu.uniq bv] at lt
    exact List.lt_irrefl _ lt
  have h2 := nodup_le h1 (m := h.map (·.1)) fun x hx => by
    obtain ⟨p, hp, rfl⟩ := List.mem_map.mp hx
    obtain ⟨v, bv, _⟩ := I.b p hp
    rw [bv.1.last]
    exact bv.1.there V
  rwa [List.length_map, List.length_map] at h2
theorem LvI.kn (V : ValidH h st) {n : Nat} {Ps : List (List Int)} {ks : List Int} (I : LvI h st n Ps ks) : ks.length ≤ h.length := by
  have h2 := nodup_le I.nd (m := h.map (·.1)) fun x hx => by
    obtain ⟨m, _, ⟨p, w⟩, _⟩ := (I.k x).mp hx
    exact w.there V
  rwa [List.length_map] at h2
theorem LvI.next {n : Nat} {Ps Cd S : List (List Int)} {ks kn : List Int} (I : LvI h st n Ps ks) (N : Nx ks Cd S kn) (snd : ∀ c ∈ Cd, ∃ p ∈ Ps, ∃ u v, Wk h st n p u ∧ some (Rf.obj v) ∈ fieldsOf h u ∧ c = p ++ [v])
    (ful : ∀ p ∈ Ps, ∀ u v, Wk h st n p u → some (Rf.obj v) ∈ fieldsOf h u → p ++ [v] ∈ Cd) : LvI h st (n + 1) S kn := by
  have far : ∀ {v : Int}, Dst h st (n + 1) v → v ∉ ks := fun d m => by
    obtain ⟨k, hk, d'⟩ := (I.k _).mp m
    have := d.uniq d'
    omega
  have wk : ∀ c ∈ Cd, ∃ v, Wk h st (n + 1) c v := fun c hc => by
    obtain ⟨p, _, u, v, w, e, rfl⟩ := snd c hc
    exact ⟨v, .step w e⟩
  have L : Lev h st (n + 1) S := lev_next (C := Cd) I.l wk (fun p hp u v w _ e => ful p hp u v w e) N.sub (fun r hr v hv d => N.first r hr v hv (far d)) N.uniq
  have bd : ∀ p ∈ S, ∃ v, Bst h st (n + 1) p v ∧ Dst h st (n + 1) v := fun p hp => by
    obtain ⟨v, w⟩ := wk p (N.sub p hp)
    obtain ⟨m, hm, d⟩ := dst_of w
    have hv := N.new p hp v w.last
    have e : m = n + 1 := by
      by_cases z : m ≤ n
      · exact absurd ((I.k v).mpr ⟨m, z, d⟩) hv
      · omega
    subst e
    obtain ⟨q, hq, bq⟩ := L v d
    rw [N.uniq p hp q hq (w.last.trans bq.1.last.symm)]
    exact ⟨v, bq, d⟩
  refine ⟨bd, L, N.so, fun i => ?_, N.nd⟩
  rw [N.kk]
  constructor
  · rintro (z | ⟨s, hs, e⟩)
    · obtain ⟨m, hm, d⟩ := (I.k i).mp z
      exact ⟨m, by omega, d⟩
    · obtain ⟨v, b, d⟩ := bd s hs
      rw [b.1.last] at e
      cases e
      exact ⟨n + 1, Nat.le_refl _, d⟩
  · rintro ⟨m, hm, d⟩
    by_cases z : m ≤ n
    · exact .inl ((I.k i).mpr ⟨m, z, d⟩)
    · have e : m = n + 1 := by omega
      subst e
      obtain ⟨p, hp, b⟩ := L i d
      exact .inr ⟨p, hp, b.1.last⟩
theorem LvI.start {ids : List Int} (hs : ids.Pairwise ltI) (hm : ∀ i, i ∈ ids ↔ some (Rf.obj i) ∈ st) : LvI h st 0 (ids.map fun i => [i]) ids := by
  have d0 : ∀ {i : Int}, Dst h st 0 i ↔ i ∈ ids := fun {i} => by
    rw [hm]
    constructor
    · rintro ⟨⟨p, w⟩, _⟩
      cases w with
      | base m => exact m
    · exact fun m => ⟨⟨_, .base m⟩, fun k hk => absurd hk (by omega)⟩
  have b0 : ∀ {i : Int}, i ∈ ids → Bst h st 0 [i] i := fun {i} m => ⟨.base ((hm i).mp m), fun q w => by
    cases w with
    | base _ => exact List.le_refl _⟩
  refine ⟨fun p hp => ?_, fun v d => ?_, ?_, fun i => ?_, ?_⟩
  · obtain ⟨i, hi, rfl⟩ := List.mem_map.mp hp
    exact ⟨i, b0 hi, d0.mpr hi⟩
  · have hv := d0.mp d
    exact ⟨[v], List.mem_map.mpr ⟨v, hv, rfl⟩, b0 hv⟩
  · rw [List.pairwise_map]
    refine hs.imp fun {a b} lt => ?_
    rw [List.cons_lt_cons_iff]
    exact .inl lt
  · constructor
    · exact fun m => ⟨0, Nat.le_refl _, d0.mpr m⟩
    · rintro ⟨m, hm', d⟩
      have e : m = 0 := by omega
      subst e
      exact d0.mp d
  · exact hs.imp fun {a b} lt e => by rw [e] at lt; exact Int.lt_irrefl _ lt
theorem LvI.done {n : Nat} {ks : List Int} (I : LvI h st n [] ks) {w : Int} (hw : ∀ m, m < n → ¬ Dst h st m w) : PathTo h st w none := by
  have key : ∀ m v, ¬ Dst h st (n + m) v := fun m => by
    induction m with
    | zero => exact fun v d => by obtain ⟨p, hp, _⟩ := I.l v d; cases hp
    | succ m ih =>
      intro v d
      obtain ⟨p, wk⟩ := d.1
      cases wk with
      | step wk e => exact ih _ (d.before wk e)
  intro k p wk
  obtain ⟨m, _, d⟩ := dst_of wk
  by_cases z : m < n
  · exact hw m z d
  · obtain ⟨j, rfl⟩ : ∃ j, m = n + j := ⟨m - n, by omega⟩
    exact key j w d
end

end
section
open PySem PySem.Spec PyProof.Rows L2
variable {P : Program} {w : World} {K : PySem.W.Frag} {mg : Str → Option Value} {base : Heap}
def RetPath (r : Option (List Int)) (H : Hp) (Q : VK) : Prop := match r with
  | none => ∀ H', Same H H' → Q .non H'
  | some p => ∀ (l : Addr) (H' : Hp), Same H H' → H' l = some (.lst (p.map V.int)) → Q (.ref l) H'
def sp_shortest_path (K : PySem.W.Frag) : Sp := SpOf (fun ((d, a, _, _, _, w) : Addr × Addr × HeapM × List V × List (Option Rf) × Int) => [.ref d, .ref a, .int w]) fun (d, a, h, vs, st, w) H Q =>
  HeapAt H d h ∧ (SqL K H a vs ∨ SqT K H a vs) ∧ Paired (RfV H) vs st ∧ ValidH h st ∧ HeapSmall h ∧ vs.length ≤ 1000 ∧ ∀ r, PathTo h st w r → RetPath r H Q
/-- a list of lists of ints -/
structure Rows (H : Hp) (l : Addr) (bs : List (Addr × List Int)) : Prop where
  tp : H l = some (.lst (bs.map fun x => V.ref x.1))
  rw : ∀ x ∈ bs, x.1 ≠ l ∧ H x.1 = some (.lst (x.2.map V.int))
theorem Rows.mono {H H' : Hp} {l : Addr} {bs : List (Addr × List Int)} (R : Rows H l bs) (s : ∀ b xs, H b = some (.lst xs) → H' b = some (.lst xs)) : Rows H' l bs := ⟨s _ _ R.tp, fun x hx => ⟨(R.rw x hx).1, s _ _ (R.rw x hx).2⟩⟩
theorem Rows.app {H : Hp} {l c : Addr} {bs : List (Addr × List Int)} {p : List Int} (R : Rows H l bs) (hc : H c = some (.lst (p.map V.int))) (ne : c ≠ l) : Rows (upd H l (.lst (bs.map (fun x => V.ref x.1) ++ [V.ref c]))) l (bs ++ [(c, p)]) :=
  ⟨by rw [upd_same, List.map_append]; rfl, fun x hx => by
    rcases List.mem_append.mp hx with hx | hx
    · obtain ⟨h1, h2⟩ := R.rw x hx
      exact ⟨h1, by rw [upd_ne h1]; exact h2⟩
    · rw [List.mem_singleton.mp hx]
      exact ⟨ne, by rw [upd_ne ne]; exact hc⟩⟩
/-- lists stay where only a dict is written -/
theorem Fr.lists {H H' : Hp} {b : Addr} (f : Fr [b] H H') (hb : ∃ xs, H b = some (.dK xs)) : ∀ a xs, H a = some (.lst xs) → H' a = some (.lst xs) := fun a xs h => f a _ (fun m => by
  obtain ⟨ys, e⟩ := hb
  rw [List.mem_singleton.mp m, e] at h
  cases h) h
theorem atI_last {xs : List Int} {u : Int} (h : xs.getLast? = some u) : atI (xs.map V.int) (-1) = some (.int u) := by
  have hne : xs ≠ [] := fun e => by rw [e] at h; cases h
  have hl : 0 < xs.length := List.length_pos_iff.mpr hne
  rw [List.getLast?_eq_getElem?] at h
  have e : ixN (xs.map V.int).length (-1) = some (xs.length - 1) := by
    rw [List.length_map]
    unfold ixN
    rw [if_neg (by omega), if_pos (by omega)]
    exact congrArg some (by omega)
  show (ixN (xs.map V.int).length (-1)).bind _ = _
  rw [e]
  show (xs.map V.int)[xs.length - 1]? = _
  rw [List.getElem?_map, h]
  rfl
def muP1 (n : Nat) (H : Hp) (o : Option HO) : Nat := match o with
  | some (.lst (V.ref q :: _)) => (match H q with
    | some (.lst xs) => n + 1 - xs.length
    | _ => 0)
  | _ => 0
/-- what is left to search: by the length of the first path -/
def muP (n : Nat) (σ : L2.St) (H : Hp) : Nat := match (show List (Option V) from σ)[4]? with
  | some (some (V.ref p)) => muP1 n H (H p)
  | _ => 0
theorem muP1_rows {n : Nat} {H : Hp} {p : Addr} {x : Addr × List Int} {l : List (Addr × List Int)} (R : Rows H p (x :: l)) : muP1 n H (H p) = n + 1 - x.2.length := by
  rw [R.tp]
  show (match H x.1 with | some (.lst xs) => n + 1 - xs.length | _ => 0) = _
  rw [(R.rw x List.mem_cons_self).2]
  show n + 1 - (x.2.map V.int).length = _
  rw [List.length_map]
set_option maxHeartbeats 4000000 in
theorem ok_shortest_path (T : Txt K mg) : DefOk P w K mg base "shortest_path" 2 ["heap", "start", "wanted"] (sp_shortest_path K) := by
  have G__object_ids := ok__object_ids (P := P) (w := w) (base := base) T
  refine DefOk.mk' T.d_shortest_path sc_shortest_path (fun _ _ _ _ _ _ us hl => match us, hl with | [_, _, _], _ => rfl) (fun _ => rfl) (fun cdv f A outer s H p Q E hr h => ?_)
  obtain ⟨d, a, hm, vs, st, w⟩ := p
  obtain ⟨hH, hS, hP, hV, hsm, hl, k⟩ := h
  refine ⟨_, (pss_cons (ps_setLc (i := 4) (own := [("number", 3)]) (g := gName 3) (tt := tYes) rfl sc_shortest_path.nd rfl rfl (sw_true rfl rfl rfl (by decide +kernel)) (ilistK (K := K) (pi_list (pe_callD G__object_ids (hr.mono (by decide)) rfl (pa_cons (pv 1) pa_nil)))) (blkOk_by (own := [("number", 3)]) (N := N_shortest_path) (sc := defScope s_shortest_path) (by decide +kernel)) (fun _ _ _ _ _ => pg_name (i := 3) sc_shortest_path.nd rfl (.inl rfl)) (fun _ _ _ _ _ => pts_nil) (fun _ _ _ _ _ => (pe_lst (pa_cons (pv 3) pa_nil))))
    (pss_cons (ps_setDc (i := 6) (own := [("path", 5)]) (g := gName 5) (tt := tYes) rfl sc_shortest_path.nd rfl rfl (swd_true rfl rfl rfl (by decide +kernel)) (ilistK (K := K) (pi_list (pv 4))) (blkOk_by (own := [("path", 5)]) (N := N_shortest_path) (sc := defScope s_shortest_path) (by decide +kernel)) (fun _ _ _ _ _ => pg_name (i := 5) sc_shortest_path.nd rfl (.inl rfl)) (fun _ _ _ _ _ => pts_nil) (fun _ _ _ _ _ => (pe_ix (ix_listK (K := K)) (pv 5) pe_int (fun _ _ => rfl))) (fun _ _ _ _ _ => pe_bl))
    (pss_cons (ps_while PassesOwn.never (truK (K := K) (pt_truth (pv 4) (by intro _; rfl)))
    (pss_cons (ps_set (i := 7) sc_shortest_path.nd rfl (.inl rfl) (pe_lst pa_nil))
    (pss_cons (ps_for PassesOwn.never rfl (ilistK (K := K) (pi_list (pv 4))) (pg_name (i := 5) sc_shortest_path.nd rfl (.inl rfl))
    (pss_cons (ps_if (pt_cmpR op_eq (pe_ix (ix_listK (K := K)) (pv 5) (pe_un un_neg pe_int) (fun _ _ => rfl)) (pv 2) (nomark _))
    (pss_one (ps_ret (pv 5)))
    pss_nil)
    (pss_one (ps_for PassesOwn.never rfl (ilistK (K := K) (pi_list (pe_callD G__object_ids (hr.mono (by decide)) rfl (pa_cons (pe_dget hr.hu (pv 0) (pe_ix (ix_listK (K := K)) (pv 5) (pe_un un_neg pe_int) (fun _ _ => rfl)) (fun _ _ => rfl)) pa_nil)))) (pg_name (i := 3) sc_shortest_path.nd rfl (.inl rfl))
    (pss_one (ps_if (pt_cmp (pc_dnotin hr.hu (pv 3) (pv 6)))
    (pss_cons (ps_dput hr.hu (pv 6) (pv 3) pe_bl rfl)
    (pss_one (ps_expr (bmK (K := K) (pe_bm PySem.F.plainAttrs_list PySem.F.slot_list_append PySem.F.type_list_append mt_append (pv 7) (pa_cons (pe_op op_cat (pv 5) (pe_lst (pa_cons (pv 3) pa_nil))) pa_nil))))))
    pss_nil))))))
    (pss_one (ps_set (i := 4) sc_shortest_path.nd rfl (.inl rfl) (pv 7))))))
    (pss_one (ps_ret pe_non))))), ?_⟩
  obtain ⟨kvs, hd, hkv⟩ := hH
  have hml := hsm.len
  refine ⟨_, rfl, (a, vs, st), rfl, hS, hP, hl, fun l0 ids H1 s1 nl0 hl0 hso hle hmem => ⟨l0, rfl, ⟨_, SqL.of hl0⟩, fun D nD => ?_⟩⟩
  refine lc_list (xs := ids.map V.int) (fun i H' => ∃ bs, Same H1 H' ∧ Rows H' D bs ∧ bs.map (·.2) = (ids.take i).map fun x => [x])
    ⟨[], nws nD (Same.refl _), ⟨upd_same, (fun _ m => nomatch m)⟩, rfl⟩ (fun i H' _ ⟨_, s, _⟩ => SqL.of (s _ _ hl0)) ?_ ?_
  · rintro i x H' hx ⟨bs, s, R, e⟩
    rw [List.getElem?_map] at hx
    obtain ⟨y, hy, rfl⟩ := Option.map_eq_some_iff.mp hx
    have hil : i < ids.length := (List.getElem?_eq_some_iff.mp hy).1
    have hbl : bs.length = i := by
      have := congrArg List.length e
      rw [List.length_map, List.length_map, List.length_take] at this
      omega
    refine ⟨rfl, _, rfl, (by show 1 ≤ sizeLine; decide), fun t nt => ?_⟩
    have R1 : Rows (upd H' t (.lst [.int y])) D bs := R.mono fun b xs e => nw nt e
    have tD : t ≠ D := fun e => by rw [e, R.tp] at nt; cases nt
    refine ⟨_, R1.tp, by rw [List.length_map]; exact small1000 (by omega), bs ++ [(t, [y])], same_mut (nws nt s) nD, R1.app upd_same tD, ?_⟩
    rw [List.map_append, e, List.take_add_one, hy, List.map_append]
    rfl
  rintro H2 ⟨bs, s2, R2, e2⟩
  rw [List.length_map, List.take_length] at e2
  have hbl : bs.length = ids.length := by
    have := congrArg List.length e2
    rw [List.length_map, List.length_map] at this
    exact this
  have hidn : ids.Nodup := hso.imp fun {a b} lt e => by rw [e] at lt; exact Int.lt_irrefl _ lt
  refine ⟨_, rfl, D, rfl, ⟨_, SqL.of R2.tp⟩, fun kd nkd => ?_⟩
  refine dc_list (xs := bs.map fun x => V.ref x.1) (fun i H' => H' = upd H2 kd (setI (ids.take i))) rfl (fun i H' _ e => by rw [e]; exact SqL.of (nw nkd R2.tp)) ?_ ?_
  · rintro i x H' hx rfl
    rw [List.getElem?_map] at hx
    obtain ⟨y, hy, rfl⟩ := Option.map_eq_some_iff.mp hx
    have hil : i < ids.length := by rw [← hbl]; exact (List.getElem?_eq_some_iff.mp hy).1
    have ey : y.2 = [ids[i]] := by
      have h1 : (bs.map (·.2))[i]? = some y.2 := by rw [List.getElem?_map, hy]; rfl
      rw [e2, List.getElem?_map, List.getElem?_eq_getElem hil] at h1
      exact (Option.some.inj h1).symm
    have hy2 := (R2.rw y (List.mem_of_getElem? hy)).2
    rw [ey] at hy2
    refine ⟨rfl, _, rfl, y.1, _, 0, .int ids[i], rfl, rfl, SqL.of (nw nkd hy2), rfl, _, .inl ids[i], rfl, upd_same, ?_, ?_⟩
    · rw [List.length_map, List.length_map, List.length_take]
      exact small1000 (by omega)
    · have hn : ids[i] ∉ ids.take i := fun m => by
        have h1 := List.Nodup.sublist (List.take_sublist (i + 1) ids) hidn
        rw [List.take_add_one, List.getElem?_eq_getElem hil] at h1
        exact (List.nodup_append.mp h1).2.2 _ m _ List.mem_cons_self rfl
      rw [putK_setNew (fun m => hn (inl_mem.mp m)), upd_upd, List.take_add_one, List.getElem?_eq_getElem hil]
      show _ = upd H2 kd (.dK (((ids.take i ++ [ids[i]]).map _).map _))
      rw [List.map_append (l₁ := ids.take i)]
      rfl
  rintro _ rfl
  rw [List.length_map, hbl, List.take_length]
  have hkdH : H kd = none := (s1.trans s2).free nkd
  have s3 : Same H (upd H2 kd (setI ids)) := nws nkd (s1.trans s2)
  have R3 : Rows (upd H2 kd (setI ids)) D bs := R2.mono fun b xs e => nw nkd e
  have I0 : LvI hm st 0 (bs.map (·.2)) ids := by rw [e2]; exact LvI.start hso hmem
  have hk3 : upd H2 kd (setI ids) kd = some (setI ids) := upd_same
  generalize upd H2 kd (setI ids) = H3 at s3 R3 hk3 ⊢
  clear R2 s2 nD nkd hbl e2
  refine while_by (fun σ H' => ∃ (v3 v5 v7 : Option V) (p : Addr) (n : Nat) (bs : List (Addr × List Int)) (ks : List Int), σ = [some (.ref d), some (.ref a), some (.int w), v3, some (.ref p), v5, some (.ref kd), v7] ∧
      Same H H' ∧ H' kd = some (setI ks) ∧ Rows H' p bs ∧ LvI hm st n (bs.map (·.2)) ks ∧ ∀ m, m < n → ¬ Dst hm st m w) (muP hm.length) ?_ ?_ (fun σ H Q Q' h ⟨x, e, k, t, q⟩ => ⟨x, e, k, t, h _ _ q⟩)
  · exact ⟨none, none, none, D, 0, bs, ids, rfl, s3, hk3, R3, I0, fun m hm' => absurd hm' (by omega)⟩
  clear R3 hk3 s3 I0 hidn hle hmem hso hl0 nl0 s1 H1 H3 H2
  rintro σ Hn ⟨v3, v5, v7, p, n, bs, ks, rfl, sn, hkn, R, I, hno⟩
  refine ⟨_, rfl, !(bs.map fun x => V.ref x.1).isEmpty, .inl ⟨_, SqL.of R.tp, rfl⟩, ite2 (fun hne => ?_) (fun hemp => ?_)⟩
  rotate_left
  · have e : bs = [] := by
      cases bs with
      | nil => rfl
      | cons x l => exact absurd rfl hemp
    subst e
    exact k none (I.done hno) Hn sn
  have hbl := I.len hV
  rw [List.length_map] at hbl
  have hplen : ∀ x ∈ bs, x.2.length = n + 1 := fun x hx => by
    obtain ⟨v, b, _⟩ := I.b x.2 (List.mem_map.mpr ⟨x, hx, rfl⟩)
    exact b.1.len
  have hmu : muP1 hm.length Hn (Hn p) = hm.length + 1 - (n + 1) ∧ n < hm.length := by
    cases bs with
    | nil => cases hne
    | cons x l =>
      obtain ⟨v, b, dv⟩ := I.b x.2 List.mem_cons_self
      exact ⟨by rw [muP1_rows R, b.1.len], dv.short hV⟩
  refine ⟨Nat.zero_le _, fun L nL => ?_⟩
  have nLk : L ≠ kd := fun e => by rw [e, hkn] at nL; cases nL
  have nLH : H L = none := sn.free nL
  -- what the two loops keep
  let St : List (List Int) → Hp → List (List Int) → List Int → List (Addr × List Int) → Prop := fun done H' Cd kn cs =>
    Fr [kd] Hn H' ∧ H' kd = some (setI kn) ∧ Rows H' L cs ∧ Nx ks Cd (cs.map (·.2)) kn ∧ (∀ c ∈ Cd, ∃ q ∈ done, ∃ u v, Wk hm st n q u ∧ some (Rf.obj v) ∈ fieldsOf hm u ∧ c = q ++ [v]) ∧ cs.length ≤ 1000 * done.length
  refine ⟨_, rfl, p, rfl, ⟨_, SqL.of (nw nL R.tp)⟩, for_list (xs := bs.map fun x => V.ref x.1) (fun i σ H' => ∃ (v3 v5 : Option V) (Cd : List (List Int)) (kn : List Int) (cs : List (Addr × List Int)), σ = [some (.ref d), some (.ref a), some (.int w), v3, some (.ref p), v5, some (.ref kd), some (.ref L)] ∧
      St ((bs.map (·.2)).take i) H' Cd kn cs ∧ (∀ q ∈ (bs.map (·.2)).take i, ∀ u v, Wk hm st n q u → some (Rf.obj v) ∈ fieldsOf hm u → q ++ [v] ∈ Cd) ∧ ∀ q ∈ (bs.map (·.2)).take i, q.getLast? ≠ some w)
    ⟨v3, v5, [], ks, [], rfl, ⟨Fr.new nL, nw nL hkn, ⟨upd_same, (fun _ m => nomatch m)⟩, Nx.start I.nd, (fun _ m => nomatch m), Nat.zero_le _⟩, (fun _ m => nomatch m), fun _ m => nomatch m⟩ ?_ ?_ ?_⟩
  · rintro i σ H' _ ⟨_, _, _, _, _, _, ⟨f, _⟩, _⟩
    exact SqL.of (f.lists ⟨_, hkn⟩ _ _ R.tp)
  · rintro i x σ H' hx ⟨v3, v5, Cd, kn, cs, rfl, ⟨f, hk, RS, N, hs, hcl⟩, hful, hnw⟩
    rw [List.getElem?_map] at hx
    obtain ⟨⟨xa, P⟩, hy, rfl⟩ := Option.map_eq_some_iff.mp hx
    have hxm := List.mem_of_getElem? hy
    have hPi : (bs.map (·.2))[i]? = some P := by rw [List.getElem?_map, hy]; rfl
    have etk : (bs.map (·.2)).take (i + 1) = (bs.map (·.2)).take i ++ [P] := by rw [List.take_add_one, hPi]; rfl
    obtain ⟨u, bu, du⟩ := I.b P (List.mem_map.mpr ⟨_, hxm, rfl⟩)
    have hxa : Hn xa = some (.lst (P.map V.int)) := (R.rw _ hxm).2
    have hxa' := f.lists ⟨_, hkn⟩ _ _ hxa
    have sH' : ∀ {H2}, Fr [kd] Hn H2 → Same H H2 := fun f2 b o e => f2 b o (fun m => by rw [List.mem_singleton.mp m, hkdH] at e; cases e) (sn b o e)
    refine ⟨_, rfl, _, rfl, xa, _, -1, _, rfl, rfl, SqL.of hxa', atI_last bu.1.last, _, rfl, rfl, _, rfl, ite2 (fun hw => ?_) (fun hw => ?_)⟩
    · have hw : u = w := V.int.inj (of_decide_eq_true hw)
      subst hw
      exact ⟨_, rfl, k (some P) ⟨n, du, bu⟩ xa H' (sH' f) hxa'⟩
    have hw : u ≠ w := fun e => by subst e; exact hw (decide_eq_true rfl)
    obtain ⟨fs, hfs⟩ := lookup_of_mem (bu.1.there hV)
    obtain ⟨ft, fv, e1, e2, e3⟩ := (valV_heap hkv u).2 fs hfs
    have efs : fieldsOf hm u = fs := by show (hm.lookup u).getD [] = fs; rw [hfs]; rfl
    have hfl : fv.length ≤ 1000 := by rw [Paired.length e3, ← efs]; exact hsm.fl u
    refine ⟨_, rfl, _, rfl, _, rfl, xa, _, -1, _, rfl, rfl, SqL.of hxa', atI_last bu.1.last, d, _, rfl, .inl ⟨kvs, .inl u, .inl (sH' f _ _ hd), rfl, e1.symm⟩, (ft, fv, fs), rfl, .inr (SqT.of (sH' f _ _ e2)), L2.Paired.mapP e3 (fun _ _ q => q.mono (Same.tups (sH' f))), hfl, fun l0 ids H3 s3 nl0 hl0 hso hle hmem => ?_⟩
    have l0k : l0 ≠ kd := fun e => by rw [e, hk] at nl0; cases nl0
    have l0L : l0 ≠ L := fun e => by rw [e, RS.tp] at nl0; cases nl0
    have frn : ∀ {H2 : Hp} {t : Addr} {u : HO}, Fr [kd] Hn H2 → H2 t = none → Fr [kd] Hn (upd H2 t u) := fun f ht b o nb e => nw ht (f b o nb e)
    have frL : ∀ {H2 : Hp} {u : HO}, Fr [kd] Hn H2 → Fr [kd] Hn (upd H2 L u) := fun f b o nb e => by rw [upd_ne (ne_of_none e nL)]; exact f b o nb e
    have frk : ∀ {H2 : Hp} {u : HO}, Fr [kd] Hn H2 → Fr [kd] Hn (upd H2 kd u) := fun f => f.trans (Fr.upd List.mem_cons_self)
    have hdl : ((bs.map (·.2)).take i).length ≤ i := by rw [List.length_take]; omega
    have hib : i < bs.length := (List.getElem?_eq_some_iff.mp hy).1
    refine ⟨l0, rfl, ⟨_, SqL.of hl0⟩, for_list (xs := ids.map V.int) (fun j σ H2 => ∃ (v3 : Option V) (kn : List Int) (cs : List (Addr × List Int)), σ = [some (.ref d), some (.ref a), some (.int w), v3, some (.ref p), some (.ref xa), some (.ref kd), some (.ref L)] ∧
        Fr [kd] Hn H2 ∧ H2 kd = some (setI kn) ∧ Rows H2 L cs ∧ Nx ks (Cd ++ (ids.take j).map fun y => P ++ [y]) (cs.map (·.2)) kn ∧ H2 l0 = some (.lst (ids.map V.int)) ∧ cs.length ≤ 1000 * ((bs.map (·.2)).take i).length + j)
      ⟨v3, kn, cs, rfl, f.trans (Fr.of s3), s3 _ _ hk, RS.mono (fun b xs e => s3 _ _ e), by rw [List.take_zero, List.map_nil, List.append_nil]; exact N, hl0, hcl⟩ (fun j σ H2 _ ⟨_, _, _, _, _, _, _, _, q, _⟩ => SqL.of q) ?_ ?_⟩
    · rintro j x σ H2 hx2 ⟨v3, kn, cs, rfl, f2, hk2, R2, N2, hq2, hc2⟩
      rw [List.getElem?_map] at hx2
      obtain ⟨y, hyj, rfl⟩ := Option.map_eq_some_iff.mp hx2
      have hji : j < ids.length := (List.getElem?_eq_some_iff.mp hyj).1
      have etj : (Cd ++ (ids.take (j + 1)).map fun y => P ++ [y]) = (Cd ++ (ids.take j).map fun y => P ++ [y]) ++ [P ++ [y]] := by
        rw [List.take_add_one, hyj, List.map_append, List.append_assoc]
        rfl
      have hlast : (P ++ [y]).getLast? = some y := by rw [List.getLast?_append]; rfl
      have hlow : ∀ c ∈ Cd ++ (ids.take j).map (fun y => P ++ [y]), c ≤ P ++ [y] := fun c hc => by
        rcases List.mem_append.mp hc with hc | hc
        · obtain ⟨q, hq, u', v', wq, _, rfl⟩ := hs c hc
          rw [le_snoc (by rw [wq.len, bu.1.len])]
          refine .inl ?_
          obtain ⟨m, hm', rfl⟩ := List.mem_take_iff_getElem.mp hq
          have hmi : m < i := by omega
          have hlt := List.pairwise_iff_getElem.mp I.s m i (by omega) (by rw [List.length_map]; exact hib) hmi
          have e : (bs.map (·.2))[i]'(by rw [List.length_map]; exact hib) = P := (List.getElem?_eq_some_iff.mp hPi).2
          rwa [e] at hlt
        · obtain ⟨z, hz, rfl⟩ := List.mem_map.mp hc
          rw [le_snoc rfl]
          refine .inr ⟨rfl, ?_⟩
          obtain ⟨m, hm', rfl⟩ := List.mem_take_iff_getElem.mp hz
          have hlt : ltI _ _ := List.pairwise_iff_getElem.mp hso m j (by omega) hji (by omega)
          have e : ids[j] = y := (List.getElem?_eq_some_iff.mp hyj).2
          rw [e] at hlt
          exact Int.le_of_lt hlt
      have hkl := (show kn.length ≤ 200000 from ?kl)
      case kl =>
        have h1 := N2.nd
        have h2 : kn.length ≤ (ks ++ cs.map fun x => x.2.getLast?.getD 0).length := nodup_le h1 fun x hx => by
          rcases (N2.kk x).mp hx with z | ⟨s, hs, e⟩
          · exact List.mem_append_left _ z
          · obtain ⟨c, hc, rfl⟩ := List.mem_map.mp hs
            exact List.mem_append_right _ (List.mem_map.mpr ⟨c, hc, by rw [e]; rfl⟩)
        rw [List.length_append, List.length_map] at h2
        have h3 := I.kn hV
        omega
      refine ⟨_, rfl, _, rfl, kd, _, rfl, .inl ⟨_, .inl y, .inl hk2, rfl, rfl⟩, _, rfl, ?_⟩
      rw [valV_set]
      by_cases hyk : y ∈ kn
      · rw [if_pos (inl_mem.mpr hyk)]
        refine ite2 (fun h => nomatch h) (fun _ => ?_)
        exact ⟨_, kn, cs, rfl, f2, hk2, R2, by rw [etj]; exact N2.old hlast hlow hyk, hq2, by omega⟩
      · rw [if_neg (fun z => hyk (inl_mem.mp z))]
        refine ite2 (fun _ => ?_) (fun h => absurd rfl h)
        refine ⟨_, rfl, _, rfl, kd, _, rfl, DPut.k (k := .inl y) hk2 (by rw [List.length_map, List.length_map]; exact Nat.lt_of_le_of_lt hkl (by decide)), ?_⟩
        rw [putK_setNew (fun m => hyk (inl_mem.mp m)), ← show (kn ++ [y]).map (Sum.inl : Int → Key) = kn.map Sum.inl ++ [Sum.inl y] by rw [List.map_append]; rfl]
        have hk3 : upd H2 kd (setI (kn ++ [y])) kd = some (setI (kn ++ [y])) := upd_same
        have R3 : Rows (upd H2 kd (setI (kn ++ [y]))) L cs := R2.mono fun b xs e => by
          rw [upd_ne (fun z => by rw [z, hk2] at e; cases e)]
          exact e
        have f3 : Fr [kd] Hn (upd H2 kd (setI (kn ++ [y]))) := frk f2
        have hq3 : upd H2 kd (setI (kn ++ [y])) l0 = some (.lst (ids.map V.int)) := by rw [upd_ne l0k]; exact hq2
        have hx3 := f3.lists ⟨_, hkn⟩ _ _ hxa
        refine ⟨_, rfl, .inl ⟨rfl, _, SqL.of R3.tp⟩, _, rfl, _, rfl, (by show 1 ≤ sizeLine; decide), fun t nt => ?_⟩
        have hPl := bu.1.len
        refine ⟨xa, t, P.map V.int, [.int y], rfl, rfl, nw nt hx3, upd_same, by rw [List.length_map]; show P.length + 1 ≤ sizeLine; exact Nat.le_of_lt (small1000 (by omega)), fun c nc => ?_⟩
        have R4 : Rows (upd (upd (upd H2 kd (setI (kn ++ [y]))) t (.lst [.int y])) c (.lst (P.map V.int ++ [.int y]))) L cs := R3.mono fun b xs e => nw nc (nw nt e)
        have cL : c ≠ L := fun z => by
          have h1 := nw (u := .lst [.int y]) nt R3.tp
          rw [← z] at h1
          exact absurd (h1.symm.trans nc) (by simp)
        refine ⟨L, _, _, rfl, rfl, R4.tp, by rw [List.length_map]; exact small100k (by omega), ?_⟩
        refine ⟨_, kn ++ [y], cs ++ [(c, P ++ [y])], rfl, frL (frn (frn f3 nt) nc), ?_, R4.app (by rw [upd_same, List.map_append]; rfl) cL, ?_, ?_, ?_⟩
        · rw [upd_ne (Ne.symm nLk)]
          exact nw nc (nw nt hk3)
        · rw [List.map_append, etj]
          exact N2.add hlast hlow hyk
        · rw [upd_ne l0L]
          exact nw nc (nw nt hq3)
        · rw [List.length_append, List.length_singleton]
          omega
    · rintro σ H2 ⟨v3, kn, cs, rfl, f2, hk2, R2, N2, hq2, hc2⟩
      rw [List.length_map] at hc2 N2
      rw [List.take_length] at N2
      refine ⟨v3, _, Cd ++ ids.map (fun y => P ++ [y]), kn, cs, rfl, ⟨f2, hk2, R2, N2, fun c hc => ?_, ?_⟩, fun q hq u' v' wq eq => ?_, fun q hq => ?_⟩
      · rcases List.mem_append.mp hc with hc | hc
        · obtain ⟨q, hq, r⟩ := hs c hc
          exact ⟨q, by rw [etk]; exact List.mem_append_left _ hq, r⟩
        · obtain ⟨z, hz, rfl⟩ := List.mem_map.mp hc
          exact ⟨P, by rw [etk]; exact List.mem_append_right _ List.mem_cons_self, u, z, bu.1, by rw [efs]; exact (hmem z).mp hz, rfl⟩
      · rw [etk, List.length_append, List.length_singleton]
        omega
      · rw [etk] at hq
        rcases List.mem_append.mp hq with hq | hq
        · exact List.mem_append_left _ (hful q hq u' v' wq eq)
        · rw [List.mem_singleton.mp hq] at wq ⊢
          obtain ⟨_, rfl⟩ := wq.ends bu.1
          rw [efs] at eq
          exact List.mem_append_right _ (List.mem_map.mpr ⟨v', (hmem v').mpr eq, rfl⟩)
      · rw [etk] at hq
        rcases List.mem_append.mp hq with hq | hq
        · exact hnw q hq
        · rw [List.mem_singleton.mp hq, bu.1.last]
          exact fun e => hw (Option.some.inj e)
  · rintro σ H' ⟨v3, v5, Cd, kn, cs, rfl, ⟨f, hk, RS, N, hs, hcl⟩, hful, hnw⟩
    rw [List.length_map, show bs.length = (bs.map (·.2)).length by rw [List.length_map], List.take_length] at hful hnw hs
    have J := I.next N hs hful
    have hno' : ∀ m, m < n + 1 → ¬ Dst hm st m w := fun m hm' dm => by
      by_cases z : m < n
      · exact hno m z dm
      · have e : m = n := by omega
        subst e
        obtain ⟨q, hq, b⟩ := I.l w dm
        exact hnw q hq b.1.last
    have sH' : Same H H' := fun b u e => f b u (fun m => by rw [List.mem_singleton.mp m, hkdH] at e; cases e) (sn b u e)
    refine ⟨_, rfl, ⟨v3, v5, _, L, n + 1, cs, kn, rfl, sH', hk, RS, J, hno'⟩, ?_⟩
    show muP1 hm.length H' (H' L) < muP1 hm.length Hn (Hn p)
    rw [hmu.1]
    have hn := hmu.2
    cases cs with
    | nil =>
      rw [RS.tp]
      show 0 < _
      omega
    | cons x l =>
      obtain ⟨v, b, _⟩ := J.b x.2 List.mem_cons_self
      rw [muP1_rows RS, b.1.len]
      omega

end
section
open PySem PySem.Spec PyProof.Rows L2
variable {P : Program} {w : World} {K : PySem.W.Frag} {mg : Str → Option Value} {base : Heap}
def sp__law_alike (K : PySem.W.Frag) : Sp := SpOf (fun ((x, y, _, _, _) : V × V × PyData × Nat × Nat) => [x, y]) fun (x, y, d, n, m) H Q => Dp K H x d ∧ Dp K H y d ∧ Sr n m d ∧ n ≤ 60 ∧ m ≤ 2 ^ 20 ∧ Q (.bl true) H
set_option maxHeartbeats 4000000 in
theorem ok__law_alike (T : Txt K mg) : DefOk P w K mg base "_law_alike" 1 ["_law_one", "_law_two"] (sp__law_alike K) := by
  refine DefOk.mk' T.d__law_alike sc__law_alike (fun _ _ _ _ _ _ us hl => match us, hl with | [_, _], _ => rfl) (fun _ => rfl) (fun cdv f A outer s H p Q E hr h => ?_)
  obtain ⟨x, y, d, n, m⟩ := p
  obtain ⟨h1, h2, hs, hn, hm, k⟩ := h
  refine ⟨_, (pss_one (ps_ret (pe_cmpR op_eq (pe_callB (call_repr (K := K) ⟨hr.gd, hr.units⟩) (by rfl) T.n_repr (by decide +kernel) (pa_cons (pv 0) pa_nil)) (pe_callB (call_repr (K := K) ⟨hr.gd, hr.units⟩) (by rfl) T.n_repr (by decide +kernel) (pa_cons (pv 1) pa_nil)) (nomark _)))), ?_⟩
  refine ⟨_, rfl, x, d, n, m, rfl, h1, hs, hn, hm, _, rfl, y, d, n, m, rfl, h2, hs, hn, hm, rfl, ?_⟩
  rw [decide_eq_true rfl]
  exact k
/-- tuples stay where only a list is written -/
theorem Fr.tups {H H' : Hp} {b : Addr} (f : Fr [b] H H') (hb : ∃ xs, H b = some (.lst xs)) : ∀ a xs, H a = some (.tup xs) → H' a = some (.tup xs) := fun a xs h => f a _ (fun m => by
  obtain ⟨ys, e⟩ := hb
  rw [List.mem_singleton.mp m, e] at h
  cases h) h
theorem BoxAt.isLst {H : Hp} {b l : Addr} (B : BoxAt H b l) : ∃ xs, H b = some (.lst xs) := by
  obtain ⟨ds, z, h1, _⟩ := B
  exact ⟨_, h1⟩
theorem HeapAt.box {H H' : Hp} {b d : Addr} {h : HeapM} (A : HeapAt H d h) (f : Fr [b] H H') (hb : ∃ xs, H b = some (.lst xs)) : HeapAt H' d h := by
  obtain ⟨kvs, e, p⟩ := A
  refine ⟨kvs, f _ _ (fun m => ?_) e, L2.Paired.mapP p fun _ _ => ObjV.mono (f.tups hb)⟩
  obtain ⟨ys, e2⟩ := hb
  rw [List.mem_singleton.mp m, e2] at e
  cases e
/-- a reference of the law: an object below many, or not one -/
def OkRf (many : Nat) : Option Rf → Prop
  | some (.obj i) => 0 ≤ i ∧ i < many
  | _ => True
structure LawHeap (many : Nat) (h : HeapM) : Prop where
  keys : h.map (·.1) = (List.range many).map fun k : Nat => (k : Int)
  refs : ∀ e ∈ h, e.2.length ≤ 4 ∧ ∀ r ∈ e.2, OkRf many r
theorem lookup_none : ∀ {h : HeapM} {i : Int}, i ∉ h.map (·.1) → h.lookup i = none
  | [], _, _ => rfl
  | (j, gs) :: h, i, m => by
    have e : ¬ i = j := fun e => m (by rw [e]; exact List.mem_cons_self)
    have : (i == j) = false := by simpa using e
    rw [List.lookup_cons, this]
    exact lookup_none fun z => m (List.mem_cons_of_mem _ z)
def sp__law_heap (K : PySem.W.Frag) : Sp := SpOf (fun ((b, _) : Addr × Addr) => [.ref b]) fun (b, l) H Q =>
  BoxAt H b l ∧ ∀ (d : Addr) (many : Nat) (h : HeapM) (H' : Hp), many ≤ 8 → LawHeap many h → HeapAt H' d h → H d = none → BoxAt H' b l → Fr [b] H H' → Q (.ref d) H'
set_option maxHeartbeats 4000000 in
theorem ok__law_heap (T : Txt K mg) : DefOk P w K mg base "_law_heap" 2 ["_law_box"] (sp__law_heap K) := by
  have G__law_draw := ok__law_draw (P := P) (w := w) (base := base) T
  refine DefOk.mk' T.d__law_heap sc__law_heap (fun _ _ _ _ _ _ us hl => match us, hl with | [_], _ => rfl) (fun _ => rfl) (fun cdv f A outer s H p Q E hr h => ?_)
  obtain ⟨b, l⟩ := p
  obtain ⟨hB, k⟩ := h
  refine ⟨_, (pss_cons (ps_set (i := 1) sc__law_heap.nd rfl (.inl rfl) (pe_callD G__law_draw (hr.mono (by decide)) rfl (pa_cons (pv 0) (pa_cons pe_int pa_nil))))
    (pss_cons (ps_set (i := 2) sc__law_heap.nd rfl (.inl rfl) pe_dnewK)
    (pss_cons (ps_for PassesOwn.never rfl (pi_range1 rfl T.n_range (pa_cons (pv 1) pa_nil)) (pg_name (i := 3) sc__law_heap.nd rfl (.inl rfl))
    (pss_cons (ps_set (i := 4) sc__law_heap.nd rfl (.inl rfl) (pe_lst pa_nil))
    (pss_cons (ps_for PassesOwn.never rfl (pi_range1 rfl T.n_range (pa_cons (pe_callD G__law_draw (hr.mono (by decide)) rfl (pa_cons (pv 0) (pa_cons pe_int pa_nil))) pa_nil)) (pg_name (i := 5) sc__law_heap.nd rfl (.inl rfl))
    (pss_one (ps_expr (bmK (K := K) (pe_bm PySem.F.plainAttrs_list PySem.F.slot_list_append PySem.F.type_list_append mt_append (pv 4) (pa_cons (pe_ix (ix_listK (K := K)) (pe_lst (pa_cons (pe_tup (pa_cons pe_str (pa_cons (pe_callD G__law_draw (hr.mono (by decide)) rfl (pa_cons (pv 0) (pa_cons (pv 1) pa_nil))) pa_nil))) (pa_cons (pe_tup (pa_cons pe_str (pa_cons (pe_callD G__law_draw (hr.mono (by decide)) rfl (pa_cons (pv 0) (pa_cons (pv 1) pa_nil))) pa_nil))) (pa_cons (pe_tup (pa_cons pe_str (pa_cons pe_int (pa_cons pe_int pa_nil)))) (pa_cons pe_non pa_nil))))) (pe_callD G__law_draw (hr.mono (by decide)) rfl (pa_cons (pv 0) (pa_cons pe_int pa_nil))) (fun _ _ => rfl)) pa_nil))))))
    (pss_one (ps_dput hr.hu (pv 2) (pv 3) (pe_callTy (call_tupleK (K := K)) (by rfl) T.n_tuple (by decide +kernel) (pa_cons (pv 4) pa_nil)) rfl)))))
    (pss_one (ps_ret (pv 2)))))), ?_⟩
  refine ⟨_, rfl, (b, l, 9), rfl, hB, by decide, fun n H1 n0 n9 B1 f1 => fun d nd => ?_⟩
  obtain ⟨many, rfl⟩ : ∃ m : Nat, n = (m : Int) := ⟨n.toNat, by omega⟩
  have nbd := B1.ne nd
  have ndH : H d = none := f1.free (by simp [Ne.symm nbd.1]) nd
  refine ⟨_, rfl, _, rfl, by omega, by omega, for_range (lo := 0) (n := (many : Int).toNat)
    (fun i σ H' => ∃ (kvs : List (Key × V)) (h : HeapM) (v3 v4 v5 : Option V), σ = [some (.ref b), some (.int many), some (.ref d), v3, v4, v5] ∧ H' d = some (.dK kvs) ∧ Paired (ObjV H') kvs h ∧ (h.map (·.1) = (List.range i).map fun k : Nat => (k : Int)) ∧ (∀ e ∈ h, e.2.length ≤ 4 ∧ ∀ r ∈ e.2, OkRf many r) ∧ BoxAt H' b l ∧ Fr [b] H H')
    ⟨[], [], none, none, none, rfl, upd_same, .nil, rfl, (fun _ m => nomatch m), B1.new nd, f1.trans (Fr.new nd)⟩ ?_ ?_⟩
  · rintro i σ H' hi ⟨kvs, h, v3, v4, v5, rfl, hd, hp, hk, hr', B, f⟩
    refine ⟨Nat.zero_le _, fun F nF => ?_⟩
    have nbF := B.ne nF
    refine ⟨_, rfl, (b, l, 5), rfl, B.new nF, by decide, fun m H2 m0 m5 B2 f2 => ⟨m, rfl, by omega, by omega, ?_⟩⟩
    have f2' : Fr [b] H' H2 := (Fr.new nF).trans f2
    have hF2 : H2 F = some (.lst []) := f2 _ _ (by simp [Ne.symm nbF.1]) upd_same
    refine for_range (lo := 0) (n := m.toNat) (fun j σ H3 => ∃ (v5 : Option V) (vs : List V) (rs : List (Option Rf)), σ = [some (.ref b), some (.int many), some (.ref d), some (.int (0 + (i : Int))), some (.ref F), v5] ∧ H3 F = some (.lst vs) ∧ Paired (RfV H3) vs rs ∧ rs.length = j ∧ (∀ r ∈ rs, OkRf many r) ∧ BoxAt H3 b l ∧ Fr [b] H' H3)
      ⟨v5, [], [], rfl, hF2, .nil, rfl, (fun _ z => nomatch z), B2, f2'⟩ ?_ ?_
    · rintro j σ H3 hj ⟨v5, vs, rs, rfl, h1, h2, h3, h4, B3, f3⟩
      have hmany : (0 : Int) < many := by omega
      refine ⟨_, rfl, .inl ⟨rfl, _, SqL.of h1⟩, _, rfl, _, rfl, (b, l, (many : Int)), rfl, B3, hmany, fun q1 H4 q10 q11 B4 f4 => ⟨(by show 2 ≤ sizeLine; decide), fun t1 nt1 => ?_⟩⟩
      refine ⟨_, rfl, _, rfl, (b, l, (many : Int)), rfl, B4.new nt1, hmany, fun q2 H5 q20 q21 B5 f5 => ⟨(by show 2 ≤ sizeLine; decide), fun t2 nt2 => ⟨(by show 3 ≤ sizeLine; decide), fun t3 nt3 => ⟨(by show 4 ≤ sizeLine; decide), fun p np => ?_⟩⟩⟩⟩
      have B6 := (((B5.new (u := .tup [.str "object", .int q2]) nt2).new (u := .tup [.str "import", .int 1, .int 2]) nt3).new (u := .lst [.ref t1, .ref t2, .ref t3, .non]) np)
      refine ⟨_, rfl, (b, l, 4), rfl, B6, by decide, fun q H7 q0 q4 B7 f7 => ?_⟩
      have tH5 : H5 t1 = some (.tup [.str "object", .int q1]) := f5.tups ⟨_, (B4.new (u := .tup [.str "object", .int q1]) nt1).isLst.choose_spec⟩ _ _ upd_same
      have lb6 := B6.isLst
      have r1 : RfV H7 (.ref t1) (some (.obj q1)) := ⟨t1, rfl, f7.tups lb6 _ _ (nw np (nw nt3 (nw nt2 tH5)))⟩
      have r2 : RfV H7 (.ref t2) (some (.obj q2)) := ⟨t2, rfl, f7.tups lb6 _ _ (nw np (nw nt3 upd_same))⟩
      have r3 : RfV H7 (.ref t3) (some (.imp 1 2)) := ⟨t3, rfl, f7.tups lb6 _ _ (nw np upd_same)⟩
      have hp7 : H7 p = some (.lst [.ref t1, .ref t2, .ref t3, .non]) := f7 _ _ (fun z => by
        rw [List.mem_singleton.mp z] at np
        have := ((B5.new (u := .tup [.str "object", .int q2]) nt2).new (u := .tup [.str "import", .int 1, .int 2]) nt3).ne np
        exact this.1 rfl) upd_same
      have pick : ∃ v r, atI [V.ref t1, V.ref t2, V.ref t3, V.non] q = some v ∧ RfV H7 v r ∧ OkRf many r := by
        have : q = 0 ∨ q = 1 ∨ q = 2 ∨ q = 3 := by omega
        rcases this with rfl | rfl | rfl | rfl
        · exact ⟨_, _, rfl, r1, q10, q11⟩
        · exact ⟨_, _, rfl, r2, q20, q21⟩
        · exact ⟨_, _, rfl, r3, trivial⟩
        · exact ⟨_, none, rfl, rfl, trivial⟩
      obtain ⟨v, r, hat, rv, okr⟩ := pick
      have f37 : ∀ a o, a ≠ b → H3 a = some o → H7 a = some o := fun a o na e => f7 a o (by simp [na]) (nw np (nw nt3 (nw nt2 (f5 a o (by simp [na]) (nw nt1 (f4 a o (by simp [na]) e))))))
      have hF7 : H7 F = some (.lst vs) := f37 _ _ (Ne.symm nbF.1) h1
      refine ⟨p, _, q, v, rfl, rfl, SqL.of hp7, hat, F, vs, v, rfl, rfl, hF7, small1000 (by rw [Paired.length h2, h3]; omega), ?_⟩
      have tu : ∀ a xs, H7 a = some (.tup xs) → upd H7 F (.lst (vs ++ [v])) a = some (.tup xs) := fun a xs e => by
        rw [upd_ne (fun z => by rw [z, hF7] at e; cases e)]
        exact e
      refine ⟨_, vs ++ [v], rs ++ [r], rfl, upd_same, ?_, by rw [List.length_append, h3]; rfl, fun z hz => ?_, B7.put nbF, fun a o na e => ?_⟩
      · refine paired_app (L2.Paired.mapP h2 fun _ _ z => (z.mono fun a xs e => ?_).mono tu) (.cons (rv.mono tu) .nil)
        exact f37 a _ (fun z => by
          obtain ⟨ys, e2⟩ := B3.isLst
          rw [z, e2] at e
          cases e) e
      · rcases List.mem_append.mp hz with hz | hz
        · exact h4 z hz
        · rw [List.mem_singleton.mp hz]
          exact okr
      · rw [upd_ne (ne_of_none e nF)]
        exact f37 a o (by simpa using na) (f3 a o na e)
    · rintro σ H3 ⟨v5, vs, rs, rfl, h1, h2, h3, h4, B3, f3⟩
      refine ⟨_, rfl, F, vs, rfl, .inl ⟨SqL.of h1, fun t nt => ?_⟩⟩
      have hd3 : upd H3 t (.tup vs) d = some (.dK kvs) := nw nt (f3 _ _ (by simp [Ne.symm nbd.1]) hd)
      have nm : (i : Int) ∉ h.map (·.1) := fun z => by
        rw [hk] at z
        obtain ⟨q, hq, e⟩ := List.mem_map.mp z
        have := List.mem_range.mp hq
        omega
      have hkl : kvs.length = i := by
        have := congrArg List.length hk
        rw [List.length_map, List.length_map, List.length_range] at this
        rw [Paired.length hp, this]
      refine ⟨_, rfl, _, rfl, d, _, rfl, DPut.k (k := .inl (0 + (i : Int))) hd3 (small1000 (by omega)), ?_⟩
      have en : putK kvs (.inl (0 + (i : Int))) (.ref t) = kvs ++ [(.inl (i : Int), .ref t)] := by
        rw [Int.zero_add]
        exact putK_new _ ((valV_heap hp _).1 (lookup_none nm))
      rw [en]
      have tu : ∀ a xs, H3 a = some (.tup xs) → upd (upd H3 t (.tup vs)) d (.dK (kvs ++ [(.inl (i : Int), .ref t)])) a = some (.tup xs) := fun a xs e => by
        have e1 := nw (u := .tup vs) nt e
        rw [upd_ne (fun z => by rw [z, hd3] at e1; cases e1)]
        exact e1
      have tt : upd (upd H3 t (.tup vs)) d (.dK (kvs ++ [(.inl (i : Int), .ref t)])) t = some (.tup vs) := by
        rw [upd_ne (fun z => by rw [← z, upd_same] at hd3; cases hd3)]
        exact upd_same
      refine ⟨_, h ++ [((i : Int), rs)], _, _, _, rfl, upd_same, ?_, ?_, fun e he => ?_, (B3.new nt).put nbd, fun a o na e => ?_⟩
      · exact paired_app (L2.Paired.mapP hp fun _ _ q => ObjV.mono (fun a xs e => tu a xs (f3.tups B.isLst a xs e)) q) (.cons ⟨rfl, t, vs, rfl, tt, L2.Paired.mapP h2 fun _ _ q => q.mono tu⟩ .nil)
      · rw [List.map_append, hk, List.range_succ, List.map_append]
        rfl
      · rcases List.mem_append.mp he with he | he
        · exact hr' e he
        · rw [List.mem_singleton.mp he]
          exact ⟨by show rs.length ≤ 4; omega, h4⟩
      · rw [upd_ne (ne_of_none e ndH)]
        exact nw nt (f3 a o na (f a o na e))
  · rintro σ H' ⟨kvs, h, v3, v4, v5, rfl, hd, hp, hk, hr', B, f⟩
    exact ⟨_, rfl, k d many h H' (by omega) ⟨by rw [hk]; rfl, hr'⟩ ⟨kvs, hd, hp⟩ ndH B f⟩

end
section
open PySem PySem.Spec PyProof.Rows L2
variable {P : Program} {w : World} {K : PySem.W.Frag} {mg : Str → Option Value} {base : Heap}
/-! ### sorted of a list of tuples of ints -/
def tupD (p : List Int) : PyData := .tuple (p.map .int)
def TR (H : Hp) (cs : List (Addr × List Int)) : Prop := ∀ x ∈ cs, H x.1 = some (.tup (x.2.map V.int))
theorem sh_tup {n : Nat} (p : List Int) : Sh (n + 1) (tupD p) := sh_tuple fun d hd => by
  obtain ⟨i, _, rfl⟩ := List.mem_map.mp hd
  exact sh_int i
theorem dp_tup {H : Hp} {a : Addr} {p : List Int} (h : H a = some (.tup (p.map V.int))) : Dp K H (.ref a) (tupD p) := .tup (SqT.of h) (dpAll_ints p)
theorem dp_tups {H : Hp} : ∀ {cs : List (Addr × List Int)}, TR H cs → DpAll K H (cs.map fun x => V.ref x.1) (cs.map fun x => tupD x.2)
  | [], _ => .nil
  | x :: cs, h => .cons (dp_tup (h x List.mem_cons_self)) (dp_tups fun y hy => h y (List.mem_cons_of_mem _ hy))
def rSortTR (K : PySem.W.Frag) : List V → Hp → VK → Prop := fun vs H Q => ∃ (a : Addr) (cs : List (Addr × List Int)), vs = [V.ref a] ∧ SqL K H a (cs.map fun x => V.ref x.1) ∧ TR H cs ∧ (∀ x ∈ cs, x.2 ≠ []) ∧
  ∀ (es : List (Addr × List Int)) (p : Addr), es.Perm cs → (es.map (·.2)).Pairwise (fun a b => a ≤ b) → H p = none → Q (.ref p) (upd H p (.lst (es.map fun x => V.ref x.1)))
section
variable {X : Cx} {K : PySem.W.Frag}
theorem dle_trans {a b c : PyData} (h1 : (!PySem.W.dataLt b a) = true) (h2 : (!PySem.W.dataLt c b) = true) : (!PySem.W.dataLt c a) = true := by
  cases e : PySem.W.dataLt c a with
  | false => rfl
  | true =>
    rcases lex_negTrans (O := itemOrd) (PySem.W.keyToks c) (PySem.W.keyToks b) (PySem.W.keyToks a) e with z | z
    · have z : PySem.W.dataLt c b = true := z
      rw [z] at h2
      cases h2
    · have z : PySem.W.dataLt b a = true := z
      rw [z] at h1
      cases h1
theorem dle_total (a b : PyData) : (!PySem.W.dataLt b a || !PySem.W.dataLt a b) = true := by
  cases e : PySem.W.dataLt b a with
  | false => rfl
  | true =>
    cases e2 : PySem.W.dataLt a b with
    | false => rfl
    | true =>
      have h := lex_trans (O := itemOrd) _ _ _ e e2
      rw [lex_irrefl (O := itemOrd)] at h
      cases h
theorem dataLe_tup : PySem.W.dataLe false (fun b : V × PyData => b.2) = fun p q => !PySem.W.dataLt q.2 p.2 := rfl
theorem dataLt_tup (p q : List Int) : PySem.W.dataLt (tupD p) (tupD q) = decide (p < q) := by
  unfold tupD
  rw [PySem.W.dataLt_tuple]
  exact PySem.W.dataLt_ints p q
theorem call_sortTR (hu : X.A.units + 64 < cLine) (hK : X.K = K := by rfl) : CallR X (.builtin "sorted") (rSortTR K) := by
  subst hK
  intro pins s σ H vs us Q I r h
  obtain ⟨a, cs, e, hs, hp, hne, q⟩ := h
  let g : Addr × List Int → V × PyData := fun x => (.ref x.1, tupD x.2)
  let gi : V × PyData → Addr × List Int := fun b => (match b.1 with | .ref a => a | _ => 0, match b.2 with | .tuple ds => ds.map fun d => (match d with | .int i => i | _ => 0) | _ => [])
  have hgi : ∀ x, gi (g x) = x := fun x => by
    show (x.1, (x.2.map PyData.int).map fun d => (match d with | .int i => i | _ => 0)) = x
    rw [List.map_map]
    exact Prod.ext rfl (List.map_id _)
  have e1 : (cs.map g).map (fun b => b.1) = cs.map fun x => V.ref x.1 := by rw [List.map_map]; rfl
  have e2 : (cs.map g).map (fun b => b.2) = cs.map fun x => tupD x.2 := by rw [List.map_map]; rfl
  refine call_sortD hu rfl pins s σ H vs us Q I r ⟨a, cs.map g, e, by rw [e1]; exact hs, fun b hb => ?_, ?_, ?_, fun p np => ?_⟩
  · obtain ⟨x, hx, rfl⟩ := List.mem_map.mp hb
    exact ⟨dp_tup (hp x hx), Nat.le_trans (sh_tup (n := 0) x.2).2 (by decide)⟩
  · rw [e2]
    exact PySem.W.AllAlike.of fun x y => PySem.W.alike_ints x.2 y.2
  · rw [e2]
    exact .inl fun d hd => by
      obtain ⟨x, hx, rfl⟩ := List.mem_map.mp hd
      have hx := hne x hx
      unfold tupD
      cases e : x.2 with
      | nil => exact absurd e hx
      | cons i l => exact ⟨_, _, rfl⟩
  · have hperm := List.mergeSort_perm (cs.map g) (PySem.W.dataLe false fun b : V × PyData => b.2)
    have hm : ∀ b ∈ (cs.map g).mergeSort (PySem.W.dataLe false fun b : V × PyData => b.2), g (gi b) = b := fun b hb => by
      obtain ⟨x, _, rfl⟩ := List.mem_map.mp (hperm.mem_iff.mp hb)
      rw [hgi]
    have e3 : (((cs.map g).mergeSort (PySem.W.dataLe false fun b : V × PyData => b.2)).map gi).map g = (cs.map g).mergeSort (PySem.W.dataLe false fun b : V × PyData => b.2) := by
      rw [List.map_map]
      conv => rhs; rw [← List.map_id ((cs.map g).mergeSort _)]
      exact List.map_congr_left fun b hb => hm b hb
    have hso : (((cs.map g).mergeSort (PySem.W.dataLe false fun b : V × PyData => b.2)).map gi).map (·.2) |>.Pairwise (fun a b => a ≤ b) := by
      have h1 : ((((cs.map g).mergeSort (PySem.W.dataLe false fun b : V × PyData => b.2)).map gi).map g).Pairwise (fun p q => (!PySem.W.dataLt q.2 p.2) = true) := by
        rw [e3]
        exact List.pairwise_mergeSort (le := fun p q : V × PyData => !PySem.W.dataLt q.2 p.2) (fun a b c z1 z2 => dle_trans z1 z2) (fun a b => dle_total _ _) _
      rw [List.pairwise_map] at h1 ⊢
      refine h1.imp fun {x y} z => ?_
      have z : (!PySem.W.dataLt (tupD y.2) (tupD x.2)) = true := z
      rw [dataLt_tup] at z
      exact List.not_lt.mp (by simpa using z)
    have := q _ p ((hperm.map gi).trans (by
      rw [List.map_map]
      have : (cs.map fun x => gi (g x)) = cs := by
        conv => rhs; rw [← List.map_id cs]
        exact List.map_congr_left fun x _ => hgi x
      show (cs.map fun x => gi (g x)).Perm cs
      rw [this])) hso np
    have e4 : (((cs.map g).mergeSort (PySem.W.dataLe false fun b : V × PyData => b.2)).map gi).map (fun x => V.ref x.1) = ((cs.map g).mergeSort (PySem.W.dataLe false fun b : V × PyData => b.2)).map fun b => b.1 := by
      conv => rhs; rw [← e3]
      rw [List.map_map (f := g)]
      rfl
    rw [e4] at this
    exact this
end
theorem TR.mono {H H' : Hp} {cs : List (Addr × List Int)} (t : TR H cs) (s : ∀ a xs, H a = some (.tup xs) → H' a = some (.tup xs)) : TR H' cs := fun x hx => s _ _ (t x hx)
theorem TR.app {H : Hp} {cs : List (Addr × List Int)} {a : Addr} {p : List Int} (t : TR H cs) (h : H a = some (.tup (p.map V.int))) : TR H (cs ++ [(a, p)]) := fun x hx => by
  rcases List.mem_append.mp hx with hx | hx
  · exact t x hx
  · rw [List.mem_singleton.mp hx]
    exact h
theorem tups_eqv (cs : List (Addr × List Int)) : PyData.eqv (.list (cs.map fun x => tupD x.2)) (.list []) = cs.isEmpty := by
  cases cs <;> simp [PyData.eqv, PyData.eqvAll]
theorem sh_tups {n : Nat} (cs : List (Addr × List Int)) : Sh (n + 2) (.list (cs.map fun x => tupD x.2)) := sh_list fun d hd => by
  obtain ⟨x, _, rfl⟩ := List.mem_map.mp hd
  exact sh_tup _
theorem LawHeap.valid {many : Nat} {h : HeapM} (L : LawHeap many h) {st : List (Option Rf)} (hs : ∀ r ∈ st, OkRf many r) : ValidH h st := by
  have key : ∀ {i : Int}, OkRf many (some (.obj i)) → i ∈ h.map (·.1) := fun {i} z => by
    rw [L.keys]
    exact List.mem_map.mpr ⟨i.toNat, List.mem_range.mpr (by have := z.2; have := z.1; omega), by have := z.1; omega⟩
  refine ⟨fun i m => key (hs _ m), fun j i m => ?_⟩
  unfold fieldsOf at m
  cases e : h.lookup j with
  | none => rw [e] at m; cases m
  | some fs =>
    rw [e] at m
    exact key ((L.refs _ (lookup_mem e)).2 _ m)
theorem LawHeap.len {many : Nat} {h : HeapM} (L : LawHeap many h) : h.length = many := by
  have := congrArg List.length L.keys
  rwa [List.length_map, List.length_map, List.length_range] at this
theorem LawHeap.fields {many : Nat} {h : HeapM} (L : LawHeap many h) (i : Int) : (fieldsOf h i).length ≤ 4 := by
  unfold fieldsOf
  cases e : h.lookup i with
  | none => exact Nat.zero_le _
  | some fs => exact (L.refs _ (lookup_mem e)).1
theorem LawHeap.small {many : Nat} {h : HeapM} (L : LawHeap many h) (hm : many ≤ 8) : HeapSmall h := ⟨by rw [L.len]; omega, fun i => Nat.le_trans (L.fields i) (by decide)⟩
/-- the rows of the law at a turn -/
structure LR (h : HeapM) (st : List (Option Rf)) (t : Nat) (R : List (List Int)) : Prop where
  w : ∀ r ∈ R, ∃ v, Wk h st t r v
  l : Lev h st t R
  b : ∀ r ∈ R, ∀ v, Wk h st t r v → Dst h st t v → Bst h st t r v
theorem LR.next {h : HeapM} {st : List (Option Rf)} {t : Nat} {R C S : List (List Int)} {kn : List Int} (L : LR h st t R) (N : Nx [] C S kn) (snd : ∀ c ∈ C, ∃ p ∈ R, ∃ u v, Wk h st t p u ∧ some (Rf.obj v) ∈ fieldsOf h u ∧ c = p ++ [v])
    (ful : ∀ p ∈ R, ∀ u v, Wk h st t p u → some (Rf.obj v) ∈ fieldsOf h u → v ∉ p → p ++ [v] ∈ C) : LR h st (t + 1) S := by
  have wk : ∀ c ∈ C, ∃ v, Wk h st (t + 1) c v := fun c hc => by
    obtain ⟨p, _, u, v, w, e, rfl⟩ := snd c hc
    exact ⟨v, .step w e⟩
  have lv : Lev h st (t + 1) S := lev_next L.l wk (fun p hp u v w d e => ful p hp u v w e (d.fresh w)) N.sub (fun r hr v hv _ => N.first r hr v hv (fun z => nomatch z)) N.uniq
  refine ⟨fun r hr => wk r (N.sub r hr), lv, fun r hr v w d => ?_⟩
  obtain ⟨p, hp, b⟩ := lv v d
  rw [N.uniq r hr p hp (w.last.trans b.1.last.symm)]
  exact b
theorem LR.few {h : HeapM} {st : List (Option Rf)} {t : Nat} {C S : List (List Int)} {kn : List Int} (V : ValidH h st) (L : LR h st t S) (N : Nx [] C S kn) : S.length ≤ h.length := by
  have h1 : (S.map fun p => p.getLast?.getD 0).Nodup := by
    rw [List.Nodup, List.pairwise_map]
    refine (List.Pairwise.and_mem.mp N.so).imp fun {p q} ⟨hp, hq, lt⟩ e => ?_
    obtain ⟨u, wu⟩ := L.w p hp
    obtain ⟨v, wv⟩ := L.w q hq
    rw [wu.last, wv.last] at e
    have e : u = v := e
    subst e
    rw [N.uniq p hp q hq (wu.last.trans wv.last.symm)] at lt
    exact List.lt_irrefl _ lt
  have h2 := nodup_le h1 (m := h.map (·.1)) fun x hx => by
    obtain ⟨p, hp, rfl⟩ := List.mem_map.mp hx
    obtain ⟨v, wv⟩ := L.w p hp
    rw [wv.last]
    exact wv.there V
  rwa [List.length_map, List.length_map] at h2
theorem inV_ints {i : Int} : ∀ is : List Int, inV (.int i) (is.map V.int) = decide (i ∈ is)
  | [] => rfl
  | j :: is => by
    show (eqV (.int j) (.int i) || inV (.int i) (is.map V.int)) = _
    rw [inV_ints is]
    show ((j == i) || decide (i ∈ is)) = _
    by_cases h : j = i
    · subst h; simp
    · have h' : ¬ i = j := fun e => h e.symm
      simp [h, h']
theorem flat_ints : ∀ is : List Int, (is.map V.int).all flatV = true
  | [] => rfl
  | _ :: is => flat_ints is
def RetPathT (r : Option (List Int)) (H : Hp) (Q : VK) : Prop := match r with
  | none => ∀ H', Same H H' → Q .non H'
  | some p => ∀ (l : Addr) (H' : Hp), Same H H' → H' l = some (.tup (p.map V.int)) → Q (.ref l) H'
def sp__law_paths (K : PySem.W.Frag) : Sp := SpOf (fun ((d, a, w, _, _, _, _) : Addr × Addr × Int × Nat × HeapM × List V × List (Option Rf)) => [.ref d, .ref a, .int w]) fun (d, a, w, many, h, vs, st) H Q =>
  HeapAt H d h ∧ SqL K H a vs ∧ Paired (RfV H) vs st ∧ ValidH h st ∧ LawHeap many h ∧ many ≤ 8 ∧ vs.length ≤ 4 ∧ ∀ r, PathTo h st w r → RetPathT r H Q
set_option maxHeartbeats 4000000 in
theorem ok__law_paths (T : Txt K mg) : DefOk P w K mg base "_law_paths" 1 ["_law_heap_here", "_law_start", "_law_number"] (sp__law_paths K) := by
  refine DefOk.mk' T.d__law_paths sc__law_paths (fun _ _ _ _ _ _ us hl => match us, hl with | [_, _, _], _ => rfl) (fun _ => rfl) (fun cdv f A outer s H p Q E hr h => ?_)
  obtain ⟨d, a, w, many, hm, vs, st⟩ := p
  obtain ⟨hH, hS, hP, hV, hL, hm8, hl, k⟩ := h
  refine ⟨_, (pss_cons (ps_set (i := 3) sc__law_paths.nd rfl (.inl rfl) (pe_callB (call_sortTR (K := K) hr.units) (by rfl) T.n_sorted (by decide +kernel) (pa_cons (pe_lc (own := [("_law_reference", 10)]) (g := gName 10) rfl sc__law_paths.nd (ilistK (K := K) (pi_list (pv 1))) (blkOk_by (own := [("_law_reference", 10)]) (N := N__law_paths) (sc := defScope s__law_paths) (by decide +kernel)) (fun _ _ _ _ _ => pg_name (i := 10) sc__law_paths.nd rfl (.inl rfl)) (fun _ _ _ _ _ => (pts_one (PW.pt (pw_and (pt_cmpR op_notN (pv 10) pe_non (nomark _)) (pw_and1 (pt_cmpR op_eq (pe_ix (ix_tupK (K := K)) (pv 10) pe_int (fun _ _ => rfl)) pe_str (nomark _))))))) (fun _ _ _ _ _ => (pe_tup (pa_cons (pe_ix (ix_tupK (K := K)) (pv 10) pe_int (fun _ _ => rfl)) pa_nil)))) pa_nil)))
    (pss_cons (ps_for PassesOwn.never rfl (pi_range1 rfl T.n_range (pa_cons (pe_op op_add (pe_callB call_lenD (by rfl) T.n_len (by decide +kernel) (pa_cons (pv 0) pa_nil)) pe_int) pa_nil)) (pg_name (i := 4) sc__law_paths.nd rfl (.inl rfl))
    (pss_cons (ps_setLc (i := 6) (own := [("_law_row", 5)]) (g := gName 5) rfl sc__law_paths.nd rfl rfl (sw_true rfl rfl rfl (by decide +kernel)) (ilistK (K := K) (pi_list (pv 3))) (blkOk_by (own := [("_law_row", 5)]) (N := N__law_paths) (sc := defScope s__law_paths) (by decide +kernel)) (fun _ _ _ _ _ => pg_name (i := 5) sc__law_paths.nd rfl (.inl rfl)) (fun _ _ _ _ _ => (pts_one (pt_cmpR op_eq (pe_ix (ix_tupK (K := K)) (pv 5) (pe_un un_neg pe_int) (fun _ _ => rfl)) (pv 2) (nomark _)))) (fun _ _ _ _ _ => (pv 5)))
    (pss_cons (ps_if (pt_cmpR (op_neK (K := K) hr.units) (pv 6) (pe_lst pa_nil) (nomark _))
    (pss_one (ps_ret (pe_ix (ix_listK (K := K)) (pv 6) pe_int (fun _ _ => rfl))))
    pss_nil)
    (pss_cons (ps_set (i := 7) sc__law_paths.nd rfl (.inl rfl) (pe_lst pa_nil))
    (pss_cons (ps_set (i := 8) sc__law_paths.nd rfl (.inl rfl) (pe_lst pa_nil))
    (pss_cons (ps_for PassesOwn.never rfl (ilistK (K := K) (pi_list (pv 3))) (pg_name (i := 5) sc__law_paths.nd rfl (.inl rfl))
    (pss_one (ps_for PassesOwn.never rfl (itupK (K := K) (pi_tup (pe_dget hr.hu (pv 0) (pe_ix (ix_tupK (K := K)) (pv 5) (pe_un un_neg pe_int) (fun _ _ => rfl)) (fun _ _ => rfl)))) (pg_name (i := 9) sc__law_paths.nd rfl (.inl rfl))
    (pss_one (ps_if (PW.pt (pw_and (pt_cmpR op_notN (pv 9) pe_non (nomark _)) (pw_and (pt_cmpR op_eq (pe_ix (ix_tupK (K := K)) (pv 9) pe_int (fun _ _ => rfl)) pe_str (nomark _)) (pw_and1 (pt_cmpR (op_notInK (K := K)) (pe_ix (ix_tupK (K := K)) (pv 9) pe_int (fun _ _ => rfl)) (pv 5) rfl)))))
    (pss_one (ps_expr (bmK (K := K) (pe_bm PySem.F.plainAttrs_list PySem.F.slot_list_append PySem.F.type_list_append mt_append (pv 7) (pa_cons (pe_op (op_catTK (K := K)) (pv 5) (pe_tup (pa_cons (pe_ix (ix_tupK (K := K)) (pv 9) pe_int (fun _ _ => rfl)) pa_nil))) pa_nil)))))
    pss_nil)))))
    (pss_cons (ps_for PassesOwn.never rfl (ilistK (K := K) (pi_list (pe_callB (call_sortTR (K := K) hr.units) (by rfl) T.n_sorted (by decide +kernel) (pa_cons (pv 7) pa_nil)))) (pg_name (i := 5) sc__law_paths.nd rfl (.inl rfl))
    (pss_one (ps_if (pt_cmpR (op_notInK (K := K)) (pe_ix (ix_tupK (K := K)) (pv 5) (pe_un un_neg pe_int) (fun _ _ => rfl)) (pe_lc (own := [("_law_other", 11)]) (g := gName 11) (tt := tYes) rfl sc__law_paths.nd (ilistK (K := K) (pi_list (pv 8))) (blkOk_by (own := [("_law_other", 11)]) (N := N__law_paths) (sc := defScope s__law_paths) (by decide +kernel)) (fun _ _ _ _ _ => pg_name (i := 11) sc__law_paths.nd rfl (.inl rfl)) (fun _ _ _ _ _ => pts_nil) (fun _ _ _ _ _ => (pe_ix (ix_tupK (K := K)) (pv 11) (pe_un un_neg pe_int) (fun _ _ => rfl)))) rfl)
    (pss_one (ps_expr (bmK (K := K) (pe_bm PySem.F.plainAttrs_list PySem.F.slot_list_append PySem.F.type_list_append mt_append (pv 8) (pa_cons (pv 5) pa_nil)))))
    pss_nil)))
    (pss_one (ps_set (i := 3) sc__law_paths.nd rfl (.inl rfl) (pv 8))))))))))
    (pss_one (ps_ret pe_non)))), ?_⟩
  obtain ⟨kvs, hd, hkv⟩ := hH
  have hlen := hL.len
  have hkl : kvs.length = many := by rw [Paired.length hkv, hlen]
  -- the start
  refine ⟨_, rfl, a, rfl, ⟨_, hS⟩, fun D nD => ?_⟩
  refine lc_list (xs := vs) (fun i H' => Same H H' ∧ ∃ cs : List (Addr × List Int), cs.length ≤ i ∧ H' D = some (.lst (cs.map fun x => V.ref x.1)) ∧ TR H' cs ∧ ∀ p, p ∈ cs.map (·.2) ↔ ∃ v, p = [v] ∧ some (Rf.obj v) ∈ st.take i)
    ⟨nws nD (Same.refl _), [], Nat.le_refl _, upd_same, (fun _ m => nomatch m), fun p => by simp⟩ (fun i H' _ ⟨s, _⟩ => s.seq hS) ?_ ?_
  · rintro i x H' hx ⟨s, cs, hcl, hD, hT, hm⟩
    obtain ⟨r, hr, rx⟩ := pairedGet hP hx
    have hil : i < vs.length := (List.getElem?_eq_some_iff.mp hx).1
    have et : ∀ z, z ∈ st.take (i + 1) ↔ z ∈ st.take i ∨ z = r := fun z => by
      rw [List.take_add_one, hr, List.mem_append]
      simp
    have skip : (∀ j, r ≠ some (Rf.obj j)) → Same H H' ∧ ∃ cs : List (Addr × List Int), cs.length ≤ i + 1 ∧ H' D = some (.lst (cs.map fun x => V.ref x.1)) ∧ TR H' cs ∧ ∀ p, p ∈ cs.map (·.2) ↔ ∃ v, p = [v] ∧ some (Rf.obj v) ∈ st.take (i + 1) := fun hn =>
      ⟨s, cs, by omega, hD, hT, fun p => by
        rw [hm]
        exact ⟨fun ⟨v, e, z⟩ => ⟨v, e, (et _).mpr (.inl z)⟩, fun ⟨v, e, z⟩ => ⟨v, e, ((et _).mp z).elim id fun z => absurd z.symm (hn v)⟩⟩⟩
    rcases rx.non_or with ⟨rfl, rfl⟩ | ⟨j, t, rfl, rfl, ht⟩ | ⟨p, e, t, rfl, rfl, ht⟩
    · exact ⟨rfl, _, rfl, rfl, _, rfl, ite2 (fun h => absurd h (by decide)) (fun _ => ite2 (fun h => nomatch h) fun _ => skip fun j e => nomatch e)⟩
    · refine ⟨rfl, _, rfl, rfl, _, rfl, ite2 (fun _ => ?_) (fun h => absurd rfl h)⟩
      refine ⟨_, rfl, t, _, 0, _, rfl, rfl, SqT.of (s _ _ ht), rfl, rfl, _, rfl, ite2 (fun _ => ?_) (fun h => absurd rfl h)⟩
      refine ⟨_, rfl, t, _, 1, _, rfl, rfl, SqT.of (s _ _ ht), rfl, (by show 1 ≤ sizeLine; decide), fun t1 nt1 => ?_⟩
      have hD1 := nw (u := .tup [.int j]) nt1 hD
      have tu : ∀ a xs, upd H' t1 (.tup [.int j]) a = some (.tup xs) → upd (upd H' t1 (.tup [.int j])) D (.lst (cs.map (fun x => V.ref x.1) ++ [V.ref t1])) a = some (.tup xs) := fun a xs e => by
        rw [upd_ne (fun z => by rw [z, hD1] at e; cases e)]
        exact e
      refine ⟨_, hD1, by rw [List.length_map]; exact small1000 (by omega), same_mut (nws nt1 s) nD, cs ++ [(t1, [j])], by rw [List.length_append, List.length_singleton]; omega, ?_, ?_, fun p => ?_⟩
      · rw [upd_same, List.map_append]
        rfl
      · exact (TR.app (p := [j]) (hT.mono fun a xs e => nw nt1 e) upd_same).mono tu
      · rw [List.map_append, List.mem_append, hm]
        constructor
        · rintro (⟨v, e, z⟩ | z)
          · exact ⟨v, e, (et _).mpr (.inl z)⟩
          · exact ⟨j, List.mem_singleton.mp z, (et _).mpr (.inr rfl)⟩
        · rintro ⟨v, e, z⟩
          rcases (et _).mp z with z | z
          · exact .inl ⟨v, e, z⟩
          · cases z
            exact .inr (List.mem_singleton.mpr e)
    · refine ⟨rfl, _, rfl, rfl, _, rfl, ite2 (fun _ => ?_) (fun h => absurd rfl h)⟩
      exact ⟨_, rfl, t, _, 0, _, rfl, rfl, SqT.of (s _ _ ht), rfl, rfl, _, rfl, ite2 (fun h => absurd h (by decide)) (fun _ => skip fun j e => nomatch e)⟩
  rintro H1 ⟨s1, cs, hcl, hD, hT, hcm⟩
  rw [Paired.length hP, List.take_length] at hcm
  refine ⟨D, cs, rfl, SqL.of hD, hT, fun x hx => ?_, fun es p1 pe se np1 => ?_⟩
  · obtain ⟨v, e, _⟩ := (hcm x.2).mp (List.mem_map.mpr ⟨x, hx, rfl⟩)
    rw [e]
    exact fun z => nomatch z
  have s2 : Same H (upd H1 p1 (.lst (es.map fun x => V.ref x.1))) := nws np1 s1
  have T2 : TR (upd H1 p1 (.lst (es.map fun x => V.ref x.1))) es := fun x hx => nw np1 (hT x (pe.mem_iff.mp hx))
  have hem : ∀ p, p ∈ es.map (·.2) ↔ ∃ v, p = [v] ∧ some (Rf.obj v) ∈ st := fun p => (pe.map _).mem_iff.trans (hcm p)
  have L0 : LR hm st 0 (es.map (·.2)) := by
    refine ⟨fun r hr => ?_, fun v dv => ?_, fun r hr v w dv => ?_⟩
    · obtain ⟨v, rfl, m⟩ := (hem r).mp hr
      exact ⟨v, .base m⟩
    · obtain ⟨⟨p, w⟩, _⟩ := dv
      cases w with
      | base m => exact ⟨[v], (hem _).mpr ⟨v, rfl, m⟩, .base m, fun q wq => by
          cases wq with
          | base _ => exact List.le_refl _⟩
    · cases w with
      | base m => exact ⟨.base m, fun q wq => by
          cases wq with
          | base _ => exact List.le_refl _⟩
  have hel : es.length ≤ 8 := by rw [pe.length_eq]; omega
  have hp1 : upd H1 p1 (.lst (es.map fun x => V.ref x.1)) p1 = some (.lst (es.map fun x => V.ref x.1)) := upd_same
  generalize upd H1 p1 (.lst (es.map fun x => V.ref x.1)) = H2 at s2 T2 hp1 ⊢
  clear hem pe se np1 hcm hT hD hcl cs s1 nD
  refine ⟨_, rfl, d, kvs, rfl, s2 _ _ hd, _, _, rfl, rfl, _, rfl, by omega, by omega, for_range (lo := 0) (n := ((kvs.length : Int) + 1).toNat)
    (fun t σ H' => ∃ (v4 v5 v6 v7 v8 v9 : Option V) (p : Addr) (es : List (Addr × List Int)), σ = [some (.ref d), some (.ref a), some (.int w), some (.ref p), v4, v5, v6, v7, v8, v9, none, none] ∧
      Same H H' ∧ H' p = some (.lst (es.map fun x => V.ref x.1)) ∧ TR H' es ∧ LR hm st t (es.map (·.2)) ∧ es.length ≤ 8 ∧ ∀ m, m < t → ¬ Dst hm st m w)
    ⟨_, _, _, _, _, _, p1, es, rfl, s2, hp1, T2, L0, hel, fun m z => absurd z (by omega)⟩ ?_ ?_⟩
  · rintro t σ H' ht ⟨v4, v5, v6, v7, v8, v9, p, es, rfl, s, hp, T, L, hel, hno⟩
    have hlast : ∀ {i : Nat} {x : Addr × List Int}, es[i]? = some x → ∃ u, Wk hm st t x.2 u := fun hx => L.w _ (List.mem_map.mpr ⟨_, List.mem_of_getElem? hx, rfl⟩)
    let fl : Addr × List Int → Bool := fun x => decide (x.2.getLast? = some w)
    refine ⟨_, rfl, p, rfl, ⟨_, SqL.of hp⟩, fun D nD => ?_⟩
    refine lc_list (xs := es.map fun x => V.ref x.1) (fun i H2 => Same H' H2 ∧ H2 D = some (.lst (((es.take i).filter fl).map fun x => V.ref x.1)))
      ⟨nws nD (Same.refl _), upd_same⟩ (fun i H2 _ ⟨s2, _⟩ => SqL.of (s2 _ _ hp)) ?_ ?_
    · rintro i x H2 hx ⟨s2, hD⟩
      rw [List.getElem?_map] at hx
      obtain ⟨y, hy, rfl⟩ := Option.map_eq_some_iff.mp hx
      obtain ⟨u, wu⟩ := hlast hy
      have hil : i < es.length := (List.getElem?_eq_some_iff.mp hy).1
      have ef : (es.take (i + 1)).filter fl = (es.take i).filter fl ++ [y].filter fl := by
        rw [List.take_add_one, hy, List.filter_append]
        rfl
      refine ⟨rfl, _, rfl, _, rfl, y.1, _, -1, _, rfl, rfl, SqT.of (s2 _ _ (T y (List.mem_of_getElem? hy))), atI_last wu.last, _, rfl, rfl, _, rfl, ite2 (fun h => ?_) (fun h => ?_)⟩
      · have h : u = w := V.int.inj (of_decide_eq_true h)
        have hfy : fl y = true := by show decide _ = true; rw [wu.last, h]; exact decide_eq_true rfl
        refine ⟨_, rfl, _, hD, ?_, same_mut s2 nD, ?_⟩
        · have h4 := List.length_filter_le fl (es.take i)
          rw [List.length_take] at h4
          rw [List.length_map]
          exact small1000 (by omega)
        · rw [upd_same, ef, List.filter_cons_of_pos hfy, List.filter_nil, List.map_append]
          rfl
      · have h : u ≠ w := fun e => h (decide_eq_true (by rw [e]))
        have hfy : ¬ fl y = true := fun z => h (by
          have z := of_decide_eq_true z
          rw [wu.last] at z
          exact Option.some.inj z)
        exact ⟨s2, by rw [ef, List.filter_cons_of_neg hfy, List.filter_nil, List.append_nil]; exact hD⟩
    rintro H2 ⟨s2, hD⟩
    rw [List.length_map, List.take_length] at hD
    have hsub : ∀ x ∈ es.filter fl, x ∈ es ∧ x.2.getLast? = some w := fun x hx => ⟨(List.mem_filter.mp hx).1, of_decide_eq_true (List.mem_filter.mp hx).2⟩
    have T2 : TR H2 (es.filter fl) := fun x hx => s2 _ _ (T x (hsub x hx).1)
    refine ⟨_, rfl, Nat.zero_le _, fun e ne => ?_⟩
    have T3 : TR (upd H2 e (.lst [])) (es.filter fl) := T2.mono fun a xs q => nw ne q
    refine ⟨.list ((es.filter fl).map fun x => tupD x.2), .list [], .lst (SqL.of (nw ne hD)) (dp_tups T3), .lst (SqL.of upd_same) .nil, (sh_tups (n := 0) _).shaped (by decide), rfl, _, rfl, ?_⟩
    rw [tups_eqv]
    have se : Same H' (upd H2 e (.lst [])) := nws ne s2
    refine ite2 (fun h => ?_) (fun h => ?_)
    · generalize hfs : es.filter fl = fs at hD hsub T3 h
      cases fs with
      | nil => cases h
      | cons y l =>
        obtain ⟨hy, hyl⟩ := hsub y List.mem_cons_self
        obtain ⟨u, wu⟩ := L.w _ (List.mem_map.mpr ⟨y, hy, rfl⟩)
        have eu : u = w := by rw [wu.last] at hyl; exact Option.some.inj hyl
        subst eu
        have du : Dst hm st t u := by
          obtain ⟨m, hm', d⟩ := dst_of wu
          have : ¬ m < t := fun z => hno m z d
          have e : m = t := by omega
          rwa [e] at d
        exact ⟨_, rfl, D, _, 0, V.ref y.1, rfl, rfl, SqL.of (nw ne hD), atI_nat (j := 0) rfl, k (some y.2) ⟨t, du, L.b _ (List.mem_map.mpr ⟨y, hy, rfl⟩) u wu du⟩ y.1 _ (s.trans se) (T3 y List.mem_cons_self)⟩
    have hfe : es.filter fl = [] := by
      cases e : es.filter fl with
      | nil => rfl
      | cons x l => rw [e] at h; exact absurd rfl h
    have hno' : ∀ m, m < t + 1 → ¬ Dst hm st m w := fun m hm' d => by
      by_cases z : m < t
      · exact hno m z d
      · have em : m = t := by omega
        subst em
        obtain ⟨q, hq, b⟩ := L.l w d
        obtain ⟨x, hx, rfl⟩ := List.mem_map.mp hq
        have : x ∈ es.filter fl := List.mem_filter.mpr ⟨hx, decide_eq_true b.1.last⟩
        rw [hfe] at this
        cases this
    have se3 := s.trans se
    have hp3 := se _ _ hp
    have TE : TR (upd H2 e (.lst [])) es := T.mono (Same.tups se)
    generalize upd H2 e (.lst []) = H3 at se3 hp3 TE ⊢
    clear T3 T2 hsub hD s2 se nD ne hfe h
    refine ⟨Nat.zero_le _, fun Lg nLg => ⟨Nat.zero_le _, fun Se nSe => ?_⟩⟩
    have ls : Lg ≠ Se := fun z => by rw [← z, upd_same] at nSe; cases nSe
    have nSe3 : H3 Se = none := (nws nLg (Same.refl H3)).free nSe
    refine ⟨_, rfl, p, rfl, ⟨_, SqL.of (nw nSe (nw nLg hp3))⟩, for_list (xs := es.map fun x => V.ref x.1) (fun i σ H4 => ∃ (v5 v9 : Option V) (ls : List (Addr × List Int)), σ = [some (.ref d), some (.ref a), some (.int w), some (.ref p), some (.int (0 + (t : Int))), v5, some (.ref D), some (.ref Lg), some (.ref Se), v9, none, none] ∧
        Same H3 H4 ∧ H4 Lg = some (.lst (ls.map fun x => V.ref x.1)) ∧ H4 Se = some (.lst []) ∧ TR H4 ls ∧ (∀ c ∈ ls.map (·.2), ∃ q ∈ es.map (·.2), ∃ u v, Wk hm st t q u ∧ some (Rf.obj v) ∈ fieldsOf hm u ∧ c = q ++ [v]) ∧
        (∀ q ∈ (es.take i).map (·.2), ∀ u v, Wk hm st t q u → some (Rf.obj v) ∈ fieldsOf hm u → v ∉ q → q ++ [v] ∈ ls.map (·.2)) ∧ ls.length ≤ 4 * i)
      ⟨v5, v9, [], rfl, nws nSe (nws nLg (Same.refl H3)), by rw [upd_ne ls]; exact upd_same, upd_same, (fun _ m => nomatch m), (fun _ m => nomatch m), (fun _ m => nomatch m), Nat.le_refl _⟩
      (fun i σ H4 _ ⟨_, _, _, _, s4, _⟩ => SqL.of (s4 _ _ hp3)) ?_ ?_⟩
    · rintro i x σ H4 hx ⟨v5, v9, ls', rfl, s4, hLg, hSe, hT, hsnd, hful, hll⟩
      rw [List.getElem?_map] at hx
      obtain ⟨⟨ya, P⟩, hy, rfl⟩ := Option.map_eq_some_iff.mp hx
      have hym := List.mem_of_getElem? hy
      obtain ⟨u, wu⟩ := hlast hy
      have hil : i < es.length := (List.getElem?_eq_some_iff.mp hy).1
      have wu : Wk hm st t P u := wu
      have hP4 := s4 _ _ (TE _ hym)
      obtain ⟨fs, hfs⟩ := lookup_of_mem (wu.there hV)
      obtain ⟨ft, fv, e1, e2, e3⟩ := (valV_heap hkv u).2 fs hfs
      have efs : fieldsOf hm u = fs := by show (hm.lookup u).getD [] = fs; rw [hfs]; rfl
      have hfl : fv.length ≤ 4 := by rw [Paired.length e3, ← efs]; exact hL.fields u
      have sH : ∀ {H5}, Same H3 H5 → Same H H5 := fun z => se3.trans z
      have etk : (es.take (i + 1)).map (·.2) = (es.take i).map (·.2) ++ [P] := by rw [List.take_add_one, hy, List.map_append]; rfl
      refine ⟨_, rfl, _, rfl, _, rfl, ya, _, -1, _, rfl, rfl, SqT.of hP4, atI_last wu.last, d, _, rfl, .inl ⟨kvs, .inl u, .inl (sH s4 _ _ hd), rfl, e1.symm⟩, ft, rfl, ⟨_, SqT.of (sH s4 _ _ e2)⟩, ?_⟩
      refine for_tup (xs := fv) (fun j σ H5 => ∃ (v9 : Option V) (ls : List (Addr × List Int)), σ = [some (.ref d), some (.ref a), some (.int w), some (.ref p), some (.int (0 + (t : Int))), some (.ref ya), some (.ref D), some (.ref Lg), some (.ref Se), v9, none, none] ∧
          Same H3 H5 ∧ H5 Lg = some (.lst (ls.map fun x => V.ref x.1)) ∧ H5 Se = some (.lst []) ∧ TR H5 ls ∧ (∀ c ∈ ls.map (·.2), ∃ q ∈ es.map (·.2), ∃ u v, Wk hm st t q u ∧ some (Rf.obj v) ∈ fieldsOf hm u ∧ c = q ++ [v]) ∧
          (∀ q ∈ (es.take i).map (·.2), ∀ u v, Wk hm st t q u → some (Rf.obj v) ∈ fieldsOf hm u → v ∉ q → q ++ [v] ∈ ls.map (·.2)) ∧ (∀ v, some (Rf.obj v) ∈ fs.take j → v ∉ P → P ++ [v] ∈ ls.map (·.2)) ∧ ls.length ≤ 4 * i + j)
        ⟨v9, ls', rfl, s4, hLg, hSe, hT, hsnd, hful, (fun v m => by simp at m), hll⟩ (fun j σ H5 _ ⟨_, _, _, s5, _⟩ => SqT.of (sH s5 _ _ e2)) ?_ ?_
      · rintro j y σ H5 hy5 ⟨v9, ls5, rfl, s5, hLg5, hSe5, hT5, hsnd5, hful5, hcur, hl5⟩
        obtain ⟨r, hr, rx⟩ := pairedGet e3 hy5
        have hjl : j < fv.length := (List.getElem?_eq_some_iff.mp hy5).1
        have et : ∀ z, z ∈ fs.take (j + 1) ↔ z ∈ fs.take j ∨ z = r := fun z => by
          rw [List.take_add_one, hr, List.mem_append]
          simp
        have hrm : r ∈ fieldsOf hm u := by rw [efs]; exact List.mem_of_getElem? hr
        have skip : ∀ v9', (∀ v, r = some (Rf.obj v) → v ∈ P) → ∃ (v9 : Option V) (ls : List (Addr × List Int)), [some (.ref d), some (.ref a), some (.int w), some (.ref p), some (.int (0 + (t : Int))), some (.ref ya), some (.ref D), some (.ref Lg), some (.ref Se), v9', none, none] = [some (V.ref d), some (.ref a), some (.int w), some (.ref p), some (.int (0 + (t : Int))), some (.ref ya), some (.ref D), some (.ref Lg), some (.ref Se), v9, none, none] ∧
            Same H3 H5 ∧ H5 Lg = some (.lst (ls.map fun x => V.ref x.1)) ∧ H5 Se = some (.lst []) ∧ TR H5 ls ∧ (∀ c ∈ ls.map (·.2), ∃ q ∈ es.map (·.2), ∃ u v, Wk hm st t q u ∧ some (Rf.obj v) ∈ fieldsOf hm u ∧ c = q ++ [v]) ∧
            (∀ q ∈ (es.take i).map (·.2), ∀ u v, Wk hm st t q u → some (Rf.obj v) ∈ fieldsOf hm u → v ∉ q → q ++ [v] ∈ ls.map (·.2)) ∧ (∀ v, some (Rf.obj v) ∈ fs.take (j + 1) → v ∉ P → P ++ [v] ∈ ls.map (·.2)) ∧ ls.length ≤ 4 * i + (j + 1) := fun v9' hn =>
          ⟨v9', ls5, rfl, s5, hLg5, hSe5, hT5, hsnd5, hful5, fun v m hv => ((et _).mp m).elim (fun z => hcur v z hv) fun z => absurd (hn v z.symm) hv, by omega⟩
        rcases rx.non_or with ⟨rfl, rfl⟩ | ⟨jj, tt, rfl, rfl, htt⟩ | ⟨pp, ee, tt, rfl, rfl, htt⟩
        · exact ⟨_, rfl, rfl, _, rfl, ite2 (fun h => absurd h (by decide)) (fun _ => ite2 (fun h => nomatch h) fun _ => skip _ fun v e => nomatch e)⟩
        · have ht5 := sH s5 _ _ htt
          refine ⟨_, rfl, rfl, _, rfl, ite2 (fun _ => ?_) (fun h => absurd rfl h)⟩
          refine ⟨_, rfl, tt, _, 0, _, rfl, rfl, SqT.of ht5, rfl, rfl, _, rfl, ite2 (fun _ => ?_) (fun h => absurd rfl h)⟩
          refine ⟨_, rfl, tt, _, 1, _, rfl, rfl, SqT.of ht5, rfl, _, rfl, ya, _, rfl, .inr (SqT.of (s5 _ _ (TE _ hym))), rfl, flat_ints P, _, rfl, ?_⟩
          rw [inV_ints]
          by_cases hjP : jj ∈ P
          · refine ite2 (fun h => ?_) (fun _ => skip _ fun v e => by cases e; exact hjP)
            rw [decide_eq_true hjP] at h
            cases h
          · refine ite2 (fun _ => ?_) (fun h => absurd (by rw [decide_eq_false hjP]; rfl) h)
            refine ⟨_, rfl, .inl ⟨rfl, _, SqL.of hLg5⟩, _, rfl, _, rfl, tt, _, 1, _, rfl, rfl, SqT.of ht5, rfl, (by show 1 ≤ sizeLine; decide), fun t1 nt1 => ?_⟩
            have hPl := wu.len
            have hPn : P.map V.int ≠ [] := fun z => by
              have := congrArg List.length z
              rw [List.length_map, hPl] at this
              cases this
            refine ⟨ya, t1, P.map V.int, [.int jj], rfl, rfl, SqT.of (nw nt1 (s5 _ _ (TE _ hym))), SqT.of upd_same, ?_, (fun z => absurd z hPn), (fun _ z => nomatch z), fun _ _ t2 nt2 => ?_⟩
            · rw [List.length_map]
              show P.length + 1 ≤ sizeLine
              exact Nat.le_of_lt (small1000 (by omega))
            have hLg6 := nw (u := .tup (P.map V.int ++ [.int jj])) nt2 (nw (u := .tup [.int jj]) nt1 hLg5)
            refine ⟨Lg, _, _, rfl, rfl, hLg6, by rw [List.length_map]; exact small1000 (by omega), ?_⟩
            have tu : ∀ a xs, upd (upd H5 t1 (.tup [.int jj])) t2 (.tup (P.map V.int ++ [.int jj])) a = some (.tup xs) → upd (upd (upd H5 t1 (.tup [.int jj])) t2 (.tup (P.map V.int ++ [.int jj]))) Lg (.lst (ls5.map (fun x => V.ref x.1) ++ [.ref t2])) a = some (.tup xs) := fun a xs e => by
              rw [upd_ne (fun z => by rw [z, hLg6] at e; cases e)]
              exact e
            refine ⟨_, ls5 ++ [(t2, P ++ [jj])], rfl, same_mut (nws nt2 (nws nt1 s5)) nLg, by rw [upd_same, List.map_append]; rfl, ?_, ?_, fun c hc => ?_, fun q hq u' v' wq eq hv => ?_, fun v m hv => ?_, by rw [List.length_append, List.length_singleton]; omega⟩
            · rw [upd_ne (Ne.symm ls)]
              exact nw nt2 (nw nt1 hSe5)
            · refine (TR.app (hT5.mono fun a xs e => nw nt2 (nw nt1 e)) ?_).mono tu
              rw [upd_same, List.map_append]
              rfl
            · rw [List.map_append] at hc
              rcases List.mem_append.mp hc with hc | hc
              · exact hsnd5 c hc
              · exact ⟨P, List.mem_map.mpr ⟨_, hym, rfl⟩, u, jj, wu, hrm, List.mem_singleton.mp hc⟩
            · rw [List.map_append]
              exact List.mem_append_left _ (hful5 q hq u' v' wq eq hv)
            · rw [List.map_append]
              rcases (et _).mp m with z | z
              · exact List.mem_append_left _ (hcur v z hv)
              · cases z
                exact List.mem_append_right _ List.mem_cons_self
        · have ht5 := sH s5 _ _ htt
          refine ⟨_, rfl, rfl, _, rfl, ite2 (fun _ => ?_) (fun h => absurd rfl h)⟩
          exact ⟨_, rfl, tt, _, 0, _, rfl, rfl, SqT.of ht5, rfl, rfl, _, rfl, ite2 (fun h => absurd h (by decide)) (fun _ => ite2 (fun h => nomatch h) fun _ => skip _ fun v e => nomatch e)⟩
      · rintro σ H5 ⟨v9, ls5, rfl, s5, hLg5, hSe5, hT5, hsnd5, hful5, hcur, hl5⟩
        rw [Paired.length e3, List.take_length] at hcur
        refine ⟨_, _, ls5, rfl, s5, hLg5, hSe5, hT5, hsnd5, fun q hq u' v' wq eq hv => ?_, by omega⟩
        rw [etk] at hq
        rcases List.mem_append.mp hq with hq | hq
        · exact hful5 q hq u' v' wq eq hv
        · rw [List.mem_singleton.mp hq] at wq hv ⊢
          obtain ⟨_, rfl⟩ := wq.ends wu
          rw [efs] at eq
          exact hcur v' eq hv
    · rintro σ H4 ⟨v5, v9, ls', rfl, s4, hLg, hSe, hT, hsnd, hful, hll⟩
      rw [List.length_map, List.take_length] at hful
      rw [List.length_map] at hll
      refine ⟨_, rfl, Lg, ls', rfl, SqL.of hLg, hT, fun x hx => ?_, fun cs p2 pc sc np2 => ?_⟩
      · obtain ⟨q, _, u, v, _, _, e⟩ := hsnd x.2 (List.mem_map.mpr ⟨x, hx, rfl⟩)
        rw [e]
        exact List.append_ne_nil_of_right_ne_nil _ (by simp)
      have hsnd' : ∀ c ∈ cs.map (·.2), ∃ q ∈ es.map (·.2), ∃ u v, Wk hm st t q u ∧ some (Rf.obj v) ∈ fieldsOf hm u ∧ c = q ++ [v] := fun c hc => hsnd c ((pc.map _).mem_iff.mp hc)
      have hful' : ∀ q ∈ es.map (·.2), ∀ u v, Wk hm st t q u → some (Rf.obj v) ∈ fieldsOf hm u → v ∉ q → q ++ [v] ∈ cs.map (·.2) := fun q hq u v wq eq hv => (pc.map _).mem_iff.mpr (hful q hq u v wq eq hv)
      have hcl : cs.length ≤ 32 := by rw [pc.length_eq]; omega
      have s5 : Same H3 (upd H4 p2 (.lst (cs.map fun x => V.ref x.1))) := nws np2 s4
      have T5 : TR (upd H4 p2 (.lst (cs.map fun x => V.ref x.1))) cs := fun x hx => nw np2 (hT x (pc.mem_iff.mp hx))
      have hSe5 := nw (u := .lst (cs.map fun x => V.ref x.1)) np2 hSe
      have hp5 : upd H4 p2 (.lst (cs.map fun x => V.ref x.1)) p2 = some (.lst (cs.map fun x => V.ref x.1)) := upd_same
      have pS : p2 ≠ Se := fun z => by rw [z, hSe] at np2; cases np2
      generalize upd H4 p2 (.lst (cs.map fun x => V.ref x.1)) = H5 at s5 T5 hSe5 hp5 ⊢
      have hend : ∀ x ∈ cs, ∃ v, x.2.getLast? = some v := fun x hx => by
        obtain ⟨q, _, u, v, _, _, e⟩ := hsnd' x.2 (List.mem_map.mpr ⟨x, hx, rfl⟩)
        exact ⟨v, by rw [e, List.getLast?_append]; rfl⟩
      let la : Addr × List Int → Int := fun x => x.2.getLast?.getD 0
      refine ⟨p2, rfl, ⟨_, SqL.of hp5⟩, for_list (xs := cs.map fun x => V.ref x.1) (fun i σ H6 => ∃ (v5 v9 : Option V) (ss : List (Addr × List Int)), σ = [some (.ref d), some (.ref a), some (.int w), some (.ref p), some (.int (0 + (t : Int))), v5, some (.ref D), some (.ref Lg), some (.ref Se), v9, none, none] ∧
          Same H3 H6 ∧ H6 p2 = some (.lst (cs.map fun x => V.ref x.1)) ∧ H6 Se = some (.lst (ss.map fun x => V.ref x.1)) ∧ TR H6 cs ∧ (∀ x ∈ ss, x ∈ cs) ∧ ss.length ≤ i ∧ Nx [] ((cs.take i).map (·.2)) (ss.map (·.2)) (ss.map la))
        ⟨v5, v9, [], rfl, s5, hp5, hSe5, T5, (fun _ m => nomatch m), Nat.le_refl _, Nx.start List.nodup_nil⟩ (fun i σ H6 _ ⟨_, _, _, _, _, q, _⟩ => SqL.of q) ?_ ?_⟩
      · rintro i x σ H6 hx ⟨v5, v9, ss, rfl, s6, hp6, hSe6, T6, hss, hsl, N⟩
        rw [List.getElem?_map] at hx
        obtain ⟨y, hy, rfl⟩ := Option.map_eq_some_iff.mp hx
        have hym := List.mem_of_getElem? hy
        have hil : i < cs.length := (List.getElem?_eq_some_iff.mp hy).1
        obtain ⟨v, hv⟩ := hend y hym
        have etk : (cs.take (i + 1)).map (·.2) = (cs.take i).map (·.2) ++ [y.2] := by rw [List.take_add_one, hy, List.map_append]; rfl
        have hle : ∀ c ∈ (cs.take i).map (·.2), c ≤ y.2 := fun c hc => by
          obtain ⟨z, hz, rfl⟩ := List.mem_map.mp hc
          obtain ⟨m, hm', rfl⟩ := List.mem_take_iff_getElem.mp hz
          have h1 := List.pairwise_iff_getElem.mp sc m i (by rw [List.length_map]; omega) (by rw [List.length_map]; exact hil) (by omega)
          rw [List.getElem_map, List.getElem_map] at h1
          have e : cs[i] = y := (List.getElem?_eq_some_iff.mp hy).2
          rw [e] at h1
          exact h1
        refine ⟨_, rfl, _, rfl, y.1, _, -1, _, rfl, rfl, SqT.of (T6 y hym), atI_last hv, _, rfl, Se, rfl, ⟨_, SqL.of hSe6⟩, fun D2 nD2 => ?_⟩
        refine lc_list (xs := ss.map fun x => V.ref x.1) (fun j H7 => H7 = upd H6 D2 (.lst (((ss.take j).map la).map V.int))) rfl (fun j H7 _ e => by rw [e]; exact SqL.of (nw nD2 hSe6)) ?_ ?_
        · rintro j x H7 hx7 rfl
          rw [List.getElem?_map] at hx7
          obtain ⟨z, hz, rfl⟩ := Option.map_eq_some_iff.mp hx7
          have hzm := hss z (List.mem_of_getElem? hz)
          obtain ⟨v', hv'⟩ := hend z hzm
          refine ⟨rfl, _, rfl, _, rfl, z.1, _, -1, _, rfl, rfl, SqT.of (nw nD2 (T6 z hzm)), atI_last hv', _, upd_same, ?_, ?_⟩
          · rw [List.length_map, List.length_map, List.length_take]
            exact small1000 (by omega)
          · rw [upd_upd, List.take_add_one, hz, List.map_append, List.map_append]
            show _ = upd H6 D2 (.lst (_ ++ [V.int (z.2.getLast?.getD 0)]))
            rw [hv']
            rfl
        rintro _ rfl
        rw [List.length_map, List.take_length]
        refine ⟨D2, _, rfl, .inl (SqL.of upd_same), rfl, flat_ints _, _, rfl, ?_⟩
        rw [inV_ints]
        have s7 : Same H3 (upd H6 D2 (.lst ((ss.map la).map V.int))) := nws nD2 s6
        have T7 : TR (upd H6 D2 (.lst ((ss.map la).map V.int))) cs := T6.mono fun a xs e => nw nD2 e
        have hSe7 := nw (u := .lst ((ss.map la).map V.int)) nD2 hSe6
        have hp7 := nw (u := .lst ((ss.map la).map V.int)) nD2 hp6
        by_cases hvk : v ∈ ss.map la
        · refine ite2 (fun h => ?_) (fun _ => ?_)
          · rw [decide_eq_true hvk] at h
            cases h
          · exact ⟨_, _, ss, rfl, s7, hp7, hSe7, T7, hss, by omega, by rw [etk]; exact N.old hv hle hvk⟩
        · refine ite2 (fun _ => ?_) (fun h => absurd (by rw [decide_eq_false hvk]; rfl) h)
          refine ⟨_, rfl, .inl ⟨rfl, _, SqL.of hSe7⟩, _, rfl, Se, _, _, rfl, rfl, hSe7, by rw [List.length_map]; exact small1000 (by omega), ?_⟩
          have tu : ∀ a xs, upd H6 D2 (.lst ((ss.map la).map V.int)) a = some (.tup xs) → upd (upd H6 D2 (.lst ((ss.map la).map V.int))) Se (.lst (ss.map (fun x => V.ref x.1) ++ [.ref y.1])) a = some (.tup xs) := fun a xs e => by
            rw [upd_ne (fun z => by rw [z, hSe7] at e; cases e)]
            exact e
          refine ⟨_, _, ss ++ [y], rfl, same_mut s7 nSe3, by rw [upd_ne pS]; exact hp7, by rw [upd_same, List.map_append]; rfl, T7.mono tu, fun x hx => ?_, by rw [List.length_append, List.length_singleton]; omega, ?_⟩
          · rcases List.mem_append.mp hx with hx | hx
            · exact hss x hx
            · rw [List.mem_singleton.mp hx]
              exact hym
          · rw [etk, List.map_append, List.map_append]
            have ela : [y].map la = [v] := by
              show [y.2.getLast?.getD 0] = [v]
              rw [hv]
              rfl
            rw [ela]
            exact N.add hv hle hvk
      · rintro σ H6 ⟨v5, v9, ss, rfl, s6, hp6, hSe6, T6, hss, hsl, N⟩
        rw [List.length_map, List.take_length] at N
        have L' := L.next N hsnd' hful'
        have hfew := L'.few hV N
        rw [List.length_map] at hfew
        exact ⟨_, rfl, _, _, _, _, _, _, Se, ss, rfl, se3.trans s6, hSe6, fun x hx => T6 x (hss x hx), L', by omega, hno'⟩
  · rintro σ H' ⟨v4, v5, v6, v7, v8, v9, p, es, rfl, s, hp, T, L, hel, hno⟩
    refine k none (fun n q wq => ?_) H' s
    obtain ⟨m, _, dm⟩ := dst_of wq
    exact hno m (by have := dm.short hV; omega) dm

end
section
open PySem PySem.Spec PyProof.Rows L2
variable {P : Program} {w : World} {K : PySem.W.Frag} {mg : Str → Option Value} {base : Heap}
def sp_law (K : PySem.W.Frag) : Sp := SpOf (fun ((a, _) : Addr × List Int) => [.ref a]) fun (a, ns) H Q => SqL K H a (ns.map V.int) ∧ ns.length ≤ 63 ∧ ∀ H', Q (.bl true) H'
set_option maxHeartbeats 4000000 in
theorem ok_law (T : Txt K mg) : DefOk P w K mg base "law" 3 ["_law_script"] (sp_law K) := by
  have G__law_digits := ok__law_digits (P := P) (w := w) (base := base) T
  have G__law_heap := ok__law_heap (P := P) (w := w) (base := base) T
  have G__law_draw := ok__law_draw (P := P) (w := w) (base := base) T
  have G__law_paths := ok__law_paths (P := P) (w := w) (base := base) T
  have G_shortest_path := ok_shortest_path (P := P) (w := w) (base := base) T
  have G__law_alike := ok__law_alike (P := P) (w := w) (base := base) T
  refine DefOk.mk' T.d_law sc_law (fun _ _ _ _ _ _ us hl => match us, hl with | [_], _ => rfl) (fun _ => rfl) (fun cdv f A outer s H p Q E hr h => ?_)
  obtain ⟨a, ns⟩ := p
  obtain ⟨hS, _, k⟩ := h
  refine ⟨_, (pss_cons (ps_set (i := 1) sc_law.nd rfl (.inl rfl) (pe_lst (pa_cons (pe_callD G__law_digits (hr.mono (by decide)) rfl (pa_cons (pv 0) (pa_cons pe_int (pa_cons pe_int pa_nil)))) (pa_cons pe_int pa_nil))))
    (pss_cons (ps_for PassesOwn.never rfl (pi_range1 rfl T.n_range (pa_cons pe_int pa_nil)) (pg_name (i := 2) sc_law.nd rfl (.inl rfl))
    (pss_cons (ps_set (i := 3) sc_law.nd rfl (.inl rfl) (pe_callD G__law_heap (hr.mono (by decide)) rfl (pa_cons (pv 1) pa_nil)))
    (pss_cons (ps_set (i := 4) sc_law.nd rfl (.inl rfl) (pe_lst pa_nil))
    (pss_cons (ps_for PassesOwn.never rfl (pi_range1 rfl T.n_range (pa_cons (pe_callD G__law_draw (hr.mono (by decide)) rfl (pa_cons (pv 1) (pa_cons pe_int pa_nil))) pa_nil)) (pg_name (i := 5) sc_law.nd rfl (.inl rfl))
    (pss_one (ps_expr (bmK (K := K) (pe_bm PySem.F.plainAttrs_list PySem.F.slot_list_append PySem.F.type_list_append mt_append (pv 4) (pa_cons (pe_ix (ix_listK (K := K)) (pe_lst (pa_cons (pe_tup (pa_cons pe_str (pa_cons (pe_callD G__law_draw (hr.mono (by decide)) rfl (pa_cons (pv 1) (pa_cons (pe_callB (call_max2 rfl) (by rfl) T.n_max (by decide +kernel) (pa_cons pe_int (pa_cons (pe_callB call_lenD (by rfl) T.n_len (by decide +kernel) (pa_cons (pv 3) pa_nil)) pa_nil))) pa_nil))) pa_nil))) (pa_cons (pe_tup (pa_cons pe_str (pa_cons pe_int (pa_cons pe_int pa_nil)))) (pa_cons pe_non pa_nil)))) (pe_ix (ix_listK (K := K)) (pe_lst (pa_cons pe_int (pa_cons pe_int (pa_cons pe_int (pa_cons pe_int pa_nil))))) (pe_callD G__law_draw (hr.mono (by decide)) rfl (pa_cons (pv 1) (pa_cons pe_int pa_nil))) (fun _ _ => rfl)) (fun _ _ => rfl)) pa_nil))))))
    (C8.pss_cut (ps_if (pt_cmpR (op_eqDE (Nat.lt_of_succ_lt hr.hu)) (pv 3) pe_dnewK (nomark _))
    (pss_one (ps_setLc (i := 4) (own := [("_law_reference", 10)]) (g := gName 10) rfl sc_law.nd rfl rfl (sw_true rfl rfl rfl (by decide +kernel)) (ilistK (K := K) (pi_list (pv 4))) (blkOk_by (own := [("_law_reference", 10)]) (N := N_law) (sc := defScope s_law) (by decide +kernel)) (fun _ _ _ _ _ => pg_name (i := 10) sc_law.nd rfl (.inl rfl)) (fun _ _ _ _ _ => (pts_one (PW.pt (pw_or (pt_cmpR op_isN (pv 10) pe_non (nomark _)) (pw_or1 (pt_cmpR op_ne (pe_ix (ix_tupK (K := K)) (pv 10) pe_int (fun _ _ => rfl)) pe_str (nomark _))))))) (fun _ _ _ _ _ => (pv 10))))
    pss_nil)
    (pss_cons (ps_set (i := 6) sc_law.nd rfl (.inl rfl) (pe_callTy (call_listK (K := K)) (by rfl) T.n_list (by decide +kernel) (pa_cons (pv 4) pa_nil)))
    (pss_cons (ps_for PassesOwn.never rfl (pi_range1 rfl T.n_range (pa_cons (pe_op op_add (pe_callB call_lenD (by rfl) T.n_len (by decide +kernel) (pa_cons (pv 3) pa_nil)) pe_int) pa_nil)) (pg_name (i := 7) sc_law.nd rfl (.inl rfl))
    (pss_cons (ps_set (i := 8) sc_law.nd rfl (.inl rfl) (pe_callD G__law_paths (hr.mono (by decide)) rfl (pa_cons (pv 3) (pa_cons (pv 4) (pa_cons (pv 7) pa_nil)))))
    (pss_cons (ps_set (i := 9) sc_law.nd rfl (.inl rfl) (pe_callD G_shortest_path (hr.mono (by decide)) rfl (pa_cons (pv 3) (pa_cons (pv 4) (pa_cons (pv 7) pa_nil)))))
    (pss_cons (ps_if (PW.pt (pw_and (pt_cmpR op_isN (pv 8) pe_non (nomark _)) (pw_and1 (pt_cmpR op_notN (pv 9) pe_non (nomark _)))))
    (pss_one (ps_ret pe_bl))
    pss_nil)
    (pss_one (ps_if (PW.pt (pw_and (pt_cmpR op_notN (pv 8) pe_non (nomark _)) (pw_and1 (pt_not (pt_val (pe_callD G__law_alike (hr.mono (by decide)) rfl (pa_cons (pv 9) (pa_cons (pe_callTy (call_listK (K := K)) (by rfl) T.n_list (by decide +kernel) (pa_cons (pv 8) pa_nil)) pa_nil))))))))
    (pss_one (ps_ret pe_bl))
    pss_nil))))))
    (pss_one (ps_if (pt_cmpR (op_neK (K := K) hr.units) (pv 4) (pv 6) (nomark _))
    (pss_one (ps_ret pe_bl))
    pss_nil)))))))))
    (pss_one (ps_ret pe_bl)))), ?_⟩
  refine ⟨_, rfl, (a, ns, 0, 63), rfl, hS, by decide, by decide, by decide, fun l ds nl hdl => ⟨(by show 2 ≤ sizeLine; decide), fun b nb => ?_⟩⟩
  have lb : l ≠ b := fun e => by rw [← e, upd_same] at nb; cases nb
  refine ⟨5, rfl, by decide, by decide, for_range (lo := 0) (n := 5)
    (fun t σ H' => ∃ v2 v3 v4 v5 v6 v7 v8 v9, σ = [some (.ref a), some (.ref b), v2, v3, v4, v5, v6, v7, v8, v9, none] ∧ BoxAt H' b l)
    ⟨_, _, _, _, _, _, _, _, rfl, ds, 0, upd_same, by rw [upd_ne lb, upd_same], by decide, lb⟩ ?_ ?_⟩
  rotate_left
  · rintro σ H0 ⟨v2, v3, v4, v5, v6, v7, v8, v9, rfl, B0⟩
    exact k _
  rintro t σ H0 ht ⟨v2, v3, v4, v5, v6, v7, v8, v9, rfl, B0⟩
  refine ⟨_, rfl, (b, l), rfl, B0, fun d many hm H1 hm8 L hH1 nd1 B1 f1 => ?_⟩
  refine ⟨Nat.zero_le _, fun F nF => ?_⟩
  have nbF := B1.ne nF
  refine ⟨_, rfl, (b, l, 4), rfl, B1.new nF, by decide, fun sn H2 s0 s4 B2 f2 => ⟨sn, rfl, by omega, by omega, ?_⟩⟩
  have f2' : Fr [b] H1 H2 := (Fr.new nF).trans f2
  have hF2 : H2 F = some (.lst []) := f2 _ _ (by simp [Ne.symm nbF.1]) upd_same
  -- the start, with objects that may be none of the heap's where it is empty
  let Ok1 : Option Rf → Prop := fun r => match r with
    | some (.obj i) => 0 ≤ i ∧ i < max 1 (many : Int)
    | _ => True
  refine for_range (lo := 0) (n := sn.toNat) (fun j σ H3 => ∃ (v5 : Option V) (vs : List V) (rs : List (Option Rf)), σ = [some (.ref a), some (.ref b), some (.int (0 + (t : Int))), some (.ref d), some (.ref F), v5, v6, v7, v8, v9, none] ∧ H3 F = some (.lst vs) ∧ Paired (RfV H3) vs rs ∧ rs.length = j ∧ (∀ r ∈ rs, Ok1 r) ∧ BoxAt H3 b l ∧ Fr [b] H1 H3)
    ⟨v5, [], [], rfl, hF2, .nil, rfl, (fun _ z => nomatch z), B2, f2'⟩ ?_ ?_
  · rintro j σ H3 hj ⟨v5, vs, rs, rfl, h1, h2, h3, h4, B3, f3⟩
    obtain ⟨kvs, hd3, hkv⟩ := hH1.box f3 B1.isLst
    have hkl : (kvs.length : Int) = many := by rw [Paired.length hkv, L.len]
    refine ⟨_, rfl, .inl ⟨rfl, _, SqL.of h1⟩, _, rfl, _, rfl, d, kvs, rfl, hd3, 1, _, rfl, (b, l, _), rfl, B3, ?_, fun q1 H4 q10 q11 B4 f4 => ⟨(by show 2 ≤ sizeLine; decide), fun t1 nt1 => ⟨(by show 3 ≤ sizeLine; decide), fun t3 nt3 => ⟨(by show 3 ≤ sizeLine; decide), fun p np => ⟨(by show 4 ≤ sizeLine; decide), fun p2 np2 => ?_⟩⟩⟩⟩⟩
    · split <;> omega
    rw [hkl] at q11
    have B6 := (((B4.new (u := .tup [.str "object", .int q1]) nt1).new (u := .tup [.str "import", .int 0, .int 0]) nt3).new (u := .lst [.ref t1, .ref t3, .non]) np).new (u := .lst [.int 0, .int 0, .int 1, .int 2]) np2
    refine ⟨_, rfl, (b, l, 4), rfl, B6, by decide, fun q H7 q0 q4 B7 f7 => ?_⟩
    have lb6 := B6.isLst
    have r1 : RfV H7 (.ref t1) (some (.obj q1)) := ⟨t1, rfl, f7.tups lb6 _ _ (nw np2 (nw np (nw nt3 upd_same)))⟩
    have r3 : RfV H7 (.ref t3) (some (.imp 0 0)) := ⟨t3, rfl, f7.tups lb6 _ _ (nw np2 (nw np upd_same))⟩
    have pb : p ≠ b := fun z => by
      rw [z] at np
      exact (((B4.new (u := .tup [.str "object", .int q1]) nt1).new (u := .tup [.str "import", .int 0, .int 0]) nt3).ne np).1 rfl
    have p2b : p2 ≠ b := fun z => by
      rw [z] at np2
      exact ((((B4.new (u := .tup [.str "object", .int q1]) nt1).new (u := .tup [.str "import", .int 0, .int 0]) nt3).new (u := .lst [.ref t1, .ref t3, .non]) np).ne np2).1 rfl
    have hp7 : H7 p = some (.lst [.ref t1, .ref t3, .non]) := f7 _ _ (by simp [pb]) (nw np2 upd_same)
    have hp27 : H7 p2 = some (.lst [.int 0, .int 0, .int 1, .int 2]) := f7 _ _ (by simp [p2b]) upd_same
    have pick : ∃ z v r, atI [V.int 0, V.int 0, V.int 1, V.int 2] q = some (.int z) ∧ atI [V.ref t1, V.ref t3, V.non] z = some v ∧ RfV H7 v r ∧ Ok1 r := by
      have : q = 0 ∨ q = 1 ∨ q = 2 ∨ q = 3 := by omega
      have o1 : Ok1 (some (.obj q1)) := ⟨q10, by
        show q1 < max 1 (many : Int)
        split at q11 <;> omega⟩
      rcases this with rfl | rfl | rfl | rfl
      · exact ⟨0, _, _, rfl, rfl, r1, o1⟩
      · exact ⟨0, _, _, rfl, rfl, r1, o1⟩
      · exact ⟨1, _, _, rfl, rfl, r3, trivial⟩
      · exact ⟨2, _, none, rfl, rfl, rfl, trivial⟩
    obtain ⟨z, v, r, ha1, ha2, rv, okr⟩ := pick
    have f37 : ∀ a o, a ≠ b → H3 a = some o → H7 a = some o := fun a o na e => f7 a o (by simp [na]) (nw np2 (nw np (nw nt3 (nw nt1 (f4 a o (by simp [na]) e)))))
    have hF7 : H7 F = some (.lst vs) := f37 _ _ (Ne.symm nbF.1) h1
    refine ⟨p2, _, q, _, rfl, rfl, SqL.of hp27, ha1, p, _, z, v, rfl, rfl, SqL.of hp7, ha2, F, vs, v, rfl, rfl, hF7, small1000 (by rw [Paired.length h2, h3]; omega), ?_⟩
    have tu : ∀ a xs, H7 a = some (.tup xs) → upd H7 F (.lst (vs ++ [v])) a = some (.tup xs) := fun a xs e => by
      rw [upd_ne (fun z => by rw [z, hF7] at e; cases e)]
      exact e
    refine ⟨_, vs ++ [v], rs ++ [r], rfl, upd_same, ?_, by rw [List.length_append, h3]; rfl, fun z hz => ?_, B7.put nbF, fun a o na e => ?_⟩
    · refine paired_app (L2.Paired.mapP h2 fun _ _ z => (z.mono fun a xs e => ?_).mono tu) (.cons (rv.mono tu) .nil)
      exact f37 a _ (fun z => by
        obtain ⟨ys, e2⟩ := B3.isLst
        rw [z, e2] at e
        cases e) e
    · rcases List.mem_append.mp hz with hz | hz
      · exact h4 z hz
      · rw [List.mem_singleton.mp hz]
        exact okr
    · rw [upd_ne (ne_of_none e nF)]
      exact f37 a o (by simpa using na) (f3 a o na e)
  rintro σ H3 ⟨v5, vs, rs, rfl, hF, hP, hlen, hok, B3, f3⟩
  obtain ⟨kvs, hd3, hkv⟩ := hH1.box f3 B1.isLst
  have hkl : kvs.length = many := by rw [Paired.length hkv, L.len]
  have hvl : vs.length ≤ 3 := by rw [Paired.length hP]; omega
  clear hF2 f2 f2' B2 hH1 f3 f1 B1 B0 nd1
  refine ⟨fun σ H' => ∃ (S : Addr) (vs : List V) (st : List (Option Rf)), σ = [some (.ref a), some (.ref b), some (.int (0 + (t : Int))), some (.ref d), some (.ref S), v5, v6, v7, v8, v9, none] ∧ Same H3 H' ∧ H' S = some (.lst vs) ∧ Paired (RfV H') vs st ∧ (∀ r ∈ st, OkRf many r) ∧ vs.length ≤ 3, ?_, ?_⟩
  · refine ⟨_, rfl, fun e ne => ?_⟩
    refine ⟨d, e, kvs, rfl, rfl, nw ne hd3, upd_same, _, rfl, ?_⟩
    have s4 : Same H3 (upd H3 e (.dK [])) := nws ne (Same.refl H3)
    have hF4 := s4 _ _ hF
    have hP4 : Paired (RfV (upd H3 e (.dK []))) vs rs := L2.Paired.mapP hP fun _ _ q => q.mono (Same.tups s4)
    generalize upd H3 e (.dK []) = H4 at s4 hF4 hP4 ⊢
    refine ite2 (fun hE => ?_) (fun hE => ?_)
    · refine ⟨_, rfl, F, rfl, ⟨_, SqL.of hF4⟩, fun D nD => ?_⟩
      refine lc_list (xs := vs) (fun i H' => ∃ (wv : List V) (ws : List (Option Rf)), H' = upd H4 D (.lst wv) ∧ Paired (RfV H4) wv ws ∧ (∀ r ∈ ws, OkRf many r) ∧ wv.length ≤ i) ⟨[], [], rfl, .nil, (fun _ m => nomatch m), Nat.le_refl _⟩ (fun i H' _ ⟨_, _, e, _⟩ => by rw [e]; exact SqL.of (nw nD hF4)) ?_ ?_
      · rintro i x H' hx ⟨wv, ws, rfl, hw, hwo, hwl⟩
        obtain ⟨r, hr, rx⟩ := pairedGet hP4 hx
        have hil : i < vs.length := (List.getElem?_eq_some_iff.mp hx).1
        have yes : OkRf many r → ∃ acc, upd H4 D (.lst wv) D = some (.lst acc) ∧ acc.length < sizeLine ∧ ∃ (wv' : List V) (ws : List (Option Rf)), upd (upd H4 D (.lst wv)) D (.lst (acc ++ [x])) = upd H4 D (.lst wv') ∧ Paired (RfV H4) wv' ws ∧ (∀ r ∈ ws, OkRf many r) ∧ wv'.length ≤ i + 1 := fun ok =>
          ⟨wv, upd_same, small1000 (by omega), wv ++ [x], ws ++ [r], by rw [upd_upd], paired_app hw (.cons rx .nil), fun z hz => by
            rcases List.mem_append.mp hz with hz | hz
            · exact hwo z hz
            · rw [List.mem_singleton.mp hz]
              exact ok, by rw [List.length_append, List.length_singleton]; omega⟩
        rcases rx.non_or with ⟨rfl, rfl⟩ | ⟨jj, tt, rfl, rfl, htt⟩ | ⟨pp, ee, tt, rfl, rfl, htt⟩
        · exact ⟨rfl, _, rfl, rfl, _, rfl, ite2 (fun _ => ite2 (fun _ => ⟨_, rfl, yes trivial⟩) fun h => absurd rfl h) fun h => absurd rfl h⟩
        · refine ⟨rfl, _, rfl, rfl, _, rfl, ite2 (fun h => nomatch (of_decide_eq_true h)) (fun _ => ?_)⟩
          refine ⟨_, rfl, tt, _, 0, _, rfl, rfl, SqT.of (nw nD htt), rfl, rfl, _, rfl, ite2 (fun h => absurd h (by decide)) (fun _ => ?_)⟩
          exact ⟨wv, ws, rfl, hw, hwo, by omega⟩
        · refine ⟨rfl, _, rfl, rfl, _, rfl, ite2 (fun h => nomatch (of_decide_eq_true h)) (fun _ => ?_)⟩
          exact ⟨_, rfl, tt, _, 0, _, rfl, rfl, SqT.of (nw nD htt), rfl, rfl, _, rfl, ite2 (fun _ => ⟨_, rfl, yes trivial⟩) (fun h => absurd rfl h)⟩
      · rintro _ ⟨wv, ws, rfl, hw, hwo, hwl⟩
        exact ⟨D, wv, ws, rfl, nws nD s4, upd_same, L2.Paired.mapP hw fun _ _ q => q.mono fun a xs e => nw nD e, hwo, by omega⟩
    · refine ⟨F, vs, rs, rfl, s4, hF4, hP4, fun r hr => ?_, hvl⟩
      have h1 := hok r hr
      have hpos : 0 < many := by
        cases kvs with
        | nil => exact absurd rfl hE
        | cons x l =>
          rw [← hkl]
          exact Nat.succ_pos _
      match r, h1 with
      | none, _ => trivial
      | some (.imp _ _), _ => trivial
      | some (.obj i), h1 =>
        have h2 : 0 ≤ i ∧ i < max 1 (many : Int) := h1
        exact ⟨h2.1, by omega⟩
  · rintro σ H4 ⟨S, vs, st, rfl, s4, hS4, hP4, hok4, hvl4⟩
    have B4 := B3.same s4
    have hV := L.valid hok4
    refine ⟨_, rfl, S, vs, rfl, .inl (SqL.of hS4), fun G nG => ?_⟩
    have s5 : Same H3 (upd H4 G (.lst vs)) := nws nG s4
    have B5 := B4.new (u := .lst vs) nG
    have hS5 := nw (u := .lst vs) nG hS4
    have hG5 : upd H4 G (.lst vs) G = some (.lst vs) := upd_same
    have hP5 : Paired (RfV (upd H4 G (.lst vs))) vs st := L2.Paired.mapP hP4 fun _ _ q => q.mono fun a xs e => nw nG e
    generalize upd H4 G (.lst vs) = H5 at s5 B5 hS5 hG5 hP5 ⊢
    refine ⟨_, rfl, d, kvs, rfl, s5 _ _ hd3, _, _, rfl, rfl, _, rfl, by omega, by omega, for_range (lo := 0) (n := ((kvs.length : Int) + 1).toNat)
      (fun i σ H' => ∃ (v7 v8 v9 : Option V), σ = [some (.ref a), some (.ref b), some (.int (0 + (t : Int))), some (.ref d), some (.ref S), v5, some (.ref G), v7, v8, v9, none] ∧ Same H5 H')
      ⟨_, _, _, rfl, Same.refl _⟩ ?_ ?_⟩
    · rintro i σ H6 hi ⟨v7, v8, v9, rfl, s6⟩
      have hA : ∀ {H'}, Same H5 H' → HeapAt H' d hm := fun s => HeapAt.mono ⟨kvs, hd3, hkv⟩ (s5.trans s)
      have hPm : ∀ {H'}, Same H5 H' → Paired (RfV H') vs st := fun s => L2.Paired.mapP hP5 fun _ _ q => q.mono (Same.tups s)
      refine ⟨_, rfl, _, rfl, _, rfl, (d, S, (0 + (i : Int)), many, hm, vs, st), rfl, hA s6, SqL.of (s6 _ _ hS5), hPm s6, hV, L, hm8, by show vs.length ≤ 4; omega, fun r1 pr1 => ?_⟩
      match r1, pr1 with
      | none, pr1 =>
        intro H7 s7
        refine ⟨_, rfl, _, rfl, _, rfl, (d, S, hm, vs, st, (0 + (i : Int))), rfl, hA (s6.trans s7), .inl (SqL.of (s7 _ _ (s6 _ _ hS5))), hPm (s6.trans s7), hV, L.small hm8, by show vs.length ≤ 1000; omega, fun r2 pr2 => ?_⟩
        have e := pr1.uniq pr2
        subst e
        intro H8 s8
        refine ⟨_, rfl, rfl, _, rfl, ite2 (fun _ => ?_) (fun h => absurd rfl h)⟩
        refine ⟨_, rfl, rfl, _, rfl, ite2 (fun h => absurd h (by decide)) (fun _ => ?_)⟩
        refine ⟨_, rfl, rfl, _, rfl, ite2 (fun h => absurd h (by decide)) (fun _ => ite2 (fun h => nomatch h) fun _ => ?_)⟩
        exact ⟨_, _, _, rfl, (s6.trans s7).trans s8⟩
      | some p, pr1 =>
        intro c H7 s7 hc
        refine ⟨_, rfl, _, rfl, _, rfl, (d, S, hm, vs, st, (0 + (i : Int))), rfl, hA (s6.trans s7), .inl (SqL.of (s7 _ _ (s6 _ _ hS5))), hPm (s6.trans s7), hV, L.small hm8, by show vs.length ≤ 1000; omega, fun r2 pr2 => ?_⟩
        have e := pr1.uniq pr2
        subst e
        intro c2 H8 s8 hc2
        refine ⟨_, rfl, rfl, _, rfl, ite2 (fun h => nomatch (of_decide_eq_true h)) (fun _ => ite2 (fun h => nomatch h) fun _ => ?_)⟩
        refine ⟨_, rfl, rfl, _, rfl, ite2 (fun _ => ?_) (fun h => absurd rfl h)⟩
        obtain ⟨n, dn, bn⟩ := pr1
        have hpl : p.length ≤ 64 := by
          have h1 := dn.short hV
          rw [L.len] at h1
          rw [bn.1.len]
          omega
        have hps : ∀ x ∈ p, x.natAbs < 10 ^ 12 := fun x hx => by
          obtain ⟨m, _, q, wq⟩ := bn.1.near x hx
          have h1 := wq.there hV
          rw [L.keys] at h1
          obtain ⟨j, hj, rfl⟩ := List.mem_map.mp h1
          have := List.mem_range.mp hj
          omega
        refine ⟨_, rfl, _, rfl, c, _, rfl, .inr (SqT.of (s8 _ _ hc)), fun e ne => ?_⟩
        refine ⟨(.ref c2, .ref e, _, 1, 64 * 41), rfl, dp_ints (SqL.of (nw ne hc2)), dp_ints (SqL.of upd_same), sr_ints hps hpl, by decide, by decide, true, rfl, ite2 (fun h => absurd h (by decide)) (fun _ => ?_)⟩
        exact ⟨_, _, _, rfl, nws ne ((s6.trans s7).trans s8)⟩
    · rintro σ H6 ⟨v7, v8, v9, rfl, s6⟩
      have hsr := sh_refs (n := 0) st
      have hPm : Paired (RfV H6) vs st := L2.Paired.mapP hP5 fun _ _ q => q.mono (Same.tups s6)
      refine ⟨_, rfl, _, rfl, .list (st.map refD), .list (st.map refD), .lst (SqL.of (s6 _ _ hS5)) (dp_refs hPm), .lst (SqL.of (s6 _ _ hG5)) (dp_refs hPm), hsr.shaped (by decide), hsr.shaped (by decide), _, rfl, ite2 (fun h => ?_) (fun _ => ?_)⟩
      · rw [hsr.eqv] at h
        cases h
      · exact ⟨_, _, _, _, _, _, _, _, rfl, B5.same s6⟩

end
section
open PySem PySem.Spec PyProof.Rows L2
variable {P : Program} {w : World} {K : PySem.W.Frag} {mg : Str → Option Value} {base : Heap}
theorem all_mk {l : PySem.W.OpenLaw} {w : World} {K : PySem.W.Frag} {h : Heap} {mg : Str → Option Value} {fa : Addr} (X : K.In h) (G : h.Ns mainGlobals mg) (hfa : mg "law" = some (.ref fa))
    {f0 : Addr} {od0 an0 : Option Addr} {sl0 : Array (Option Value)} {oc0 kV0 dc0 pm0 cd0 ct0 : Value} {f1 : Addr} {od1 an1 : Option Addr} {sl1 : Array (Option Value)} {oc1 kV1 dc1 pm1 cd1 ct1 : Value} {f2 : Addr} {od2 an2 : Option Addr} {sl2 : Array (Option Value)} {oc2 kV2 dc2 pm2 cd2 ct2 : Value} {f3 : Addr} {od3 an3 : Option Addr} {sl3 : Array (Option Value)} {oc3 kV3 dc3 pm3 cd3 ct3 : Value} {f4 : Addr} {od4 an4 : Option Addr} {sl4 : Array (Option Value)} {oc4 kV4 dc4 pm4 cd4 ct4 : Value} {f5 : Addr} {od5 an5 : Option Addr} {sl5 : Array (Option Value)} {oc5 kV5 dc5 pm5 cd5 ct5 : Value} {f6 : Addr} {od6 an6 : Option Addr} {sl6 : Array (Option Value)} {oc6 kV6 dc6 pm6 cd6 ct6 : Value} {f7 : Addr} {od7 an7 : Option Addr} {sl7 : Array (Option Value)} {oc7 kV7 dc7 pm7 cd7 ct7 : Value} {f8 : Addr} {od8 an8 : Option Addr} {sl8 : Array (Option Value)} {oc8 kV8 dc8 pm8 cd8 ct8 : Value} {t_OBJECT : Tok}
    (a0 : PySem.W.nsIn K mainGlobals "_object_ids" = some (some (.ref f0))) (l0 : K.lookup f0 = some ⟨oc0, od0, .func (PySem.W.fnOf "_object_ids" "_object_ids" (defArgs s__object_ids) (defBody s__object_ids) (defScope s__object_ids) .none kV0 dc0 pm0 an0 cd0 ct0), sl0⟩) (c0 : PySem.W.codeIn K cd0 "_object_ids" = true) (k0 : PySem.W.keepIn K (.ref f0) = true)
    (a1 : PySem.W.nsIn K mainGlobals "shortest_path" = some (some (.ref f1))) (l1 : K.lookup f1 = some ⟨oc1, od1, .func (PySem.W.fnOf "shortest_path" "shortest_path" (defArgs s_shortest_path) (defBody s_shortest_path) (defScope s_shortest_path) .none kV1 dc1 pm1 an1 cd1 ct1), sl1⟩) (c1 : PySem.W.codeIn K cd1 "shortest_path" = true) (k1 : PySem.W.keepIn K (.ref f1) = true)
    (a2 : PySem.W.nsIn K mainGlobals "_law_cell" = some (some (.ref f2))) (l2 : K.lookup f2 = some ⟨oc2, od2, .func (PySem.W.fnOf "_law_cell" "_law_cell" (defArgs s__law_cell) (defBody s__law_cell) (defScope s__law_cell) .none kV2 dc2 pm2 an2 cd2 ct2), sl2⟩) (c2 : PySem.W.codeIn K cd2 "_law_cell" = true) (k2 : PySem.W.keepIn K (.ref f2) = true)
    (a3 : PySem.W.nsIn K mainGlobals "_law_digits" = some (some (.ref f3))) (l3 : K.lookup f3 = some ⟨oc3, od3, .func (PySem.W.fnOf "_law_digits" "_law_digits" (defArgs s__law_digits) (defBody s__law_digits) (defScope s__law_digits) .none kV3 dc3 pm3 an3 cd3 ct3), sl3⟩) (c3 : PySem.W.codeIn K cd3 "_law_digits" = true) (k3 : PySem.W.keepIn K (.ref f3) = true)
    (a4 : PySem.W.nsIn K mainGlobals "_law_draw" = some (some (.ref f4))) (l4 : K.lookup f4 = some ⟨oc4, od4, .func (PySem.W.fnOf "_law_draw" "_law_draw" (defArgs s__law_draw) (defBody s__law_draw) (defScope s__law_draw) .none kV4 dc4 pm4 an4 cd4 ct4), sl4⟩) (c4 : PySem.W.codeIn K cd4 "_law_draw" = true) (k4 : PySem.W.keepIn K (.ref f4) = true)
    (a5 : PySem.W.nsIn K mainGlobals "_law_alike" = some (some (.ref f5))) (l5 : K.lookup f5 = some ⟨oc5, od5, .func (PySem.W.fnOf "_law_alike" "_law_alike" (defArgs s__law_alike) (defBody s__law_alike) (defScope s__law_alike) .none kV5 dc5 pm5 an5 cd5 ct5), sl5⟩) (c5 : PySem.W.codeIn K cd5 "_law_alike" = true) (k5 : PySem.W.keepIn K (.ref f5) = true)
    (a6 : PySem.W.nsIn K mainGlobals "_law_heap" = some (some (.ref f6))) (l6 : K.lookup f6 = some ⟨oc6, od6, .func (PySem.W.fnOf "_law_heap" "_law_heap" (defArgs s__law_heap) (defBody s__law_heap) (defScope s__law_heap) .none kV6 dc6 pm6 an6 cd6 ct6), sl6⟩) (c6 : PySem.W.codeIn K cd6 "_law_heap" = true) (k6 : PySem.W.keepIn K (.ref f6) = true)
    (a7 : PySem.W.nsIn K mainGlobals "_law_paths" = some (some (.ref f7))) (l7 : K.lookup f7 = some ⟨oc7, od7, .func (PySem.W.fnOf "_law_paths" "_law_paths" (defArgs s__law_paths) (defBody s__law_paths) (defScope s__law_paths) .none kV7 dc7 pm7 an7 cd7 ct7), sl7⟩) (c7 : PySem.W.codeIn K cd7 "_law_paths" = true) (k7 : PySem.W.keepIn K (.ref f7) = true)
    (a8 : PySem.W.nsIn K mainGlobals "law" = some (some (.ref f8))) (l8 : K.lookup f8 = some ⟨oc8, od8, .func (PySem.W.fnOf "law" "law" (defArgs s_law) (defBody s_law) (defScope s_law) .none kV8 dc8 pm8 an8 cd8 ct8), sl8⟩) (c8 : PySem.W.codeIn K cd8 "law" = true) (k8 : PySem.W.keepIn K (.ref f8) = true)
    (z_int : PySem.W.nsIn K mainGlobals "int" = some none)
    (z_len : PySem.W.nsIn K mainGlobals "len" = some none)
    (z_list : PySem.W.nsIn K mainGlobals "list" = some none)
    (z_max : PySem.W.nsIn K mainGlobals "max" = some none)
    (z_range : PySem.W.nsIn K mainGlobals "range" = some none)
    (z_repr : PySem.W.nsIn K mainGlobals "repr" = some none)
    (z_sorted : PySem.W.nsIn K mainGlobals "sorted" = some none)
    (z_tuple : PySem.W.nsIn K mainGlobals "tuple" = some none)
    (y_OBJECT : PySem.W.nsIn K mainGlobals "OBJECT" = some (some (.str "object" t_OBJECT))) :
    ∃ fd : FuncData, (∀ (s : Shared) (v : Value), BindsTo s fd ⟨[v], []⟩ [("_law_script", v)]) ∧ ∀ base : Heap, K.In base → base.Ns mainGlobals mg → FnG l.prog w K mg base CX0 3 fa fd ["_law_script"] (sp_law K) := by
  have e := hfa.symm.trans (PySem.W.mg_of X G a8)
  cases e
  have T : Txt K mg := ⟨PySem.W.mg_none_of X G z_int, PySem.W.mg_none_of X G z_len, PySem.W.mg_none_of X G z_list, PySem.W.mg_none_of X G z_max, PySem.W.mg_none_of X G z_range, PySem.W.mg_none_of X G z_repr, PySem.W.mg_none_of X G z_sorted, PySem.W.mg_none_of X G z_tuple, ⟨t_OBJECT, PySem.W.mg_of X G y_OBJECT⟩, ⟨_, _, PySem.W.mg_of X G a0, fun_mk l0 c0 k0⟩, ⟨_, _, PySem.W.mg_of X G a1, fun_mk l1 c1 k1⟩, ⟨_, _, PySem.W.mg_of X G a2, fun_mk l2 c2 k2⟩, ⟨_, _, PySem.W.mg_of X G a3, fun_mk l3 c3 k3⟩, ⟨_, _, PySem.W.mg_of X G a4, fun_mk l4 c4 k4⟩, ⟨_, _, PySem.W.mg_of X G a5, fun_mk l5 c5 k5⟩, ⟨_, _, PySem.W.mg_of X G a6, fun_mk l6 c6 k6⟩, ⟨_, _, PySem.W.mg_of X G a7, fun_mk l7 c7 k7⟩, ⟨_, _, PySem.W.mg_of X G a8, fun_mk l8 c8 k8⟩⟩
  exact DefOk.end (PySem.W.mg_of X G a8) (fun_mk (st := s_law) l8 c8 k8) (fun s v => .of_eq rfl) fun base => ok_law T
end
end KW
open PySem PySem.W PyProof.Rows
set_option maxRecDepth 100000 in
set_option maxHeartbeats 0 in
theorem PySem.Challenge.cw_keptbywitness_k02_shortest_paths_holds : PySem.Challenge.rw_keptbywitness_k02_shortest_paths.Holds := by
  w_on; o_law; k_head; (case hw => w_witness2)
  k_fill
  refine KW.walkG (l := PySem.Challenge.rw_keptbywitness_k02_shortest_paths) (n := 63) (k := 3) (x := "_law_script") (CX := fun _ => L2.CX0) (sp := fun w => KW.sp_law _) rfl (by decide) rfl ⟨⟨rfl, by decide, by decide⟩, rfl⟩ (fun w h Y => PySem.W.kIn_of Y) ?F (fun _ _ a ns hl _ hS => ⟨(a, ns), rfl, hS, hl, fun _ => rfl⟩) (fun _ _ _ _ _ h => h)
  case F =>
    intro w mg fa h KX G hmg
    refine' KW.all_mk KX G hmg ?a0 ?l0 ?c0 ?k0 ?a1 ?l1 ?c1 ?k1 ?a2 ?l2 ?c2 ?k2 ?a3 ?l3 ?c3 ?k3 ?a4 ?l4 ?c4 ?k4 ?a5 ?l5 ?c5 ?k5 ?a6 ?l6 ?c6 ?k6 ?a7 ?l7 ?c7 ?k7 ?a8 ?l8 ?c8 ?k8 ?z_int ?z_len ?z_list ?z_max ?z_range ?z_repr ?z_sorted ?z_tuple ?y_OBJECT
    (case a0 => k_is)
    (case l0 => k_is)
    (case c0 => k_is)
    (case k0 => k_is)
    (case a1 => k_is)
    (case l1 => k_is)
    (case c1 => k_is)
    (case k1 => k_is)
    (case a2 => k_is)
    (case l2 => k_is)
    (case c2 => k_is)
    (case k2 => k_is)
    (case a3 => k_is)
    (case l3 => k_is)
    (case c3 => k_is)
    (case k3 => k_is)
    (case a4 => k_is)
    (case l4 => k_is)
    (case c4 => k_is)
    (case k4 => k_is)
    (case a5 => k_is)
    (case l5 => k_is)
    (case c5 => k_is)
    (case k5 => k_is)
    (case a6 => k_is)
    (case l6 => k_is)
    (case c6 => k_is)
    (case k6 => k_is)
    (case a7 => k_is)
    (case l7 => k_is)
    (case c7 => k_is)
    (case k7 => k_is)
    (case a8 => k_is)
    (case l8 => k_is)
    (case c8 => k_is)
    (case k8 => k_is)
    (case z_int => k_is)
    (case z_len => k_is)
    (case z_list => k_is)
    (case z_max => k_is)
    (case z_range => k_is)
    (case z_repr => k_is)
    (case z_sorted => k_is)
    (case z_tuple => k_is)
    (case y_OBJECT => k_is)

