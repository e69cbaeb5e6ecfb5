import PyProof.Rows.All
import Wide.All
import OpenK.AllK
import Wide.FinOn
import HandS.ForMost
import HandS.IsInst
import HandS.Deep
import HandS.SortInts
import HandS.Walk
import HandS.NoneIn
import HandS.Codes
import HandS.TupAny
import PySem.Challenge.RW_keptbywitness_k44_any_block_is_read_so
set_option Elab.async false
set_option linter.all false
set_option maxRecDepth 100000
set_option maxHeartbeats 4000000
namespace KW
local macro_rules | `(tactic| walk_at "e") => `(tactic| (repeat first | refine ⟨_, rfl, ?_⟩ | refine ⟨_, _, rfl, rfl, ?_⟩ | refine .inl ⟨_, rfl, ?_⟩ | refine ⟨_, _, rfl, rfl, .inl ⟨by decide, by decide⟩, ?_⟩ | refine ⟨_, _, rfl, rfl, .inr ⟨by decide, by decide⟩, ?_⟩ | refine ⟨_, _, rfl, rfl, ⟨by decide, by decide⟩, ?_⟩ | refine ⟨_, _, rfl, rfl, (by show (_ : Int) ≠ 0; first | decide | omega), ?_⟩))
open PySem PySem.Spec PyProof.Rows L2
/-! ### defs of the text by name, their promises, constants of the module -/
structure DefAt (K : PySem.W.Frag) (mg : Str → Option Value) (x : Str) (st : Stmt) : Prop where
  ex : ∃ (f : Addr) (fd : FuncData), mg x = some (.ref f) ∧ Fun K x x st f fd
structure DefOk (P : Program) (w : World) (K : PySem.W.Frag) (mg : Str → Option Value) (base : Heap) (x : Str) (k : Nat) (ps : List Str) (sp : Sp) : Prop where
  ex : ∃ (f : Addr) (fd : FuncData), mg x = some (.ref f) ∧ PySem.W.keepIn K (.ref f) = true ∧ Binds K fd ps [] ∧ FnOk P w K mg base CX0 k f fd ps sp ∧ ∃ (oc : Value) (od : Option Addr) (osl : Array (Option Value)), K.lookup f = some ⟨oc, od, .func fd, osl⟩
/-- a promise: for arguments made of p, R p tells what is asked and given -/
def SpOf {α : Type} (args : α → List V) (R : α → Hp → VK → Prop) : Sp := fun vs H Q _ => ∃ p : α, vs = args p ∧ R p H Q
section
variable {P : Program} {w : World} {K : PySem.W.Frag} {mg : Str → Option Value} {base : Heap}
theorem DefOk.mk' {x : Str} {st : Stmt} {N ps : List Str} {k : Nat} {α : Type} {args : α → List V} {R : α → Hp → VK → Prop} (D : DefAt K mg x st) (S : FnScope N ps (defScope st))
    (hb : ∀ (kV doc pm : Value) (an : Option Addr) (cdv ct : Value) (us : List Value), us.length = ps.length → bindArgs (PySem.W.fnOf x x (defArgs st) (defBody st) (defScope st) .none kV doc pm an cdv ct) ⟨us, []⟩ = pure (ps.zip us))
    (hl : ∀ p : α, (args p).length = ps.length)
    (hbody : ∀ (cdv : Value) (f : Addr) (A : Around) (outer : List Env) (s : Shared) (H : Hp) (p : α) (Q : VK) (E : XK), Room k (A.deeper (envOfC x (defScope st) s.heap.objs.size f cdv)) → R p H Q →
      ∃ t, PSs (cxOf CX0 P w K mg base N x (defScope st) f cdv A outer s H E).nox (defBody st) t ∧ t { nx := fun _ H' => Q .non H', rt := Q } (start N (args p)) H) :
    DefOk P w K mg base x (k + 1) ps (SpOf args R) := by
  obtain ⟨f, fd, hm, F⟩ := D.ex
  refine ⟨f, fd, hm, F.kp, F.binds hb, F.ok S (fun vs H Q E h => ?_) (fun cdv A outer s H vs Q E hr h => ?_), ?_⟩
  · obtain ⟨p, rfl, _⟩ := h
    exact hl p
  · obtain ⟨p, rfl, h⟩ := h
    exact hbody cdv f A outer s H p Q E hr h
  · obtain ⟨oc, od, kV, doc, pm, an, cdv, ct, osl, _, lk, _⟩ := F.ex
    exact ⟨oc, od, osl, lk⟩
/-- the law's own promise, over any base -/
theorem DefOk.end {l : PySem.W.OpenLaw} {x par : Str} {st : Stmt} {k : Nat} {sp : Sp} {f : Addr} {fd : FuncData} (hm : mg x = some (.ref f)) (F : Fun K x x st f fd) (hb : ∀ (s : Shared) (v : Value), BindsTo s fd ⟨[v], []⟩ [(par, v)])
    (ok : ∀ base : Heap, DefOk l.prog w K mg base x k [par] sp) : ∃ fd : FuncData, (∀ (s : Shared) (v : Value), BindsTo s fd ⟨[v], []⟩ [(par, v)]) ∧ ∀ base : Heap, K.In base → base.Ns mainGlobals mg → FnOk l.prog w K mg base CX0 k f fd [par] sp := by
  refine ⟨fd, hb, fun base _ _ => ?_⟩
  obtain ⟨f', fd', hm', _, _, G, oc, od, osl, lk⟩ := (ok base).ex
  cases hm.symm.trans hm'
  obtain ⟨oc2, od2, kV, doc, pm, an, cdv, ct, osl2, _, lk2, _⟩ := F.ex
  cases lk.symm.trans lk2
  exact G
end
section
variable {X : Cx}
theorem pe_callD {x : Str} {e : Expr} {es : List Expr} {p pos : Pos} {ta : TA} {k : Nat} {ps : List Str} {sp : Sp} (D : DefOk X.prog X.w X.K X.mg X.base x k ps sp) (hr : Room k X.A) (hg : Gl X x) (ha : PA X (e :: es) ta)
    (hdb : (x == ("__debug__" : Str)) = false := by decide) (he : starEach (e :: es) X.env = (false, eval e X.env) :: starEach es X.env := by rfl) (hpl : (backTo pos (starEach es X.env)).any (·.1) = false := by rfl) :
    PE X (.Call (.Name x p) (e :: es) [] pos) (tCall sp [] E0 ta) := by
  obtain ⟨f, fd, hm, hk, hb, F, _⟩ := D.ex
  exact pe_call F hr hg hm hk hb .nil pass0 ha hdb he hpl
/-- a written int, a written text of the module -/
def CoI (mg : Str → Option Value) (x : Str) (i : Int) : Prop := ∃ t, mg x = some (.int i t)
def CoS (mg : Str → Option Value) (x : Str) (z : Str) : Prop := ∃ t, mg x = some (.str z t)
theorem pe_coI {x : Str} {i : Int} {pos : Pos} (h : CoI X.mg x i) (hg : Gl X x) (hd : (x == ("__debug__" : Str)) = false := by decide) : PE X (.Name x pos) (tC (.int i)) := by
  obtain ⟨t, e⟩ := h
  exact pe_glob hg e ⟨t, rfl⟩ hd
theorem pe_coS {x : Str} {z : Str} {pos : Pos} (h : CoS X.mg x z) (hg : Gl X x) (hd : (x == ("__debug__" : Str)) = false := by decide) : PE X (.Name x pos) (tC (.str z)) := by
  obtain ⟨t, e⟩ := h
  exact pe_glob hg e ⟨t, rfl⟩ hd
/-- any(xs) of ints -/
theorem truth_ints {prog : Program} {w : World} {A : Around} {ns : List Int} {its : List Value} (r : Vals (ns.map V.int) its) :
    TruthOf prog w A (fun i v => its.toArray[i]? = some v) (fun i => ns.getD i 0 != 0) := fun i v s Q E hv hq => by
  have hv' : its[i]? = some v := by simpa using hv
  have hl := r.length
  have hi : i < ns.length := by
    have := (List.getElem?_eq_some_iff.mp hv').1
    rw [List.length_map] at hl
    omega
  obtain ⟨u, hu, ru⟩ := r.get (i := i) (x := V.int ns[i]) (by rw [List.getElem?_map, List.getElem?_eq_getElem hi]; rfl)
  obtain ⟨t, rfl⟩ := ru
  have e : v = .int ns[i] t := Option.some.inj (hv'.symm.trans hu)
  subst e
  have eg : ns.getD i 0 = ns[i] := by rw [List.getD_eq_getElem?_getD, List.getElem?_eq_getElem hi]; rfl
  have hq' : Q (ns.getD i 0 != 0) s := hq
  rw [eg] at hq'
  exact truthy_int hq'
theorem any_rangeI : ∀ ns : List Int, (List.range ns.length).any (fun i => ns.getD i 0 != 0) = ns.any (· != 0)
  | [] => rfl
  | b :: bs => by
    rw [List.length_cons, List.range_succ_eq_map, List.any_cons, List.any_map, List.any_cons, ← any_rangeI bs]
    all_goals rfl
def rAnyI (K : PySem.W.Frag) : List V → Hp → VK → Prop := fun vs H Q => ∃ (a : Addr) (ns : List Int), vs = [V.ref a] ∧ SqL K H a (ns.map V.int) ∧ Q (.bl (ns.any (· != 0))) H
theorem cr_anyI (hc : X.calm = true) : CallR X (.builtin "any") (rAnyI X.K) := by
  intro pins s σ H vs us Q I r h
  obtain ⟨a, ns, rfl, hs, q⟩ := h
  obtain ⟨its, rv, hl, _⟩ := I.list hs
  have hlen := rv.length
  rw [Vals.ref1 r]
  refine call_any_walk (iter_any hl.isList fun s₂ e2 st hne => ?_)
  subst e2
  refine ⟨_, _, _, _, _, _, _, rfl, Walks.list (A := X.A.in1) (I.ok.hd hc) _ a hne its.toArray, st, truth_ints rv, fun h' tk hk => ?_⟩
  refine ⟨.bl _, H, I.kept fun b o eo => hk b o (fun hmem => ?_) (Heap.get?_push_of_some _ eo), ?_, q⟩
  · rcases List.mem_cons.mp hmem with e1 | hmem
    · exact absurd (e1 ▸ Heap.lt_size eo) (Nat.lt_irrefl _)
    · cases hmem
  · show Value.bool _ = Value.bool _
    rw [← any_rangeI, List.size_toArray, ← hlen, List.length_map]
end
theorem nd_of {c : Prop} [Decidable c] (h : (!decide c) = true) : ¬ c := fun e => by rw [decide_eq_true e] at h; cases h
theorem d_of {c : Prop} [Decidable c] (h : ¬ (!decide c) = true) : c := Decidable.byContradiction fun e => h (by rw [decide_eq_false e]; rfl)
/-! ### frames: what was tracked outside W is as it was -/
def Fr (W : List Addr) (H H' : Hp) : Prop := ∀ a o, a ∉ W → H a = some o → H' a = some o
theorem Fr.refl (W : List Addr) (H : Hp) : Fr W H H := fun _ _ _ h => h
theorem Fr.trans {W : List Addr} {H H1 H2 : Hp} (a : Fr W H H1) (b : Fr W H1 H2) : Fr W H H2 := fun x o n h => b x o n (a x o n h)
theorem Fr.new {W : List Addr} {H : Hp} {p : Addr} {o : HO} (h : H p = none) : Fr W H (upd H p o) := fun a u _ e => by
  rw [upd_ne (ne_of_none e h)]
  exact e
theorem Fr.upd {W : List Addr} {H : Hp} {p : Addr} {o : HO} (h : p ∈ W) : Fr W H (upd H p o) := fun a u n e => by
  rw [upd_ne (fun z => n (by rw [z]; exact h))]
  exact e
theorem nw {H : Hp} {p a : Addr} {o u : HO} (hp : H p = none) (h : H a = some o) : upd H p u a = some o := by rw [upd_ne (ne_of_none h hp)]; exact h
theorem nwq {K : PySem.W.Frag} {H : Hp} {p a : Addr} {u : HO} {xs : List V} (hp : H p = none) (h : SqL K H a xs) : SqL K (upd H p u) a xs := Same.seq (H := H) (fun b o e => nw hp e) h
theorem nws {H H1 : Hp} {p : Addr} {u : HO} (hp : H1 p = none) (s : Same H H1) : Same H (upd H1 p u) := fun b o e => nw hp (s b o e)
theorem same_mut {H H' : Hp} {p : Addr} {o : HO} (s : Same H H') (h : H p = none) : Same H (upd H' p o) := fun b u e => by rw [upd_ne (ne_of_none e h)]; exact s b u e
theorem Fr.mono {W W' : List Addr} {H H' : Hp} (f : Fr W H H') (h : ∀ a, a ∈ W → a ∈ W') : Fr W' H H' := fun a o n e => f a o (fun z => n (h a z)) e
theorem Fr.of {W : List Addr} {H H' : Hp} (h : Same H H') : Fr W H H' := fun a o _ e => h a o e
theorem Fr.same {H H' : Hp} (f : Fr [] H H') : Same H H' := fun a o e => f a o (by simp) e
/-- what is new behind stays apart -/
theorem Fr.free {W : List Addr} {H H' : Hp} {p : Addr} (f : Fr W H H') (hw : p ∉ W) (h : H' p = none) : H p = none := by
  cases e : H p with
  | none => rfl
  | some o => rw [f p o hw e] at h; cases h
theorem rd_fr {W : List Addr} {H H' : Hp} {a : Addr} {u : HO} (f : Fr W H H') (hw : a ∉ W) (h : Rd H a u) : Rd H' a u := by
  rcases h with h | ⟨o, h⟩
  · exact .inl (f a _ hw h)
  · exact .inr ⟨o, f a _ hw h⟩
theorem seq_fr {K : PySem.W.Frag} {W : List Addr} {H H' : Hp} {a : Addr} {xs : List V} (f : Fr W H H') (hw : a ∉ W) (h : SqL K H a xs) : SqL K H' a xs := by
  rcases h with h | h
  · exact .inl (rd_fr f hw h)
  · exact .inr h
theorem sqT_fr {K : PySem.W.Frag} {W : List Addr} {H H' : Hp} {a : Addr} {xs : List V} (f : Fr W H H') (hw : a ∉ W) (h : SqT K H a xs) : SqT K H' a xs := by
  rcases h with h | h
  · exact .inl (rd_fr f hw h)
  · exact .inr h
theorem snocI {l : List Int} {x : Int} : l.map V.int ++ [V.int x] = (l ++ [x]).map V.int := by rw [List.map_append]; rfl
theorem upd_snocI {H : Hp} {o : Addr} {u : HO} {l : List Int} {x : Int} : upd (upd H o u) o (.lst (l.map V.int ++ [V.int x])) = upd H o (.lst ((l ++ [x]).map V.int)) := by rw [upd_upd, snocI]
theorem cutV_of {xs : List V} {lo hi : Int} {a b : Nat} (h1 : lo = (a : Int)) (h2 : hi = (b : Int)) (ha : a ≤ b) (hb : b ≤ xs.length) : cutV xs (some lo) (some hi) = (xs.drop a).take (b - a) := by
  subst h1 h2
  unfold cutV
  rw [show HT.sIx xs.length 0 (some (a : Int)) = min a xs.length from HT.sIx_nat _ _ _, show HT.sIx xs.length xs.length (some (b : Int)) = min b xs.length from HT.sIx_nat _ _ _, Nat.min_eq_left hb, Nat.min_eq_left (Nat.le_trans ha hb)]
theorem cutV_to {xs : List V} {hi : Int} {b : Nat} (h : hi = (b : Int)) : cutV xs none (some hi) = xs.take b := by
  subst h
  unfold cutV
  rw [show HT.sIx xs.length 0 none = 0 from HT.sIx_none _ _, show HT.sIx xs.length xs.length (some (b : Int)) = min b xs.length from HT.sIx_nat _ _ _]
  show (xs.drop 0).take (min b xs.length - 0) = _
  rw [List.drop_zero, Nat.sub_zero]
  by_cases h : b ≤ xs.length
  · rw [Nat.min_eq_left h]
  · rw [Nat.min_eq_right (by omega), List.take_of_length_le (Nat.le_refl _), List.take_of_length_le (by omega)]
theorem cutV_from {xs : List V} {lo : Int} {a : Nat} (h : lo = (a : Int)) : cutV xs (some lo) none = xs.drop a := by
  subst h
  unfold cutV
  rw [show HT.sIx xs.length xs.length none = xs.length from HT.sIx_none _ _, show HT.sIx xs.length 0 (some (a : Int)) = min a xs.length from HT.sIx_nat _ _ _]
  by_cases h : a ≤ xs.length
  · rw [Nat.min_eq_left h, List.take_of_length_le (by rw [List.length_drop]; omega)]
  · rw [Nat.min_eq_right (by omega), List.drop_eq_nil_of_le (Nat.le_refl _), List.drop_eq_nil_of_le (by omega), List.take_nil]
theorem atI_int {ns : List Int} {i : Int} {j : Nat} (e : i = (j : Int)) (h : j < ns.length) : atI (ns.map V.int) i = some (.int (ns.getD j 0)) := by
  subst e
  refine atI_nat ?_
  rw [List.getElem?_map, List.getElem?_eq_getElem h, List.getD_eq_getElem?_getD, List.getElem?_eq_getElem h]
  rfl
section
variable {X : Cx}
/-- a sign n times -/
theorem rep_fold (c : Nat) : ∀ (n : Nat) (acc : Array Nat), (List.replicate n #[c]).foldl (· ++ ·) acc = acc ++ (List.replicate n c).toArray
  | 0, acc => by simp
  | n + 1, acc => by
    rw [List.replicate_succ, List.foldl_cons, rep_fold c n, List.replicate_succ]
    apply Array.ext'
    simp
theorem op_mul_sign : OpR X (binaryOp .Mult) (fun x y H Q => ∃ (c : Nat) (n : Int), x = .str ⟨#[c]⟩ ∧ y = .int n ∧ 1 ≤ n ∧ n ≤ 1000 ∧ Q (.str ⟨(List.replicate n.toNat c).toArray⟩) H) := by
  intro pins s σ H x y v u Q I rx ry h
  obtain ⟨c, n, rfl, rfl, h1, h2, q⟩ := h
  obtain ⟨t, rfl⟩ := rx
  obtain ⟨t', rfl⟩ := ry
  have z : ∀ k : Nat, k ≤ 1000 → k ≤ sizeLine := fun k h => Nat.le_of_lt (small1000 h)
  refine P.mul_str ?_ (fun _ _ => ?_) (fun _ _ => ?_) ?_
  · have a1 : ¬ n < -(2 ^ 63 : Int) := by omega
    have a2 : ¬ n ≥ 2 ^ 63 := by omega
    rw [decide_eq_false a1, decide_eq_false a2]
    rfl
  · have e1 : ((Str.length ⟨#[c]⟩ : Nat) : Int) = 1 := rfl
    rw [e1]
    have : (1 : Int) ≤ (2 ^ 63 - 1) / n := by
      rw [Int.le_ediv_iff_mul_le (by omega)]
      omega
    omega
  · show decide ((Str.length ⟨#[c]⟩) * n.toNat > sizeLine) = false
    have := z n.toNat (by omega)
    have e1 : Str.length ⟨#[c]⟩ = 1 := rfl
    rw [e1]
    exact decide_eq_false (by omega)
  · rw [if_neg (by omega)]
    by_cases e : (n == 1 || Str.length ⟨#[c]⟩ == 0) = true
    · rw [if_pos e]
      have en : n = 1 := by
        simp at e
        rcases e with e | e
        · exact e
        · cases e
      subst en
      exact ⟨.str ⟨#[c]⟩, H, I, ⟨t, rfl⟩, q⟩
    · rw [if_neg e]
      have er : (List.replicate n.toNat (#[c] : Array Nat)).foldl (· ++ ·) #[] = (List.replicate n.toNat c).toArray := by
        rw [rep_fold]
        simp
      refine ⟨?_, ?_⟩
      · show Str.length ⟨(List.replicate n.toNat (#[c] : Array Nat)).foldl (· ++ ·) #[]⟩ ≤ sizeLine
        rw [er]
        show (List.replicate n.toNat c).toArray.size ≤ sizeLine
        rw [List.size_toArray, List.length_replicate]
        exact z _ (by omega)
      · show _
        rw [er]
        exact ⟨.str ⟨(List.replicate n.toNat c).toArray⟩, H, I.tok _, ⟨_, rfl⟩, q⟩
end

/-! ### the rules with the written part named -/
section
variable {X : Cx} {K : PySem.W.Frag}
theorem bmK {e : Expr} {T : String} {r : V → List V → Hp → VK → Prop} {to_ : TE} {t : TA} (h : PE X e (tBM X.K T r to_ t)) (hK : X.K = K := by rfl) : PE X e (tBM K T r to_ t) := by subst hK; exact h
theorem bm0K {e : Expr} {T : String} {r : V → List V → Hp → VK → Prop} {to_ : TE} (h : PE X e (tBM0 X.K T r to_)) (hK : X.K = K := by rfl) : PE X e (tBM0 K T r to_) := by subst hK; exact h
theorem fldK {e : Expr} {ta : TE} {f : Str} (h : PE X e (tFld X.K ta f)) (hK : X.K = K := by rfl) : PE X e (tFld K ta f) := by subst hK; exact h
theorem sfldK {e : Stmt} {ta tv : TE} {f : Str} (h : PS X e (sFld X.K ta tv f)) (hK : X.K = K := by rfl) : PS X e (sFld K ta tv f) := by subst hK; exact h
theorem gtupK {e : Expr} {n : Nat} {t : TGs} (h : PG X e (gTup X.K n t)) (hK : X.K = K := by rfl) : PG X e (gTup K n t) := by subst hK; exact h
theorem gunlK {e : Expr} {n : Nat} {t : TGs} (h : PG X e (gUnl X.K n t)) (hK : X.K = K := by rfl) : PG X e (gUnl K n t) := by subst hK; exact h
theorem ilistK {tg l : Expr} {tl : TE} (h : PI X tg l (iList X.K tl)) (hK : X.K = K := by rfl) : PI X tg l (iList K tl) := by subst hK; exact h
theorem itupK {tg l : Expr} {tl : TE} (h : PI X tg l (iTup X.K tl)) (hK : X.K = K := by rfl) : PI X tg l (iTup K tl) := by subst hK; exact h
theorem ienumK {tg l : Expr} {tl : TA} (h : PI X tg l (iEnum X.K tl)) (hK : X.K = K := by rfl) : PI X tg l (iEnum K tl) := by subst hK; exact h
theorem izipK {tg l : Expr} {tl : TA} (h : PI X tg l (iZip X.K tl)) (hK : X.K = K := by rfl) : PI X tg l (iZip K tl) := by subst hK; exact h
theorem ix_listK (hK : X.K = K := by rfl) : IxR X (rIxL K) := by subst hK; exact ix_list
theorem ix_tupK (hK : X.K = K := by rfl) : IxR X (rIxT K) := by subst hK; exact ix_tup
theorem sl_listK (hK : X.K = K := by rfl) : SlR X (rSlL K) := by subst hK; exact sl_list
theorem sl_tupK (hK : X.K = K := by rfl) : SlR X (rSlA K) := by subst hK; exact sl_tupA
theorem op_inK (hK : X.K = K := by rfl) : OpR X (compareOp .In) (rIn K false) := by subst hK; exact op_in_seq
theorem op_notInK (hK : X.K = K := by rfl) : OpR X (compareOp .NotIn) (rIn K true) := by subst hK; exact op_notIn_seq
theorem op_eqK (hu : X.A.units + 64 < cLine) (hK : X.K = K := by rfl) : OpR X (compareOp .Eq) (rEqD K) := by subst hK; exact op_eqD hu
theorem op_neK (hu : X.A.units + 64 < cLine) (hK : X.K = K := by rfl) : OpR X (compareOp .NotEq) (rNeD K) := by subst hK; exact op_neD hu
theorem op_catTK (hK : X.K = K := by rfl) : OpR X (binaryOp .Add) (rCatA K) := by subst hK; exact op_catA
/-- len of a list or a tuple -/
def rLenK (K : PySem.W.Frag) : List V → Hp → VK → Prop := fun xs H Q => ∃ p ys, xs = [.ref p] ∧ (SqL K H p ys ∨ SqT K H p ys) ∧ Q (.int ys.length) H
theorem call_lenK (hK : X.K = K := by rfl) : CallR X (.builtin "len") (rLenK K) := by subst hK; exact call_len_seq
theorem cr_anyIK (hc : X.calm = true) (hK : X.K = K := by rfl) : CallR X (.builtin "any") (rAnyI K) := by subst hK; exact cr_anyI hc
theorem cr_anyK (hc : X.calm = true) (hK : X.K = K := by rfl) : CallR X (.builtin "any") (rAny K) := by subst hK; exact cr_any hc
theorem cr_allK (hc : X.calm = true) (hK : X.K = K := by rfl) : CallR X (.builtin "all") (rAll K) := by subst hK; exact cr_all hc
theorem call_isiK (hK : X.K = K := by rfl) : CallR X (.builtin "isinstance") (rIsi K) := by subst hK; exact call_isi
/-- sep.join(xs) -/
def rJoinK (K : PySem.W.Frag) : V → List V → Hp → VK → Prop := fun x xs H Q => ∃ a p, ∃ ys : List Str, x = .str a ∧ xs = [.ref p] ∧ (SqL K H p (ys.map V.str) ∨ SqT K H p (ys.map V.str)) ∧ (ys.map (·.length)).sum + ys.length * a.length ≤ 16777216 ∧ Q (.str (Txt.join a ys)) H
theorem joinK {e : Expr} {to_ te : TE} (h : PE X e (tM1 (rJoinK X.K) to_ te)) (hK : X.K = K := by rfl) : PE X e (tM1 (rJoinK K) to_ te) := by subst hK; exact h
/-- truth of any value -/
def tTruK (K : PySem.W.Frag) (ta : TE) : TT := fun σ H Q => ta σ H fun x H' => ∃ k, TruV K x H' k ∧ Q k H'
theorem truK {e : Expr} {ta : TE} (h : PT X e (tTruK X.K ta)) (hK : X.K = K := by rfl) : PT X e (tTruK K ta) := by subst hK; exact h
/-- list(xs), tuple(xs) -/
def rListOfK (K : PySem.W.Frag) : List V → Hp → VK → Prop := fun xs H Q => ∃ p ys, xs = [.ref p] ∧ (SqL K H p ys ∨ SqT K H p ys) ∧ ∀ l, H l = none → Q (.ref l) (upd H l (.lst ys))
theorem call_listK (hK : X.K = K := by rfl) : CallR X (.type "list") (rListOfK K) := by subst hK; exact call_list_of
end
/-! ### data of any depth -/
def Sh (n : Nat) (d : PyData) : Prop := d.canLay0 = true ∧ d.depth ≤ n
theorem sh_int {n : Nat} (i : Int) : Sh n (.int i) := ⟨rfl, Nat.zero_le _⟩
theorem sh_non {n : Nat} : Sh n .none := ⟨rfl, Nat.zero_le _⟩
theorem sh_bool {n : Nat} (b : Bool) : Sh n (.bool b) := ⟨rfl, Nat.zero_le _⟩
theorem sh_str {n : Nat} {z : Str} (h : ∀ c ∈ z.cps.toList, c < 0x110000) : Sh n (.str z) := by
  refine ⟨?_, Nat.zero_le _⟩
  show z.cps.all (· < 0x110000) = true
  rw [← Array.all_toList, List.all_eq_true]
  intro c hc
  exact decide_eq_true (h c hc)
theorem sh_all {n : Nat} : ∀ {ds : List PyData}, (∀ d ∈ ds, Sh n d) → PyData.canLayAll0 ds = true ∧ PyData.depthAll ds ≤ n
  | [], _ => ⟨rfl, Nat.zero_le _⟩
  | d :: ds, h => by
    obtain ⟨a, b⟩ := h d List.mem_cons_self
    obtain ⟨c, e⟩ := sh_all (ds := ds) fun x hx => h x (List.mem_cons_of_mem _ hx)
    refine ⟨?_, ?_⟩
    · show (d.canLay0 && PyData.canLayAll0 ds) = true
      rw [a, c]
      rfl
    · show max d.depth (PyData.depthAll ds) ≤ n
      omega
theorem sh_list {n : Nat} {ds : List PyData} (h : ∀ d ∈ ds, Sh n d) : Sh (n + 1) (.list ds) := ⟨(sh_all h).1, by show PyData.depthAll ds + 1 ≤ n + 1; have := (sh_all h).2; omega⟩
theorem sh_tuple {n : Nat} {ds : List PyData} (h : ∀ d ∈ ds, Sh n d) : Sh (n + 1) (.tuple ds) := ⟨(sh_all h).1, by show PyData.depthAll ds + 1 ≤ n + 1; have := (sh_all h).2; omega⟩
theorem Sh.shaped {n : Nat} {d : PyData} (h : Sh n d) (hn : n ≤ 64) : SeqAt.shaped d = true := by
  unfold SeqAt.shaped
  rw [h.1, decide_eq_true (Nat.le_trans h.2 hn)]
  rfl
theorem Sh.eqv {n : Nat} {d : PyData} (h : Sh n d) : PyData.eqv d d = true := SeqAt.eqv_refl d h.1
theorem sh_ints {n : Nat} (ns : List Int) : Sh (n + 1) (.list (ns.map .int)) := sh_list fun d hd => by
  obtain ⟨i, _, rfl⟩ := List.mem_map.mp hd
  exact sh_int i
theorem dpAll_ints {K : PySem.W.Frag} {H : Hp} : ∀ ns : List Int, DpAll K H (ns.map V.int) (ns.map .int)
  | [] => .nil
  | n :: ns => .cons (.int n) (dpAll_ints ns)
theorem dp_ints {K : PySem.W.Frag} {H : Hp} {a : Addr} {ns : List Int} (h : SqL K H a (ns.map V.int)) : Dp K H (.ref a) (.list (ns.map .int)) := .lst h (dpAll_ints ns)
theorem dpAll_refs {K : PySem.W.Frag} {H : Hp} : ∀ {as : List Addr} {ds : List PyData}, as.length = ds.length → (∀ (i : Nat) a d, as[i]? = some a → ds[i]? = some d → Dp K H (.ref a) d) → DpAll K H (as.map V.ref) ds
  | [], [], _, _ => .nil
  | [], _ :: _, h, _ => by simp at h
  | _ :: _, [], h, _ => by simp at h
  | a :: as, d :: ds, h, f => .cons (f 0 a d rfl rfl) (dpAll_refs (by simpa using h) fun i x y hx hy => f (i + 1) x y (by simpa using hx) (by simpa using hy))
theorem ne_f {n : Nat} {d : PyData} (s : Sh n d) : V.bl (!PyData.eqv d d) = V.bl false := by rw [s.eqv]; rfl
theorem eq_t {n : Nat} {d : PyData} (s : Sh n d) : V.bl (PyData.eqv d d) = V.bl true := by rw [s.eqv]

/-! ### expressions that make a list, whatever stands -/
def MkL (te : TE) (σ : L2.St) (xs : List V) : Prop := ∀ (H : Hp) (Q : VK), (∀ (p : Addr) (H' : Hp), Same H H' → H p = none → H' p = some (.lst xs) → Q (.ref p) H') → te σ H Q
theorem mk_lst {ta : TA} {σ : L2.St} {vs : List V} (h : ∀ (H : Hp) (Q : List V → Hp → Prop), Q vs H → ta σ H Q) (hl : vs.length ≤ sizeLine) : MkL (tLst ta) σ vs := fun H Q q =>
  h H _ ⟨hl, fun p hp => q p _ (nws hp (Same.refl H)) hp upd_same⟩
theorem mk_rep {ta tb : TE} {σ : L2.St} {vs : List V} {k : Nat} (h : MkL ta σ vs) (hb : ∀ (H : Hp) (Q : VK), Q (.int k) H → tb σ H Q) (hl : vs.length * k ≤ sizeLine) (hk : k < 2 ^ 62) : MkL (tOp rRep ta tb) σ (List.replicate k vs).flatten := fun H Q q =>
  h H _ fun p H1 s n c => hb H1 _ ⟨p, k, vs, rfl, rfl, c, by omega, by omega, by rw [Int.toNat_natCast]; exact hl, fun p2 h2 => q p2 _ (nws h2 s) (s.free h2) (by rw [Int.toNat_natCast]; exact upd_same)⟩
theorem mk_cat {ta tb : TE} {σ : L2.St} {vs ws : List V} (ha : MkL ta σ vs) (hb : MkL tb σ ws) (hl : vs.length + ws.length ≤ sizeLine) : MkL (tOp rCat ta tb) σ (vs ++ ws) := fun H Q q =>
  ha H _ fun p H1 s n c => hb H1 _ fun p2 H2 s2 n2 c2 => ⟨p, p2, vs, ws, rfl, rfl, s2 _ _ c, c2, hl, fun p3 h3 => q p3 _ (nws h3 (s.trans s2)) ((s.trans s2).free h3) upd_same⟩
theorem bl_same {a b : Bool} (h : a = b) : V.bl (!decide (V.bl a = V.bl b)) = V.bl false := by
  subst h
  rw [decide_eq_true rfl]
  rfl

section
open PySem PySem.Spec PyProof.Rows L2
variable {P : Program} {w : World} {K : PySem.W.Frag} {mg : Str → Option Value} {base : Heap}
def topS (i : Nat) : Stmt := PySem.Challenge.pw_keptbywitness_k44_any_block_is_read_so.main.body.getD i (.Pass ⟨0, 0, 0, 0⟩)
abbrev s__are_codes : Stmt := topS 5
abbrev N__are_codes : List Str := ["codes", "code"]
theorem sc__are_codes : FnScope N__are_codes ["codes"] (defScope s__are_codes) := ⟨rfl, rfl, rfl, by decide +kernel, rfl, by decide +kernel, by decide +kernel⟩
abbrev s__sign : Stmt := topS 6
abbrev N__sign : List Str := ["code"]
theorem sc__sign : FnScope N__sign ["code"] (defScope s__sign) := ⟨rfl, rfl, rfl, by decide +kernel, rfl, by decide +kernel, by decide +kernel⟩
abbrev s_decode_piece : Stmt := topS 7
abbrev N_decode_piece : List Str := ["block", "place", "many", "high", "low", "count", "codes", "code"]
theorem sc_decode_piece : FnScope N_decode_piece ["block"] (defScope s_decode_piece) := ⟨rfl, rfl, rfl, by decide +kernel, rfl, by decide +kernel, by decide +kernel⟩
abbrev s__law_cell : Stmt := topS 9
abbrev N__law_cell : List Str := ["_law_script", "_law_k"]
theorem sc__law_cell : FnScope N__law_cell ["_law_script", "_law_k"] (defScope s__law_cell) := ⟨rfl, rfl, rfl, by decide +kernel, rfl, by decide +kernel, by decide +kernel⟩
abbrev s__law_digits : Stmt := topS 10
abbrev N__law_digits : List Str := ["_law_script", "_law_first", "_law_last", "_law_digits_here", "_law_k", "_law_cell_here", "_law_turn", "_law_seed"]
theorem sc__law_digits : FnScope N__law_digits ["_law_script", "_law_first", "_law_last"] (defScope s__law_digits) := ⟨rfl, rfl, rfl, by decide +kernel, rfl, by decide +kernel, by decide +kernel⟩
abbrev s__law_draw : Stmt := topS 11
abbrev N__law_draw : List Str := ["_law_box", "_law_many", "_law_at"]
theorem sc__law_draw : FnScope N__law_draw ["_law_box", "_law_many"] (defScope s__law_draw) := ⟨rfl, rfl, rfl, by decide +kernel, rfl, by decide +kernel, by decide +kernel⟩
abbrev s__law_pieces : Stmt := topS 12
abbrev N__law_pieces : List Str := ["_law_number", "_law_text", "_law_blocks", "_law_many", "_law_k", "_law_part", "_law_block", "_law_sign"]
theorem sc__law_pieces : FnScope N__law_pieces ["_law_number", "_law_text"] (defScope s__law_pieces) := ⟨rfl, rfl, rfl, by decide +kernel, rfl, by decide +kernel, by decide +kernel⟩
abbrev s__law_signs : Stmt := topS 13
abbrev N__law_signs : List Str := ["_law_box", "_law_many", "_law_signs_here", "_law_text", "_law_turn"]
theorem sc__law_signs : FnScope N__law_signs ["_law_box", "_law_many"] (defScope s__law_signs) := ⟨rfl, rfl, rfl, by decide +kernel, rfl, by decide +kernel, by decide +kernel⟩
abbrev s__law_due_piece : Stmt := topS 14
abbrev N__law_due_piece : List Str := ["_law_block", "_law_signs_here", "_law_text", "_law_code", "_law_byte"]
theorem sc__law_due_piece : FnScope N__law_due_piece ["_law_block"] (defScope s__law_due_piece) := ⟨rfl, rfl, rfl, by decide +kernel, rfl, by decide +kernel, by decide +kernel⟩
abbrev s__law_reads_so : Stmt := topS 15
abbrev N__law_reads_so : List Str := ["_law_block", "_law_handed"]
theorem sc__law_reads_so : FnScope N__law_reads_so ["_law_block"] (defScope s__law_reads_so) := ⟨rfl, rfl, rfl, by decide +kernel, rfl, by decide +kernel, by decide +kernel⟩
abbrev s__law_torn_piece : Stmt := topS 16
abbrev N__law_torn_piece : List Str := ["_law_block", "_law_zeros", "_law_many"]
theorem sc__law_torn_piece : FnScope N__law_torn_piece ["_law_block"] (defScope s__law_torn_piece) := ⟨rfl, rfl, rfl, by decide +kernel, rfl, by decide +kernel, by decide +kernel⟩
abbrev s_law : Stmt := topS 17
abbrev N_law : List Str := ["_law_script", "_law_box", "_law_turn", "_law_number", "_law_rows", "_law_block", "_law_step", "_law_other", "_law_row", "_law_k"]
theorem sc_law : FnScope N_law ["_law_script"] (defScope s_law) := ⟨rfl, rfl, rfl, by decide +kernel, rfl, by decide +kernel, by decide +kernel⟩
def cs_SIGNS : Str := " !\"#$&'()*+,-./0123456789:;<=>?@ABCDEFGHIJKLMNOPQRSTUVWXYZ[\\]^_`abcdefghijklmnopqrstuvwxyz{|}~"
structure Txt (K : PySem.W.Frag) (mg : Str → Option Value) : Prop where
  n_any : mg "any" = none
  n_int : mg "int" = none
  n_len : mg "len" = none
  n_list : mg "list" = none
  n_ord : mg "ord" = none
  n_range : mg "range" = none
  c_PERCENT : CoI mg "PERCENT" 37
  c_SIGNS : CoS mg "SIGNS" cs_SIGNS
  c_RECORD : CoI mg "RECORD" 75
  c_PIECE : CoI mg "PIECE" 24
  d__are_codes : DefAt K mg "_are_codes" s__are_codes
  d__sign : DefAt K mg "_sign" s__sign
  d_decode_piece : DefAt K mg "decode_piece" s_decode_piece
  d__law_cell : DefAt K mg "_law_cell" s__law_cell
  d__law_digits : DefAt K mg "_law_digits" s__law_digits
  d__law_draw : DefAt K mg "_law_draw" s__law_draw
  d__law_pieces : DefAt K mg "_law_pieces" s__law_pieces
  d__law_signs : DefAt K mg "_law_signs" s__law_signs
  d__law_due_piece : DefAt K mg "_law_due_piece" s__law_due_piece
  d__law_reads_so : DefAt K mg "_law_reads_so" s__law_reads_so
  d__law_torn_piece : DefAt K mg "_law_torn_piece" s__law_torn_piece
  d_law : DefAt K mg "law" s_law
end
section
open PySem PySem.Spec PyProof.Rows L2
variable {P : Program} {w : World} {K : PySem.W.Frag} {mg : Str → Option Value} {base : Heap}
/-! ### the draws of a law -/
def sp__law_cell (K : PySem.W.Frag) : Sp := SpOf (fun ((a, _, i) : Addr × List Int × Int) => [.ref a, .int i]) fun (a, ns, i) H Q => SqL K H a (ns.map V.int) ∧ 0 ≤ i ∧ ∀ v, Q (.int v) H
set_option maxHeartbeats 4000000 in
theorem ok__law_cell (T : Txt K mg) : DefOk P w K mg base "_law_cell" 1 ["_law_script", "_law_k"] (sp__law_cell K) := by
  refine DefOk.mk' T.d__law_cell sc__law_cell (fun _ _ _ _ _ _ us hl => match us, hl with | [_, _], _ => rfl) (fun _ => rfl) (fun cdv f A outer s H p Q E hr h => ?_)
  obtain ⟨a, ns, i⟩ := p
  obtain ⟨hS, hi, k⟩ := h
  refine ⟨_, (pss_cons (ps_if (pt_cmpR op_lt (pv 1) (pe_callB (call_lenK (K := K)) (by rfl) T.n_len (by decide +kernel) (pa_cons (pv 0) pa_nil)) (nomark _))
    (pss_one (ps_ret (pe_ix (ix_listK (K := K)) (pv 0) (pv 1) (fun _ _ => rfl))))
    pss_nil)
    (pss_one (ps_ret pe_int))), ?_⟩
  refine ⟨_, rfl, .ref a, rfl, a, _, rfl, .inl hS, _, _, rfl, rfl, _, rfl, ite2 (fun h => ?_) (fun h => ?_)⟩
  · have h : i < ((ns.map V.int).length : Int) := of_decide_eq_true h
    rw [List.length_map] at h
    obtain ⟨j, rfl⟩ : ∃ j : Nat, i = (j : Int) := ⟨i.toNat, by omega⟩
    have hj : j < ns.length := by omega
    refine ⟨_, rfl, _, rfl, a, _, _, .int ns[j], rfl, rfl, hS, atI_nat ?_, k _⟩
    rw [List.getElem?_map, List.getElem?_eq_getElem hj]
    rfl
  · exact k _
def sp__law_digits (K : PySem.W.Frag) : Sp := SpOf (fun ((a, _, lo, hi) : Addr × List Int × Int × Int) => [.ref a, .int lo, .int hi]) fun (a, ns, lo, hi) H Q =>
  SqL K H a (ns.map V.int) ∧ 0 ≤ lo ∧ lo ≤ hi ∧ hi ≤ 1000 ∧ ∀ (l : Addr) (ds : List Int), H l = none → ds.length ≤ 60 * (hi - lo).toNat → Q (.ref l) (upd H l (.lst (ds.map V.int)))
theorem small100k {n : Nat} (h : n ≤ 100000) : n < sizeLine := Nat.lt_of_le_of_lt h (by decide)
set_option maxHeartbeats 4000000 in
theorem ok__law_digits (T : Txt K mg) : DefOk P w K mg base "_law_digits" 2 ["_law_script", "_law_first", "_law_last"] (sp__law_digits K) := by
  have G__law_cell := ok__law_cell (P := P) (w := w) (base := base) T
  refine DefOk.mk' T.d__law_digits sc__law_digits (fun _ _ _ _ _ _ us hl => match us, hl with | [_, _, _], _ => rfl) (fun _ => rfl) (fun cdv f A outer s H p Q E hr h => ?_)
  obtain ⟨a, ns, lo, hi⟩ := p
  obtain ⟨hS, h0, h1, h2, k⟩ := h
  refine ⟨_, (pss_cons (ps_set (i := 3) sc__law_digits.nd rfl (.inl rfl) (pe_lst pa_nil))
    (pss_cons (ps_for PassesOwn.never rfl (pi_range2 rfl T.n_range (pa_cons (pv 1) (pa_cons (pv 2) pa_nil))) (pg_name (i := 4) sc__law_digits.nd rfl (.inl rfl))
    (pss_cons (ps_set (i := 5) sc__law_digits.nd rfl (.inl rfl) (pe_callD G__law_cell (hr.mono (by decide)) rfl (pa_cons (pv 0) (pa_cons (pv 4) pa_nil))))
    (C8.pss_cut (ps_if (pt_cmpR op_lt (pv 5) pe_int (nomark _))
    (pss_one (ps_set (i := 5) sc__law_digits.nd rfl (.inl rfl) (pe_op op_sub pe_int (pe_op op_mul pe_int (pv 5)))))
    pss_nil)
    (pss_one (ps_if (pt_cmpR op_ge (pv 5) pe_int (nomark _))
    (pss_one (ps_for PassesOwn.never rfl (pi_range1 rfl T.n_range (pa_cons pe_int pa_nil)) (pg_name (i := 6) sc__law_digits.nd rfl (.inl rfl))
    (pss_one (ps_if (pt_cmpR op_gt (pv 5) pe_int (nomark _))
    (pss_cons (ps_expr (bmK (K := K) (pe_bm PySem.F.plainAttrs_list PySem.F.slot_list_append PySem.F.type_list_append mt_append (pv 3) (pa_cons (pe_op op_modN (pe_callTy call_int1 (by rfl) T.n_int (by decide +kernel) (pa_cons (pv 5) pa_nil)) pe_int) pa_nil))))
    (pss_one (ps_set (i := 5) sc__law_digits.nd rfl (.inl rfl) (pe_op op_fdivN (pv 5) pe_int))))
    pss_nil))))
    (pss_cons (ps_set (i := 7) sc__law_digits.nd rfl (.inl rfl) (pe_op op_modN (pe_callTy call_int1 (by rfl) T.n_int (by decide +kernel) (pa_cons (pe_op op_add (pe_op op_add (pe_op op_mul (pv 5) pe_int) (pe_op op_mul (pv 4) pe_int)) pe_int) pa_nil)) pe_int))
    (pss_one (ps_for PassesOwn.never rfl (pi_range1 rfl T.n_range (pa_cons pe_int pa_nil)) (pg_name (i := 6) sc__law_digits.nd rfl (.inl rfl))
    (pss_cons (ps_set (i := 7) sc__law_digits.nd rfl (.inl rfl) (pe_op op_modN (pe_callTy call_int1 (by rfl) T.n_int (by decide +kernel) (pa_cons (pe_op op_add (pe_op op_add (pe_op op_mul (pv 7) pe_int) (pe_op op_mul pe_int (pv 6))) pe_int) pa_nil)) pe_int))
    (pss_one (ps_expr (bmK (K := K) (pe_bm PySem.F.plainAttrs_list PySem.F.slot_list_append PySem.F.type_list_append mt_append (pv 3) (pa_cons (pe_op op_modN (pe_callTy call_int1 (by rfl) T.n_int (by decide +kernel) (pa_cons (pe_op op_fdivN (pv 7) pe_int) pa_nil)) pe_int) pa_nil))))))))))))))
    (pss_one (ps_ret (pv 3))))), ?_⟩
  refine ⟨Nat.zero_le _, fun o no => ?_⟩
  have hSo : ∀ ds : List Int, SqL K (upd H o (.lst (ds.map V.int))) a (ns.map V.int) := fun ds => (Fr.same (Fr.new no)).seq hS
  refine ⟨_, rfl, _, rfl, _, _, rfl, ⟨by omega, by omega, by omega, by omega⟩, for_range (lo := lo) (n := (hi - lo).toNat)
    (fun i σ H' => ∃ (ds : List Int) (v4 v5 v6 v7 : Option V), σ = [some (.ref a), some (.int lo), some (.int hi), some (.ref o), v4, v5, v6, v7] ∧ ds.length ≤ 60 * i ∧ H' = upd H o (.lst (ds.map V.int)))
    ⟨[], none, none, none, none, rfl, Nat.le_refl _, rfl⟩ ?_ ?_⟩
  · rintro i σ H' hi' ⟨ds, v4, v5, v6, v7, rfl, hl, rfl⟩
    refine ⟨_, rfl, _, rfl, (a, ns, lo + i), rfl, hSo ds, by show 0 ≤ lo + (i : Int); omega, fun c => ?_⟩
    refine ⟨fun σ H' => ∃ z, σ = [some (.ref a), some (.int lo), some (.int hi), some (.ref o), some (.int (lo + i)), some (.int z), v6, v7] ∧ H' = upd H o (.lst (ds.map V.int)), ?_, ?_⟩
    · refine ⟨_, rfl, _, _, rfl, rfl, _, rfl, ite2 (fun _ => ?_) (fun _ => ⟨c, rfl, rfl⟩)⟩
      exact ⟨_, rfl, _, _, rfl, rfl, .inl ⟨by decide, by decide⟩, _, _, rfl, rfl, _, rfl, rfl⟩
    · rintro σ H' ⟨z, rfl, rfl⟩
      refine ⟨_, rfl, _, _, rfl, rfl, _, rfl, ite2 (fun _ => ?_) (fun _ => ?_)⟩
      · refine ⟨60, rfl, by decide, by decide, for_range (lo := 0) (n := 60)
          (fun j σ H' => ∃ (ds' : List Int) (z : Int) (v6 : Option V), σ = [some (.ref a), some (.int lo), some (.int hi), some (.ref o), some (.int (lo + i)), some (.int z), v6, v7] ∧ ds'.length ≤ 60 * i + j ∧ H' = upd H o (.lst (ds'.map V.int)))
          ⟨ds, z, _, rfl, hl, rfl⟩ ?_ fun σ H' ⟨ds', z, v6, e, hl', e'⟩ => ⟨ds', _, _, _, _, e, by omega, e'⟩⟩
        rintro j σ H' hj ⟨ds', z, v6, rfl, hl', rfl⟩
        refine ⟨_, rfl, _, _, rfl, rfl, _, rfl, ite2 (fun _ => ?_) (fun _ => ⟨ds', z, _, rfl, by omega, rfl⟩)⟩
        refine ⟨_, rfl, .inl ⟨rfl, _, SqL.of upd_same⟩, _, rfl, .inl ⟨_, rfl, _, _, rfl, rfl, (by show (1000 : Int) ≠ 0; decide), o, _, _, rfl, rfl, upd_same, ?_, _, rfl, _, _, rfl, rfl, ⟨by decide, by decide⟩, ?_⟩⟩
        · rw [List.length_map]
          exact small100k (by omega)
        · refine ⟨_, _, _, rfl, ?_, upd_snocI⟩
          rw [List.length_append]
          show ds'.length + 1 ≤ _
          omega
      · refine ⟨_, rfl, _, _, rfl, rfl, .inr ⟨by decide, by decide⟩, _, rfl, _, _, rfl, rfl, .inr ⟨by decide, by decide⟩, _, _, rfl, rfl, _, _, rfl, rfl, .inl ⟨_, rfl, _, _, rfl, rfl, (by show (2147483399 : Int) ≠ 0; decide), ?_⟩⟩
        refine ⟨12, rfl, by decide, by decide, for_range (lo := 0) (n := 12)
          (fun j σ H' => ∃ (ds' : List Int) (y : Int) (v6 : Option V), σ = [some (.ref a), some (.int lo), some (.int hi), some (.ref o), some (.int (lo + i)), some (.int z), v6, some (.int y)] ∧ ds'.length ≤ 60 * i + j ∧ H' = upd H o (.lst (ds'.map V.int)))
          ⟨ds, _, _, rfl, hl, rfl⟩ ?_ fun σ H' ⟨ds', y, v6, e, hl', e'⟩ => ⟨ds', _, _, _, _, e, by omega, e'⟩⟩
        rintro j σ H' hj ⟨ds', y, v6, rfl, hl', rfl⟩
        refine ⟨_, rfl, _, _, rfl, rfl, .inr ⟨by decide, by decide⟩, _, rfl, _, _, rfl, rfl, .inl ⟨by decide, by decide⟩, _, _, rfl, rfl, _, _, rfl, rfl, .inl ⟨_, rfl, _, _, rfl, rfl, (by show (2147483563 : Int) ≠ 0; decide), ?_⟩⟩
        refine ⟨_, rfl, .inl ⟨rfl, _, SqL.of upd_same⟩, _, rfl, _, _, rfl, rfl, ⟨by decide, by decide⟩, .inl ⟨_, rfl, _, _, rfl, rfl, (by show (1000 : Int) ≠ 0; decide), o, _, _, rfl, rfl, upd_same, ?_, ?_⟩⟩
        · rw [List.length_map]
          exact small100k (by omega)
        · refine ⟨_, _, _, rfl, ?_, upd_snocI⟩
          rw [List.length_append]
          show ds'.length + 1 ≤ _
          omega
  · rintro σ H' ⟨ds, v4, v5, v6, v7, rfl, hl, rfl⟩
    exact ⟨_, rfl, k o ds no hl⟩

/-! the box of the draws: its digits, and how many were drawn -/
def BoxAt (K : PySem.W.Frag) (H : Hp) (b : Addr) : Prop := ∃ (l : Addr) (ds : List Int) (at_ : Int), H b = some (.lst [.ref l, .int at_]) ∧ SqL K H l (ds.map V.int) ∧ 0 ≤ at_ ∧ l ≠ b
theorem BoxAt.fr {H H' : Hp} {b : Addr} (B : BoxAt K H b) (f : Fr [] H H') : BoxAt K H' b := by
  obtain ⟨l, ds, z, h1, h2, h3, h4⟩ := B
  exact ⟨l, ds, z, f _ _ (by simp) h1, seq_fr f (by simp) h2, h3, h4⟩
def sp__law_draw (K : PySem.W.Frag) : Sp := SpOf (fun ((b, m) : Addr × Int) => [.ref b, .int m]) fun (b, m) H Q =>
  BoxAt K H b ∧ 0 < m ∧ ∀ (r : Int) (H' : Hp), 0 ≤ r → r < m → BoxAt K H' b → Fr [b] H H' → Q (.int r) H'
set_option maxHeartbeats 4000000 in
theorem ok__law_draw (T : Txt K mg) : DefOk P w K mg base "_law_draw" 1 ["_law_box", "_law_many"] (sp__law_draw K) := by
  refine DefOk.mk' T.d__law_draw sc__law_draw (fun _ _ _ _ _ _ us hl => match us, hl with | [_, _], _ => rfl) (fun _ => rfl) (fun cdv f A outer s H p Q E hr h => ?_)
  obtain ⟨b, m⟩ := p
  obtain ⟨⟨l, ds, z, hb, hl, hz, ne⟩, hm, k⟩ := h
  refine ⟨_, (pss_cons (ps_set (i := 2) sc__law_draw.nd rfl (.inl rfl) (pe_ix (ix_listK (K := K)) (pv 0) pe_int (fun _ _ => rfl)))
    (pss_cons (ps_asg (pe_op op_add (pv 2) pe_int) (pg_sub (pv 0) pe_int set_list))
    (pss_cons (ps_if (pt_cmpR op_lt (pv 2) (pe_callB (call_lenK (K := K)) (by rfl) T.n_len (by decide +kernel) (pa_cons (pe_ix (ix_listK (K := K)) (pv 0) pe_int (fun _ _ => rfl)) pa_nil)) (nomark _))
    (pss_one (ps_ret (pe_op op_modN (pe_callTy call_int1 (by rfl) T.n_int (by decide +kernel) (pa_cons (pe_ix (ix_listK (K := K)) (pe_ix (ix_listK (K := K)) (pv 0) pe_int (fun _ _ => rfl)) (pv 2) (fun _ _ => rfl)) pa_nil)) (pv 1))))
    pss_nil)
    (pss_one (ps_ret (pe_op op_modN (pe_callTy call_int1 (by rfl) T.n_int (by decide +kernel) (pa_cons (pe_op op_add (pe_op op_mul (pv 2) pe_int) pe_int) pa_nil)) (pv 1))))))), ?_⟩
  have B' : BoxAt K (upd H b (.lst [.ref l, .int (z + 1)])) b := ⟨l, ds, z + 1, upd_same, seq_fr (W := [b]) (Fr.upd List.mem_cons_self) (by simp [ne]) hl, by omega, ne⟩
  have f' : Fr [b] H (upd H b (.lst [.ref l, .int (z + 1)])) := Fr.upd List.mem_cons_self
  have hl2 : SqL K (upd H b (.lst [.ref l, .int (z + 1)])) l (ds.map V.int) := seq_fr f' (by simp [ne]) hl
  refine ⟨_, rfl, b, _, 1, .int z, rfl, rfl, SqL.of hb, rfl, _, rfl, _, _, rfl, rfl, _, rfl, b, _, 1, 1, rfl, rfl, hb, rfl, ?_⟩
  refine ⟨_, rfl, _, rfl, b, _, 0, .ref l, rfl, rfl, SqL.of upd_same, rfl, l, _, rfl, .inl hl2, _, _, rfl, rfl, _, rfl, ite2 (fun h => ?_) (fun _ => ?_)⟩
  · have h : z < ((ds.map V.int).length : Int) := of_decide_eq_true h
    rw [List.length_map] at h
    obtain ⟨j, rfl⟩ : ∃ j : Nat, z = (j : Int) := ⟨z.toNat, by omega⟩
    have hj : j < ds.length := by omega
    refine ⟨_, rfl, b, _, 0, .ref l, rfl, rfl, SqL.of upd_same, rfl, _, rfl, l, _, _, .int ds[j], rfl, rfl, hl2, atI_nat (by rw [List.getElem?_map, List.getElem?_eq_getElem hj]; rfl), .inl ⟨_, rfl, _, rfl, _, _, rfl, rfl, (by show m ≠ 0; omega), ?_⟩⟩
    exact k _ _ (Int.fmod_nonneg_of_pos _ hm) (Int.fmod_lt_of_pos _ hm) B' f'
  · refine ⟨_, rfl, _, _, rfl, rfl, .inr ⟨by decide, by decide⟩, _, _, rfl, rfl, .inl ⟨_, rfl, _, rfl, _, _, rfl, rfl, (by show m ≠ 0; omega), ?_⟩⟩
    exact k _ _ (Int.fmod_nonneg_of_pos _ hm) (Int.fmod_lt_of_pos _ hm) B' f'

end
section
open PySem PySem.Spec PyProof.Rows L2
variable {P : Program} {w : World} {K : PySem.W.Frag} {mg : Str → Option Value} {base : Heap}
/-! ### blocks.py -/
def ic (z : Str) : List Int := z.cps.toList.map fun c : Nat => (c : Int)
theorem ic_len (z : Str) : (ic z).length = z.length := by
  show (z.cps.toList.map _).length = z.cps.size
  rw [List.length_map, Array.length_toList]
theorem ic_at {z : Str} {i c : Nat} (h : z.cps[i]? = some c) : (ic z)[i]? = some (c : Int) := by
  show (z.cps.toList.map _)[i]? = _
  rw [List.getElem?_map, Array.getElem?_toList, h]
  rfl
def pieceI (k m n : Int) (cs : List Int) : List Int := [75, k, m, n / 256, n % 256, (cs.length : Int)] ++ cs ++ List.replicate (25 - cs.length) 0 ++ [75]
theorem take_snoc {α : Type} {l : List α} {i : Nat} {x : α} (h : l[i]? = some x) : l.take (i + 1) = l.take i ++ [x] := by
  rw [List.take_add_one, h]
  rfl
theorem rep_flat (n : Nat) (v : V) : (List.replicate n [v]).flatten = List.replicate n v := by
  induction n with
  | zero => rfl
  | succ n ih => rw [List.replicate_succ, List.flatten_cons, ih, List.replicate_succ]; rfl
/-- the codes of the k-th piece -/
def chunkS (z : Str) (k : Nat) : Str := ⟨((z.cps.toList.drop (24 * k)).take 24).toArray⟩
def manyS (z : Str) : Nat := (z.length + 23) / 24
theorem chunk_len (z : Str) (k : Nat) : (chunkS z k).length ≤ 24 := by
  show ((z.cps.toList.drop (24 * k)).take 24).toArray.size ≤ 24
  rw [List.size_toArray, List.length_take]
  omega
theorem sIx_min (n d : Nat) (k : Nat) : HT.sIx n d (some (k : Int)) = min k n := HT.sIx_nat n d k
theorem cut_chunk (z : Str) (k : Nat) (lo hi : Int) (h1 : lo = ((24 * k : Nat) : Int)) (h2 : hi = ((24 * k + 24 : Nat) : Int)) : cutS z (some lo) (some hi) = chunkS z k := by
  subst h1 h2
  unfold cutS chunkS
  rw [sIx_min, sIx_min]
  have hl : z.cps.toList.length = z.length := Array.length_toList
  congr 2
  by_cases h : 24 * k ≤ z.length
  · rw [Nat.min_eq_left h]
    by_cases h' : 24 * k + 24 ≤ z.length
    · rw [Nat.min_eq_left h', show 24 * k + 24 - 24 * k = 24 by omega]
    · rw [Nat.min_eq_right (by omega), List.take_of_length_le (by rw [List.length_drop]; omega), List.take_of_length_le (by rw [List.length_drop]; omega)]
  · rw [List.drop_eq_nil_of_le (by omega), List.drop_eq_nil_of_le (by omega)]
    simp
theorem rgc24 (n : Nat) (h : n ≤ 100000) : RgC 0 (n : Int) 24 ((n + 23) / 24) := by
  have er : Builtin.Range.rangeSize 0 (n : Int) 24 = (((n + 23) / 24 : Nat) : Int) := by
    unfold Builtin.Range.rangeSize
    rw [if_pos (by decide)]
    by_cases h0 : (0 : Int) < n
    · rw [if_pos h0]
      omega
    · rw [if_neg h0]
      omega
  refine ⟨by decide, by decide, ?_, er⟩
  have f : ∀ x : Int, -1000000 ≤ x → x ≤ 1000000 → Builtin.Range.rangeFitsLong x = true := fun x a b => by
    unfold Builtin.Range.rangeFitsLong
    have h1 : decide (-(2 ^ 63) ≤ x) = true := decide_eq_true (by omega)
    have h2 : decide (x < 2 ^ 63) = true := decide_eq_true (by omega)
    first | rw [h1, h2]; rfl | (simp only [Bool.and_eq_true, decide_eq_true_eq]; omega)
  unfold Builtin.Range.small
  rw [er, f 0 (by decide) (by decide), f n (by omega) (by omega), f 24 (by decide) (by decide), f _ (by omega) (by omega), if_pos (by decide), f _ (by omega) (by omega)]
  simp
/-- the address list of rows: each row a list that stands -/
def RowsAt (K : PySem.W.Frag) (H : Hp) (l : Addr) (rows : List (List Int)) : Prop := ∃ as : List Addr, H l = some (.lst (as.map V.ref)) ∧ as.length = rows.length ∧ ∀ (i : Nat) a r, as[i]? = some a → rows[i]? = some r → H a = some (.lst (r.map V.int))
def blocksI (n : Int) (z : Str) : List (List Int) := (List.range (manyS z)).map fun k : Nat => pieceI k (manyS z) n (ic (chunkS z k))

end
section
open PySem PySem.Spec PyProof.Rows L2
variable {P : Program} {w : World} {K : PySem.W.Frag} {mg : Str → Option Value} {base : Heap}
/-! ### reading a block -/
def okC (c : Int) : Bool := (decide (32 ≤ c) && decide (c ≤ 126)) && !decide (c = 37)
def sp__are_codes (K : PySem.W.Frag) : Sp := SpOf (fun ((a, _) : Addr × List Int) => [.ref a]) fun (a, cs) H Q => SqL K H a (cs.map V.int) ∧ Q (.bl (cs.all okC)) H
set_option maxHeartbeats 4000000 in
theorem ok__are_codes (T : Txt K mg) : DefOk P w K mg base "_are_codes" 1 ["codes"] (sp__are_codes K) := by
  refine DefOk.mk' T.d__are_codes sc__are_codes (fun _ _ _ _ _ _ us hl => match us, hl with | [_], _ => rfl) (fun _ => rfl) (fun cdv f A outer s H p Q E hr h => ?_)
  obtain ⟨a, cs⟩ := p
  obtain ⟨hS, k⟩ := h
  refine ⟨_, (pss_cons (ps_for PassesOwn.never rfl (ilistK (K := K) (pi_list (pv 0))) (pg_name (i := 1) sc__are_codes.nd rfl (.inl rfl))
    (pss_one (ps_if (PW.pt (pw_or (pt_not (pt_chain op_le op_le pe_int (pv 1) pe_int)) (pw_or1 (pt_cmpR op_eq (pv 1) (pe_coI T.c_PERCENT rfl) (nomark _)))))
    (pss_one (ps_ret pe_bl))
    pss_nil)))
    (pss_one (ps_ret pe_bl))), ?_⟩
  refine ⟨_, rfl, a, rfl, ⟨_, hS⟩, for_list (xs := cs.map V.int) (fun i σ H' => ∃ v1, σ = [some (.ref a), v1] ∧ H' = H ∧ (cs.take i).all okC = true) ⟨none, rfl, rfl, rfl⟩ (fun i σ H' _ ⟨_, _, e, _⟩ => by rw [e]; exact hS) ?_ ?_⟩
  · rintro i x σ H' hx ⟨v1, rfl, rfl, hall⟩
    have hi : i < cs.length := by
      have := (List.getElem?_eq_some_iff.mp hx).1
      rwa [List.length_map] at this
    have ec : x = .int cs[i] := by
      rw [List.getElem?_map, List.getElem?_eq_getElem hi] at hx
      exact (Option.some.inj hx).symm
    subst ec
    have hc : cs[i]? = some cs[i] := List.getElem?_eq_getElem hi
    have stop : okC cs[i] = false → cs.all okC = false := fun e => by
      rw [List.all_eq_false]
      exact ⟨cs[i], List.getElem_mem hi, by rw [e]; decide⟩
    have go : okC cs[i] = true → (cs.take (i + 1)).all okC = true := fun e => by
      rw [take_snoc hc, List.all_append, hall, List.all_cons, e]
      rfl
    -- not 32 <= code <= 126
    refine ⟨_, rfl, _, _, rfl, rfl, _, rfl, ?_⟩
    cases h1 : decide ((32 : Int) ≤ cs[i]) with
    | false =>
      refine ⟨_, rfl, ?_⟩
      show Q (.bl false) H'
      rw [← stop (by simp only [okC, h1]; rfl)]
      exact k
    | true =>
      refine ⟨_, _, rfl, rfl, _, rfl, ?_⟩
      cases h2 : decide (cs[i] ≤ (126 : Int)) with
      | false =>
        show Q (.bl false) H'
        rw [← stop (by simp only [okC, h1, h2]; rfl)]
        exact k
      | true =>
        refine ⟨_, rfl, rfl, _, rfl, ite2 (fun h => ?_) (fun h => ⟨_, rfl, rfl, go ?_⟩)⟩
        · have h : V.int cs[i] = V.int 37 := of_decide_eq_true h
          have h3 : cs[i] = 37 := V.int.inj h
          show Q (.bl false) H'
          rw [← stop (by rw [h3]; rfl)]
          exact k
        · have h3 : decide (cs[i] = (37 : Int)) = false := decide_eq_false fun e => h (decide_eq_true (by rw [e]))
          simp only [okC, h1, h2, h3]
          rfl
  · rintro σ H' ⟨v1, rfl, rfl, hall⟩
    rw [List.length_map, List.take_length] at hall
    show Q (.bl true) H'
    rw [← hall]
    exact k
theorem signs_at : ∀ j : Nat, j < 94 → cs_SIGNS.cps.toList[j]? = some (if j < 5 then j + 32 else j + 33) := by decide +kernel
def sp__sign (K : PySem.W.Frag) : Sp := SpOf (fun (c : Int) => [.int c]) fun c H Q => okC c = true ∧ Q (.str ⟨#[c.toNat]⟩) H
set_option maxHeartbeats 4000000 in
theorem ok__sign (T : Txt K mg) : DefOk P w K mg base "_sign" 1 ["code"] (sp__sign K) := by
  refine DefOk.mk' T.d__sign sc__sign (fun _ _ _ _ _ _ us hl => match us, hl with | [_], _ => rfl) (fun _ => rfl) (fun cdv f A outer s H p Q E hr h => ?_)
  obtain ⟨hc, k⟩ := h
  refine ⟨_, (pss_one (ps_ret (pe_ifExp (pt_cmpR op_lt (pv 0) (pe_coI T.c_PERCENT rfl) (nomark _)) (pe_ix ix_str (pe_coS T.c_SIGNS rfl) (pe_op op_sub (pv 0) pe_int) (fun _ _ => rfl)) (pe_ix ix_str (pe_coS T.c_SIGNS rfl) (pe_op op_sub (pv 0) pe_int) (fun _ _ => rfl))))), ?_⟩
  simp only [okC, Bool.and_eq_true, decide_eq_true_eq, Bool.not_eq_true', decide_eq_false_iff_not] at hc
  obtain ⟨⟨h1, h2⟩, h3⟩ := hc
  have hl : cs_SIGNS.length ≤ sizeLine := Nat.le_of_lt (small1000 (by decide +kernel))
  refine ⟨_, rfl, _, _, rfl, rfl, _, rfl, ite2 (fun h => ?_) (fun h => ?_)⟩
  · have h : p < 37 := of_decide_eq_true h
    refine ⟨_, rfl, _, _, rfl, rfl, cs_SIGNS, p - 32, p.toNat, rfl, rfl, hl, ?_, k⟩
    have e := signs_at (p - 32).toNat (by omega)
    rw [if_pos (by omega), show (p - 32).toNat + 32 = p.toNat by omega] at e
    have e2 := atI_nat e
    rwa [show (((p - 32).toNat : Nat) : Int) = p - 32 by omega] at e2
  · have h : ¬ p < 37 := fun e => h (decide_eq_true e)
    refine ⟨_, rfl, _, _, rfl, rfl, cs_SIGNS, p - 33, p.toNat, rfl, rfl, hl, ?_, k⟩
    have e := signs_at (p - 33).toNat (by omega)
    rw [if_neg (by omega), show (p - 33).toNat + 33 = p.toNat by omega] at e
    have e2 := atI_nat e
    rwa [show (((p - 33).toNat : Nat) : Int) = p - 33 by omega] at e2

end
section
open PySem PySem.Spec PyProof.Rows L2
variable {P : Program} {w : World} {K : PySem.W.Frag} {mg : Str → Option Value} {base : Heap}
def decI (bs : List Int) : Option (Int × Int × Int × Str) :=
  if bs.getD 0 0 ≠ 75 ∨ bs.getD 31 0 ≠ 75 then none else
  if bs.getD 1 0 ≥ bs.getD 2 0 ∨ ¬ (1 ≤ bs.getD 5 0 ∧ bs.getD 5 0 ≤ 24) ∨ ((bs.drop (6 + (bs.getD 5 0).toNat)).take (25 - (bs.getD 5 0).toNat)).any (· != 0) = true then none else
  if ((bs.drop 6).take (bs.getD 5 0).toNat).all okC = true then some (bs.getD 1 0, bs.getD 2 0, bs.getD 3 0 * 256 + bs.getD 4 0, ⟨(((bs.drop 6).take (bs.getD 5 0).toNat).map Int.toNat).toArray⟩) else none
def RetDec (r : Option (Int × Int × Int × Str)) (H : Hp) (Q : VK) : Prop := match r with
  | none => ∀ H', Same H H' → Q .non H'
  | some (k, m, n, z) => ∀ (l : Addr) (H' : Hp), Same H H' → H l = none → H' l = some (.tup [.int k, .int m, .int n, .str z]) → Q (.ref l) H'
theorem joinL_nil : ∀ ps : List (List Nat), TL.joinL [] ps = ps.flatten
  | [] => rfl
  | [p] => by simp [TL.joinL]
  | p :: q :: r => by
    show p ++ ([] ++ TL.joinL [] (q :: r)) = _
    rw [joinL_nil (q :: r), List.nil_append, List.flatten_cons, List.flatten_cons, List.flatten_cons]
theorem join_signs (e : Str) (he : e.cps.toList = []) (cs : List Int) : Txt.join e (cs.map fun c => (⟨#[c.toNat]⟩ : Str)) = ⟨(cs.map Int.toNat).toArray⟩ := by
  rw [TL.join_eq]
  have h := TL.tl_join e (cs.map fun c => (⟨#[c.toNat]⟩ : Str))
  rw [show TL.tl e = [] from he, joinL_nil, List.map_map] at h
  have h2 : ∀ l : List Int, (l.map (TL.tl ∘ fun c => (⟨#[c.toNat]⟩ : Str))).flatten = l.map Int.toNat := fun l => by
    induction l with
    | nil => rfl
    | cons a l ih => rw [List.map_cons, List.flatten_cons, ih]; rfl
  rw [h2] at h
  have h3 : (Str.join e (cs.map fun c => (⟨#[c.toNat]⟩ : Str))).cps.toList = cs.map Int.toNat := h
  rw [← h3]
def sp_decode_piece (K : PySem.W.Frag) : Sp := SpOf (fun ((a, _) : Addr × List Int) => [.ref a]) fun (a, bs) H Q => SqL K H a (bs.map V.int) ∧ bs.length = 32 ∧ RetDec (decI bs) H Q
set_option maxHeartbeats 4000000 in
theorem ok_decode_piece (T : Txt K mg) : DefOk P w K mg base "decode_piece" 2 ["block"] (sp_decode_piece K) := by
  have G__are_codes := ok__are_codes (P := P) (w := w) (base := base) T
  have G__sign := ok__sign (P := P) (w := w) (base := base) T
  refine DefOk.mk' T.d_decode_piece sc_decode_piece (fun _ _ _ _ _ _ us hl => match us, hl with | [_], _ => rfl) (fun _ => rfl) (fun cdv f A outer s H p Q E hr h => ?_)
  obtain ⟨a, bs⟩ := p
  obtain ⟨hS, hl, k⟩ := h
  refine ⟨_, (pss_cons (ps_if (PW.pt (pw_or (pt_cmpR op_ne (pe_ix (ix_listK (K := K)) (pv 0) pe_int (fun _ _ => rfl)) (pe_coI T.c_RECORD rfl) (nomark _)) (pw_or1 (pt_cmpR op_ne (pe_ix (ix_listK (K := K)) (pv 0) pe_int (fun _ _ => rfl)) (pe_coI T.c_RECORD rfl) (nomark _)))))
    (pss_one (ps_ret pe_non))
    pss_nil)
    (pss_cons (ps_asg (pe_slice (sl_listK (K := K)) (pv 0) (po_some pe_int) (po_some pe_int)) (gunlK (K := K) (pg_unl rfl (pgs_cons (pg_name (i := 1) sc_decode_piece.nd rfl (.inl rfl)) (pgs_cons (pg_name (i := 2) sc_decode_piece.nd rfl (.inl rfl)) (pgs_cons (pg_name (i := 3) sc_decode_piece.nd rfl (.inl rfl)) (pgs_cons (pg_name (i := 4) sc_decode_piece.nd rfl (.inl rfl)) (pgs_cons (pg_name (i := 5) sc_decode_piece.nd rfl (.inl rfl)) pgs_nil))))))))
    (pss_cons (ps_if (PW.pt (pw_or (pt_cmpR op_ge (pv 1) (pv 2) (nomark _)) (pw_or (pt_not (pt_chain op_le op_le pe_int (pv 5) (pe_coI T.c_PIECE rfl))) (pw_or1 (pt_val (pe_callB (cr_anyIK (K := K) rfl) (by rfl) T.n_any (by decide +kernel) (pa_cons (pe_slice (sl_listK (K := K)) (pv 0) (po_some (pe_op op_add pe_int (pv 5))) (po_some pe_int)) pa_nil)))))))
    (pss_one (ps_ret pe_non))
    pss_nil)
    (pss_cons (ps_set (i := 6) sc_decode_piece.nd rfl (.inl rfl) (pe_slice (sl_listK (K := K)) (pv 0) (po_some pe_int) (po_some (pe_op op_add pe_int (pv 5)))))
    (pss_cons (ps_if (pt_not (pt_val (pe_callD G__are_codes (hr.mono (by decide)) rfl (pa_cons (pv 6) pa_nil))))
    (pss_one (ps_ret pe_non))
    pss_nil)
    (pss_one (ps_ret (pe_tup (pa_cons (pv 1) (pa_cons (pv 2) (pa_cons (pe_op op_add (pe_op op_mul (pv 3) pe_int) (pv 4)) (pa_cons (joinK (K := K) (pe_join pe_str (pe_lc (own := [("code", 7)]) (g := gName 7) (tt := tYes) rfl sc_decode_piece.nd (ilistK (K := K) (pi_list (pv 6))) (blkOk_by (own := [("code", 7)]) (N := N_decode_piece) (sc := defScope s_decode_piece) (by decide +kernel)) (fun _ _ _ _ _ => pg_name (i := 7) sc_decode_piece.nd rfl (.inl rfl)) (fun _ _ _ _ _ => pts_nil) (fun _ _ _ _ _ => (pe_callD G__sign (hr.mono (by decide)) rfl (pa_cons (pv 7) pa_nil)))))) pa_nil)))))))))))), ?_⟩
  have at_ : ∀ (i : Int) (j : Nat), i = (j : Int) → j < 32 → atI (bs.map V.int) i = some (.int (bs.getD j 0)) := fun i j e h => atI_int e (by omega)
  have non : decI bs = none → ∀ H', Same H H' → Q .non H' := fun e => by
    rw [e] at k
    exact k
  refine ⟨_, rfl, a, _, 0, _, rfl, rfl, hS, at_ 0 0 rfl (by decide), rfl, _, rfl, ite2 (fun h => ?_) (fun h => ?_)⟩
  · refine non ?_ _ (Same.refl _)
    rw [decI, if_pos (.inl fun e => nd_of h (by rw [e]))]
  have e0 : bs.getD 0 0 = 75 := V.int.inj (d_of h)
  refine ⟨_, rfl, a, _, 31, _, rfl, rfl, hS, at_ 31 31 rfl (by decide), rfl, _, rfl, ite2 (fun h => ?_) (fun h => ?_)⟩
  · refine non ?_ _ (Same.refl _)
    rw [decI, if_pos (.inr fun e => nd_of h (by rw [e]))]
  have e31 : bs.getD 31 0 = 75 := V.int.inj (d_of h)
  have e5 : cutV (bs.map V.int) (some 1) (some 6) = [.int (bs.getD 1 0), .int (bs.getD 2 0), .int (bs.getD 3 0), .int (bs.getD 4 0), .int (bs.getD 5 0)] := by
    rw [cutV_of (lo := 1) (hi := 6) (a := 1) (b := 6) rfl rfl (by decide) (by rw [List.length_map]; omega)]
    match bs, hl with
    | _ :: _ :: _ :: _ :: _ :: _ :: _, _ => rfl
  refine ⟨_, rfl, _, rfl, _, rfl, a, _, rfl, hS, fun p1 h1 => ⟨p1, _, rfl, SqL.of (upd_same.trans (congrArg (fun q => some (HO.lst q)) e5)), rfl, _, _, rfl, _, _, rfl, _, _, rfl, _, _, rfl, _, _, rfl, rfl, ?_⟩⟩
  have hS1 := nwq (u := .lst (cutV (bs.map V.int) (some 1) (some 6))) h1 hS
  have s1 := nws (u := .lst (cutV (bs.map V.int) (some 1) (some 6))) h1 (Same.refl H)
  have body : ∀ c, (bs.getD 1 0 ≥ bs.getD 2 0 ∨ ¬ (1 ≤ bs.getD 5 0 ∧ bs.getD 5 0 ≤ 24) ∨ c = true) → c = ((bs.drop (6 + (bs.getD 5 0).toNat)).take (25 - (bs.getD 5 0).toNat)).any (· != 0) → ∀ H', Same H H' → Q .non H' := fun c h e => non (by
    rw [decI, if_neg (by rw [e0, e31]; decide), if_pos (by rw [← e]; exact h)])
  refine ⟨_, rfl, _, rfl, _, _, rfl, rfl, _, rfl, ite2 (fun h => ?_) (fun h => ?_)⟩
  · exact body _ (.inl (of_decide_eq_true h)) rfl _ s1
  have g1 : ¬ bs.getD 1 0 ≥ bs.getD 2 0 := fun e => h (decide_eq_true e)
  refine ⟨_, rfl, _, _, rfl, rfl, _, rfl, ite2 (fun h => ?_) (fun h => ?_)⟩
  rotate_left
  · refine ⟨_, rfl, ?_⟩
    exact body _ (.inr (.inl fun e => h (decide_eq_true e.1))) rfl _ s1
  have g2 : 1 ≤ bs.getD 5 0 := of_decide_eq_true h
  refine ⟨_, _, rfl, rfl, _, rfl, ite2 (fun h => ?_) (fun h => ?_)⟩
  · exact body _ (.inr (.inl fun e => nd_of h e.2)) rfl _ s1
  have g3 : bs.getD 5 0 ≤ 24 := d_of h
  obtain ⟨c, ec⟩ : ∃ c : Nat, bs.getD 5 0 = (c : Int) := ⟨(bs.getD 5 0).toNat, by omega⟩
  have ec' : (bs.getD 5 0).toNat = c := by omega
  have e6 : cutV (bs.map V.int) (some (6 + bs.getD 5 0)) (some 31) = ((bs.drop (6 + c)).take (25 - c)).map V.int := by
    rw [cutV_of (lo := 6 + bs.getD 5 0) (hi := 31) (a := 6 + c) (b := 31) (by omega) rfl (by omega) (by rw [List.length_map]; omega), ← List.map_drop, ← List.map_take, show 31 - (6 + c) = 25 - c by omega]
  refine ⟨_, rfl, _, rfl, _, _, rfl, rfl, _, rfl, _, rfl, a, _, rfl, hS1, fun p2 h2 => ⟨p2, _, rfl, SqL.of (upd_same.trans (congrArg (fun q => some (HO.lst q)) e6)), _, rfl, ite2 (fun h => ?_) (fun h => ?_)⟩⟩
  · exact body _ (.inr (.inr h)) (by rw [ec']) _ (nws h2 s1)
  have g4 : ¬ ((bs.drop (6 + (bs.getD 5 0).toNat)).take (25 - (bs.getD 5 0).toNat)).any (· != 0) = true := by rw [ec']; exact h
  have s2 := nws (u := .lst (cutV (bs.map V.int) (some (6 + bs.getD 5 0)) (some 31))) h2 s1
  have hS2 := nwq (u := .lst (cutV (bs.map V.int) (some (6 + bs.getD 5 0)) (some 31))) h2 hS1
  have e7 : cutV (bs.map V.int) (some 6) (some (6 + bs.getD 5 0)) = ((bs.drop 6).take c).map V.int := by
    rw [cutV_of (lo := 6) (hi := 6 + bs.getD 5 0) (a := 6) (b := 6 + c) rfl (by omega) (by omega) (by rw [List.length_map]; omega), ← List.map_drop, ← List.map_take, show 6 + c - 6 = c by omega]
  refine ⟨_, rfl, _, rfl, _, rfl, _, _, rfl, rfl, _, rfl, a, _, rfl, hS2, fun p3 h3 => ?_⟩
  have s3 := nws (u := .lst (cutV (bs.map V.int) (some 6) (some (6 + bs.getD 5 0)))) h3 s2
  refine ⟨_, rfl, (p3, (bs.drop 6).take c), rfl, SqL.of (upd_same.trans (congrArg (fun q => some (HO.lst q)) e7)), _, rfl, ite2 (fun h => ?_) (fun h => ?_)⟩
  · refine non ?_ _ s3
    have h : ¬ ((bs.drop 6).take c).all okC = true := by simpa using h
    rw [decI, if_neg (by rw [e0, e31]; decide), if_neg (by
      rintro (e | e | e)
      · exact g1 e
      · exact e ⟨g2, g3⟩
      · exact g4 e), ec', if_neg h]
  have g5 : ((bs.drop 6).take c).all okC = true := by simpa using h
  have ed : decI bs = some (bs.getD 1 0, bs.getD 2 0, bs.getD 3 0 * 256 + bs.getD 4 0, ⟨(((bs.drop 6).take c).map Int.toNat).toArray⟩) := by
    rw [decI, if_neg (by rw [e0, e31]; decide), if_neg (by
      rintro (e | e | e)
      · exact g1 e
      · exact e ⟨g2, g3⟩
      · exact g4 e), ec', if_pos g5]
  rw [ed] at k
  have k : ∀ (l : Addr) (H' : Hp), Same H H' → H l = none → H' l = some (.tup [.int (bs.getD 1 0), .int (bs.getD 2 0), .int (bs.getD 3 0 * 256 + bs.getD 4 0), .str ⟨(((bs.drop 6).take c).map Int.toNat).toArray⟩]) → Q (.ref l) H' := k
  have c3 : upd _ p3 (HO.lst (cutV (bs.map V.int) (some 6) (some (6 + bs.getD 5 0)))) p3 = some (HO.lst (((bs.drop 6).take c).map V.int)) := (upd_same (H := upd (upd H p1 (.lst (cutV (bs.map V.int) (some 1) (some 6)))) p2 (.lst (cutV (bs.map V.int) (some (6 + bs.getD 5 0)) (some 31))))).trans (congrArg (fun q => some (HO.lst q)) e7)
  generalize hcs : (bs.drop 6).take c = cs at k c3 g5
  have hcl : cs.length ≤ 24 := by rw [← hcs, List.length_take]; omega
  refine ⟨_, rfl, _, rfl, _, rfl, _, _, rfl, rfl, .inr ⟨by decide, by decide⟩, _, rfl, _, _, rfl, rfl, ?_⟩
  refine ⟨⟨_, rfl⟩, _, rfl, p3, rfl, ⟨_, SqL.of c3⟩, fun D hD => lc_list (xs := cs.map V.int) (fun i H' => H' = upd _ D (.lst ((cs.take i).map fun c => V.str ⟨#[c.toNat]⟩))) rfl (fun i H' _ e => by rw [e]; exact nwq hD (SqL.of c3)) ?_ ?_⟩
  · rintro i x H' hx rfl
    have hi : i < cs.length := by
      have := (List.getElem?_eq_some_iff.mp hx).1
      rwa [List.length_map] at this
    have ex : x = .int cs[i] := by
      rw [List.getElem?_map, List.getElem?_eq_getElem hi] at hx
      exact (Option.some.inj hx).symm
    subst ex
    refine ⟨rfl, _, rfl, cs[i], rfl, List.all_eq_true.mp g5 _ (List.getElem_mem hi), _, upd_same, ?_, ?_⟩
    · rw [List.length_map, List.length_take]
      exact small1000 (by omega)
    · rw [take_snoc (List.getElem?_eq_getElem hi), upd_upd, List.map_append]
      rfl
  · rintro _ rfl
    rw [List.length_map, List.take_length]
    refine ⟨"", D, cs.map fun c => ⟨#[c.toNat]⟩, rfl, rfl, .inl (SqL.of (upd_same.trans (by rw [List.map_map]; rfl))), ?_, (by show 4 ≤ sizeLine; decide), fun l hl' => ?_⟩
    · have h1 : ∀ l : List Int, ((l.map fun c => (⟨#[c.toNat]⟩ : Str)).map (·.length)).sum = l.length := fun l => by
        induction l with
        | nil => rfl
        | cons a l ih => rw [List.map_cons, List.map_cons, List.sum_cons, ih, List.length_cons, Nat.add_comm]; rfl
      rw [h1, List.length_map, show Str.length "" = 0 from rfl]
      omega
    · refine k l _ (nws hl' (nws hD s3)) ((nws hD s3).free hl') (upd_same.trans ?_)
      rw [join_signs "" rfl]

end
section
open PySem PySem.Spec PyProof.Rows L2
variable {P : Program} {w : World} {K : PySem.W.Frag} {mg : Str → Option Value} {base : Heap}
/-! ### lists of rows -/
theorem rows_dp {K : PySem.W.Frag} {H : Hp} {l : Addr} {rows : List (List Int)} (R : RowsAt K H l rows) : Dp K H (.ref l) (.list (rows.map fun r => .list (r.map .int))) := by
  obtain ⟨as, h, hl, hr⟩ := R
  refine .lst (SqL.of h) (dpAll_refs (by rw [hl, List.length_map]) fun i a d ha hd => ?_)
  rw [List.getElem?_map] at hd
  cases e : rows[i]? with
  | none => rw [e] at hd; cases hd
  | some r =>
    rw [e] at hd
    cases Option.some.inj hd
    exact dp_ints (SqL.of (hr i a r ha e))
theorem rows_sh (rows : List (List Int)) : Sh 2 (.list (rows.map fun r => .list (r.map .int))) := sh_list fun d hd => by
  obtain ⟨r, _, rfl⟩ := List.mem_map.mp hd
  exact sh_ints r
theorem RowsAt.mono {K : PySem.W.Frag} {H H' : Hp} {l : Addr} {rows : List (List Int)} (R : RowsAt K H l rows) (s : Same H H') : RowsAt K H' l rows := by
  obtain ⟨as, h, hl, hr⟩ := R
  exact ⟨as, s _ _ h, hl, fun i a r ha he => s _ _ (hr i a r ha he)⟩
theorem BoxAt.mono {K : PySem.W.Frag} {H H' : Hp} {b : Addr} (B : BoxAt K H b) (s : Same H H') : BoxAt K H' b := B.fr (Fr.of s)
theorem piece_len (k m n : Int) (cs : List Int) (h : cs.length ≤ 24) : (pieceI k m n cs).length = 32 := by
  unfold pieceI
  simp only [List.length_append, List.length_cons, List.length_nil, List.length_replicate]
  omega
/-- a list of ints is written: the box stays one -/
theorem box_ints {K : PySem.W.Frag} {H : Hp} {b a : Addr} (B : BoxAt K H b) (ns : List Int) (h : a ≠ b) : BoxAt K (upd H a (.lst (ns.map V.int))) b := by
  obtain ⟨l, ds, z, g1, g2, g3, g4⟩ := B
  by_cases e : l = a
  · subst e
    exact ⟨l, ns, z, by rw [upd_ne h.symm]; exact g1, SqL.of upd_same, g3, g4⟩
  · exact ⟨l, ds, z, by rw [upd_ne h.symm]; exact g1, seq_fr (W := [a]) (Fr.upd List.mem_cons_self) (by simp [e]) g2, g3, g4⟩

/-! ### the law's own pieces and signs -/
def sp__law_pieces (K : PySem.W.Frag) : Sp := SpOf (fun ((n, z) : Int × Str) => [.int n, .str z]) fun (n, z) H Q =>
  z.length ≤ 1000 ∧ 0 ≤ n ∧ ∀ (l : Addr) (H' : Hp), Same H H' → H l = none → RowsAt K H' l (blocksI n z) → Q (.ref l) H'
set_option maxHeartbeats 4000000 in
theorem ok__law_pieces (T : Txt K mg) : DefOk P w K mg base "_law_pieces" 1 ["_law_number", "_law_text"] (sp__law_pieces K) := by
  refine DefOk.mk' T.d__law_pieces sc__law_pieces (fun _ _ _ _ _ _ us hl => match us, hl with | [_, _], _ => rfl) (fun _ => rfl) (fun cdv f A outer s H p Q E hr h => ?_)
  obtain ⟨n, z⟩ := p
  obtain ⟨hz, hn, k⟩ := h
  refine ⟨_, (pss_cons (ps_set (i := 2) sc__law_pieces.nd rfl (.inl rfl) (pe_lst pa_nil))
    (pss_cons (ps_set (i := 3) sc__law_pieces.nd rfl (.inl rfl) (pe_op op_fdivN (pe_op op_add (pe_callB call_len_str (by rfl) T.n_len (by decide +kernel) (pa_cons (pv 1) pa_nil)) pe_int) pe_int))
    (pss_cons (ps_for PassesOwn.never rfl (pi_range1 rfl T.n_range (pa_cons (pv 3) pa_nil)) (pg_name (i := 4) sc__law_pieces.nd rfl (.inl rfl))
    (pss_cons (ps_set (i := 5) sc__law_pieces.nd rfl (.inl rfl) (pe_slice sl_str (pv 1) (po_some (pe_op op_mul pe_int (pv 4))) (po_some (pe_op op_add (pe_op op_mul pe_int (pv 4)) pe_int))))
    (pss_cons (ps_set (i := 6) sc__law_pieces.nd rfl (.inl rfl) (pe_lst (pa_cons pe_int (pa_cons (pv 4) (pa_cons (pv 3) (pa_cons (pe_op op_fdivN (pv 0) pe_int) (pa_cons (pe_op op_modN (pe_callTy call_int1 (by rfl) T.n_int (by decide +kernel) (pa_cons (pv 0) pa_nil)) pe_int) (pa_cons (pe_callB call_len_str (by rfl) T.n_len (by decide +kernel) (pa_cons (pv 5) pa_nil)) pa_nil))))))))
    (pss_cons (ps_for PassesOwn.never rfl (pi_str (pv 5)) (pg_name (i := 7) sc__law_pieces.nd rfl (.inl rfl))
    (pss_one (ps_expr (bmK (K := K) (pe_bm PySem.F.plainAttrs_list PySem.F.slot_list_append PySem.F.type_list_append mt_append (pv 6) (pa_cons (pe_callB call_ord (by rfl) T.n_ord (by decide +kernel) (pa_cons (pv 7) pa_nil)) pa_nil))))))
    (pss_one (ps_expr (bmK (K := K) (pe_bm PySem.F.plainAttrs_list PySem.F.slot_list_append PySem.F.type_list_append mt_append (pv 2) (pa_cons (pe_op op_cat (pe_op op_cat (pv 6) (pe_op op_rep (pe_lst (pa_cons pe_int pa_nil)) (pe_op op_sub pe_int (pe_callB (call_lenK (K := K)) (by rfl) T.n_len (by decide +kernel) (pa_cons (pv 6) pa_nil))))) (pe_lst (pa_cons pe_int pa_nil))) pa_nil)))))))))
    (pss_one (ps_ret (pv 2)))))), ?_⟩
  have hz' : z.length ≤ sizeLine := Nat.le_of_lt (small1000 hz)
  have em : ((z.length : Int) + 23).fdiv 24 = (manyS z : Int) := by
    rw [Int.fdiv_eq_ediv_of_nonneg _ (by decide)]
    unfold manyS
    omega
  refine ⟨Nat.zero_le _, fun L hL => ?_⟩
  refine ⟨_, rfl, z, rfl, hz', _, _, rfl, rfl, _, _, rfl, rfl, ⟨by decide, by decide⟩, ?_⟩
  refine ⟨_, rfl, _, rfl, by rw [em]; omega, by rw [em]; unfold manyS; omega, ?_⟩
  rw [em, Int.toNat_natCast]
  refine for_range (lo := 0) (n := manyS z) (fun i σ H' => ∃ (as : List Addr) (v4 v5 v6 v7 : Option V), σ = [some (.int n), some (.str z), some (.ref L), some (.int (manyS z : Nat)), v4, v5, v6, v7] ∧ Same H H' ∧ H' L = some (.lst (as.map V.ref)) ∧ as.length = i ∧
      ∀ (j : Nat) a, as[j]? = some a → a ≠ L ∧ H' a = some (.lst ((pieceI j (manyS z) n (ic (chunkS z j))).map V.int)))
    ⟨[], none, none, none, none, rfl, nws hL (Same.refl H), upd_same, rfl, fun j a h => by simp at h⟩ ?_ ?_
  · rintro i σ H1 hi ⟨as, v4, v5, v6, v7, rfl, s1, hA, hl, hrow⟩
    have hi1 : i ≤ 42 := by unfold manyS at hi; omega
    refine ⟨_, rfl, _, rfl, _, _, rfl, rfl, .inl ⟨by decide, by decide⟩, _, rfl, _, rfl, _, _, rfl, rfl, .inl ⟨by decide, by decide⟩, _, _, rfl, rfl, _, rfl, z, rfl, hz', ?_⟩
    rw [cut_chunk z i _ _ (by omega) (by omega)]
    have hc := chunk_len z i
    refine ⟨_, rfl, _, rfl, _, rfl, _, _, rfl, rfl, ⟨by decide, by decide⟩, _, rfl, .inl ⟨_, rfl, _, _, rfl, rfl, (by show (256 : Int) ≠ 0; decide), ?_⟩⟩
    refine ⟨_, rfl, _, rfl, Nat.le_trans hc (by decide), (by show 6 ≤ sizeLine; decide), fun B hB => ?_⟩
    have e1 : n.fdiv 256 = n / 256 := Int.fdiv_eq_ediv_of_nonneg _ (by decide)
    have e2 : n.fmod 256 = n % 256 := Int.fmod_eq_emod_of_nonneg _ (by decide)
    have eB : ([V.int 75, V.int (0 + (i : Int)), V.int (manyS z : Nat), V.int (n.fdiv 256), V.int (n.fmod 256), V.int ((chunkS z i).length : Nat)] : List V) = (([75, (i : Int), (manyS z : Int), n / 256, n % 256, ((ic (chunkS z i)).length : Int)] ++ (ic (chunkS z i)).take 0).map V.int) := by
      rw [e1, e2, ic_len, Int.zero_add]
      rfl
    refine ⟨_, rfl, chunkS z i, rfl, for_it (walk_str (z := chunkS z i)) (fun j σ H' => ∃ v7, σ = [some (.int n), some (.str z), some (.ref L), some (.int (manyS z : Nat)), some (.int (0 + (i : Int))), some (.str (chunkS z i)), some (.ref B), v7] ∧
        H' = upd H1 B (.lst (([75, (i : Int), (manyS z : Int), n / 256, n % 256, ((ic (chunkS z i)).length : Int)] ++ (ic (chunkS z i)).take j).map V.int)))
      ⟨v7, rfl, by rw [← eB]⟩ (fun _ _ _ _ _ => trivial) ?_ ?_⟩
    · rintro j x σ H2 H3 hj ⟨v7, rfl, rfl⟩ ⟨rfl, c, hcc, rfl⟩
      refine ⟨_, rfl, .inl ⟨rfl, _, SqL.of upd_same⟩, _, rfl, ⟨#[c]⟩, rfl, rfl, B, _, _, rfl, rfl, upd_same, ?_, some (.str ⟨#[c]⟩), rfl, ?_⟩
      · rw [List.length_map]
        simp only [List.length_append, List.length_cons, List.length_nil, List.length_take]
        have := Nat.min_le_right j (ic (chunkS z i)).length
        rw [ic_len] at this
        exact small1000 (by rw [ic_len]; omega)
      · rw [take_snoc (ic_at hcc), upd_upd, ← List.append_assoc, List.map_append (l₂ := [(c : Int)])]
        rfl
    · rintro σ H2 ⟨v7, rfl, rfl⟩
      have et : (ic (chunkS z i)).take (chunkS z i).cps.size = ic (chunkS z i) := List.take_of_length_le (by rw [ic_len]; exact Nat.le_refl _)
      rw [et]
      generalize hb : ([75, (i : Int), (manyS z : Int), n / 256, n % 256, ((ic (chunkS z i)).length : Int)] ++ ic (chunkS z i)) = bl
      have hbl : bl.length = 6 + (chunkS z i).length := by rw [← hb, List.length_append, ic_len]; rfl
      have nBL : L ≠ B := ne_of_none hA hB
      have cB : upd H1 B (.lst (bl.map V.int)) B = some (.lst (bl.map V.int)) := upd_same
      refine ⟨_, rfl, .inl ⟨rfl, _, SqL.of (nw hB hA)⟩, ?_⟩
      refine ⟨_, rfl, (by show 1 ≤ sizeLine; decide), fun p1 h1 => ?_⟩
      refine ⟨_, rfl, B, _, rfl, .inl (SqL.of (nw h1 cB)), _, _, rfl, rfl, ?_⟩
      have e31 : (31 - ((bl.map V.int).length : Int)).toNat = 25 - (ic (chunkS z i)).length := by rw [List.length_map, hbl, ic_len]; omega
      refine ⟨p1, _, _, rfl, rfl, upd_same, by rw [List.length_map, hbl]; omega, by rw [List.length_map, hbl]; omega, ?_, fun p2 h2 => ?_⟩
      · rw [e31]
        exact Nat.le_of_lt (small1000 (by show 1 * _ ≤ _; omega))
      have e3 : (List.replicate (31 - ((bl.map V.int).length : Int)).toNat [V.int 0]).flatten = List.replicate (25 - (ic (chunkS z i)).length) (V.int 0) := by rw [e31, rep_flat]
      refine ⟨B, p2, _, List.replicate (25 - (ic (chunkS z i)).length) (V.int 0), rfl, rfl, nw h2 (nw h1 cB), upd_same.trans (congrArg (fun q => some (HO.lst q)) e3), ?_, fun p3 h3 => ?_⟩
      · rw [List.length_map, List.length_replicate, hbl]
        exact Nat.le_of_lt (small1000 (by omega))
      refine ⟨(by show 1 ≤ sizeLine; decide), fun p4 h4 => ?_⟩
      refine ⟨p3, p4, _, _, rfl, rfl, nw h4 upd_same, upd_same, ?_, fun p5 h5 => ?_⟩
      · simp only [List.length_append, List.length_map, List.length_replicate, List.length_cons, List.length_nil]
        exact Nat.le_of_lt (small1000 (by omega))
      have cL := nw (u := .lst ((bl.map V.int ++ List.replicate (25 - (ic (chunkS z i)).length) (V.int 0)) ++ [V.int 75])) h5 (nw (u := .lst [V.int 75]) h4 (nw (u := .lst (bl.map V.int ++ List.replicate (25 - (ic (chunkS z i)).length) (V.int 0))) h3 (nw (u := .lst (List.replicate (31 - ((bl.map V.int).length : Int)).toNat [V.int 0]).flatten) h2 (nw (u := .lst [V.int 0]) h1 (nw (u := .lst (bl.map V.int)) hB hA)))))
      refine ⟨L, _, _, rfl, rfl, cL, ?_, as ++ [p5], _, _, _, _, rfl, ?_, by rw [upd_same, List.map_append]; rfl, by rw [List.length_append, hl]; rfl, ?_⟩
      · rw [List.length_map, hl]
        exact small1000 (by omega)
      · refine same_mut ?_ hL
        exact nws h5 (nws h4 (nws h3 (nws h2 (nws h1 (nws hB s1)))))
      · intro j a h
        by_cases hj : j < as.length
        · rw [List.getElem?_append_left hj] at h
          obtain ⟨n1, n2⟩ := hrow j a h
          exact ⟨n1, by rw [upd_ne n1]; exact nw h5 (nw h4 (nw h3 (nw h2 (nw h1 (nw hB n2)))))⟩
        · have hj2 : j = i := by
            have h3 := (List.getElem?_eq_some_iff.mp h).1
            rw [List.length_append] at h3
            have h4 : j < as.length + 1 := h3
            omega
          subst hj2
          rw [← hl, List.getElem?_append_right (Nat.le_refl _), Nat.sub_self] at h
          cases Option.some.inj h
          have n5 : p5 ≠ L := fun e => by rw [e] at h5; rw [nw h4 (nw h3 (nw h2 (nw h1 (nw hB hA))))] at h5; cases h5
          refine ⟨n5, ?_⟩
          rw [upd_ne n5, upd_same, pieceI, ← hb]
          simp only [List.map_append, List.map_replicate, hl]
          rfl
  · rintro σ H' ⟨as, v4, v5, v6, v7, rfl, s1, hA, hl, hrow⟩
    refine ⟨_, rfl, k L H' s1 hL ⟨as, hA, ?_, fun i a r h1 h2 => ?_⟩⟩
    · rw [hl, blocksI, List.length_map, List.length_range]
    · have hi : i < manyS z := by
        have := (List.getElem?_eq_some_iff.mp h1).1
        omega
      rw [blocksI, List.getElem?_map, List.getElem?_range hi] at h2
      cases Option.some.inj h2
      exact (hrow i a h1).2
def codesOk (z : Str) : Prop := ∀ c ∈ z.cps.toList, okC (c : Int) = true
def sp__law_signs (K : PySem.W.Frag) : Sp := SpOf (fun ((b, m) : Addr × Int) => [.ref b, .int m]) fun (b, m) H Q =>
  BoxAt K H b ∧ 1 ≤ m ∧ m ≤ 1000 ∧ ∀ (z : Str) (H' : Hp), BoxAt K H' b → Fr [b] H H' → (z.length : Int) = m → codesOk z → Q (.str z) H'
theorem sign_at (r : Int) (h0 : 0 ≤ r) (h1 : r < 94) : ∃ c : Nat, atI cs_SIGNS.cps.toList r = some c ∧ okC (c : Int) = true := by
  have e := signs_at r.toNat (by omega)
  have e2 := atI_nat e
  rw [show ((r.toNat : Nat) : Int) = r by omega] at e2
  refine ⟨_, e2, ?_⟩
  simp only [okC, Bool.and_eq_true, decide_eq_true_eq, Bool.not_eq_true', decide_eq_false_iff_not]
  split <;> omega
theorem signs_len : cs_SIGNS.length = 94 := by decide +kernel
theorem str_snoc (z : Str) (c : Nat) : (z ++ (⟨#[c]⟩ : Str)).cps.toList = z.cps.toList ++ [c] := by
  show (z.cps ++ #[c]).toList = _
  simp
set_option maxHeartbeats 4000000 in
theorem ok__law_signs (T : Txt K mg) : DefOk P w K mg base "_law_signs" 2 ["_law_box", "_law_many"] (sp__law_signs K) := by
  have G__law_draw := ok__law_draw (P := P) (w := w) (base := base) T
  refine DefOk.mk' T.d__law_signs sc__law_signs (fun _ _ _ _ _ _ us hl => match us, hl with | [_, _], _ => rfl) (fun _ => rfl) (fun cdv f A outer s H p Q E hr h => ?_)
  obtain ⟨b, m⟩ := p
  obtain ⟨B, h1, h2, k⟩ := h
  refine ⟨_, (pss_cons (ps_set (i := 2) sc__law_signs.nd rfl (.inl rfl) pe_str)
    (pss_cons (ps_if (pt_cmpR op_eq (pe_callD G__law_draw (hr.mono (by decide)) rfl (pa_cons (pv 0) (pa_cons pe_int pa_nil))) pe_int (nomark _))
    (pss_one (ps_ret (pe_op op_mul_sign (pe_ix ix_str (pv 2) (pe_callD G__law_draw (hr.mono (by decide)) rfl (pa_cons (pv 0) (pa_cons (pe_callB call_len_str (by rfl) T.n_len (by decide +kernel) (pa_cons (pv 2) pa_nil)) pa_nil))) (fun _ _ => rfl)) (pv 1))))
    pss_nil)
    (pss_cons (ps_set (i := 3) sc__law_signs.nd rfl (.inl rfl) pe_str)
    (pss_cons (ps_for PassesOwn.never rfl (pi_range1 rfl T.n_range (pa_cons (pv 1) pa_nil)) (pg_name (i := 4) sc__law_signs.nd rfl (.inl rfl))
    (pss_one (ps_set (i := 3) sc__law_signs.nd rfl (.inl rfl) (pe_op op_add_str (pv 3) (pe_ix ix_str (pv 2) (pe_callD G__law_draw (hr.mono (by decide)) rfl (pa_cons (pv 0) (pa_cons (pe_callB call_len_str (by rfl) T.n_len (by decide +kernel) (pa_cons (pv 2) pa_nil)) pa_nil))) (fun _ _ => rfl))))))
    (pss_one (ps_ret (pv 3))))))), ?_⟩
  have hl : cs_SIGNS.length ≤ sizeLine := by rw [signs_len]; decide
  refine ⟨_, rfl, (b, 4), rfl, B, by decide, fun r H1 r0 r1 B1 f1 => ?_⟩
  refine ⟨rfl, _, rfl, ite2 (fun _ => ?_) (fun _ => ?_)⟩
  · refine ⟨_, rfl, _, rfl, _, rfl, cs_SIGNS, rfl, hl, ?_⟩
    rw [signs_len]
    refine ⟨(b, 94), rfl, B1, by decide, fun r H2 r0 r1 B2 f2 => ?_⟩
    obtain ⟨c, e, hc⟩ := sign_at r r0 r1
    refine ⟨cs_SIGNS, r, c, rfl, rfl, hl, e, _, rfl, c, m, rfl, rfl, h1, h2, k _ _ B2 (f1.trans f2) ?_ ?_⟩
    · show (((List.replicate m.toNat c).toArray.size : Nat) : Int) = m
      rw [List.size_toArray, List.length_replicate]
      omega
    · intro c' h'
      rw [List.toList_toArray] at h'
      rw [(List.mem_replicate.mp h').2]
      exact hc
  · refine ⟨_, rfl, m, rfl, by omega, by omega, for_range (lo := 0) (n := m.toNat) (fun i σ H' => ∃ (z : Str) (v4 : Option V), σ = [some (.ref b), some (.int m), some (.str cs_SIGNS), some (.str z), v4] ∧ BoxAt K H' b ∧ Fr [b] H H' ∧ z.length = i ∧ codesOk z)
      ⟨"", none, rfl, B1, f1, rfl, fun c hc => by cases hc⟩ ?_ ?_⟩
    · rintro i σ H2 hi ⟨z, v4, rfl, B2, f2, hz, hc⟩
      refine ⟨_, rfl, _, rfl, _, rfl, _, rfl, cs_SIGNS, rfl, hl, ?_⟩
      rw [signs_len]
      refine ⟨(b, 94), rfl, B2, by decide, fun r H3 r0 r1 B3 f3 => ?_⟩
      obtain ⟨c, e, hcc⟩ := sign_at r r0 r1
      refine ⟨cs_SIGNS, r, c, rfl, rfl, hl, e, z, ⟨#[c]⟩, rfl, rfl, ?_, z ++ ⟨#[c]⟩, _, rfl, B3, f2.trans f3, ?_, ?_⟩
      · rw [hz]
        exact Nat.le_of_lt (small1000 (by show i + 1 ≤ 1000; omega))
      · show (z ++ (⟨#[c]⟩ : Str)).cps.size = _
        rw [← Array.length_toList, str_snoc, List.length_append, Array.length_toList]
        show z.length + 1 = i + 1
        rw [hz]
      · intro c' h'
        rw [str_snoc] at h'
        rcases List.mem_append.mp h' with h' | h'
        · exact hc c' h'
        · rw [List.mem_singleton.mp h']
          exact hcc
    · rintro σ H2 ⟨z, v4, rfl, B2, f2, hz, hc⟩
      exact ⟨_, rfl, k z H2 B2 f2 (by omega) hc⟩

end
section
open PySem PySem.Spec PyProof.Rows L2
variable {P : Program} {w : World} {K : PySem.W.Frag} {mg : Str → Option Value} {base : Heap}
def dataDec (r : Option (Int × Int × Int × Str)) : PyData := match r with
  | none => .none
  | some (k, m, n, z) => .tuple [.int k, .int m, .int n, .str z]
def sp__law_due_piece (K : PySem.W.Frag) : Sp := SpOf (fun ((a, _) : Addr × List Int) => [.ref a]) fun (a, bs) H Q => SqL K H a (bs.map V.int) ∧ bs.length = 32 ∧ (∀ x ∈ bs, (0 : Int) ≤ x) ∧ RetDec (decI bs) H Q
theorem signs2_at : ∀ j : Nat, j < 95 → (" !\"#$?&'()*+,-./0123456789:;<=>?@ABCDEFGHIJKLMNOPQRSTUVWXYZ[\\]^_`abcdefghijklmnopqrstuvwxyz{|}~" : Str).cps.toList[j]? = some (if j = 5 then 63 else j + 32) := by decide +kernel
theorem signs2_len : (" !\"#$?&'()*+,-./0123456789:;<=>?@ABCDEFGHIJKLMNOPQRSTUVWXYZ[\\]^_`abcdefghijklmnopqrstuvwxyz{|}~" : Str).length = 95 := by decide +kernel
theorem any_filter : ∀ rs : List Int, rs.any (· != 0) = !(rs.filter (· != 0)).isEmpty
  | [] => rfl
  | x :: r => by
    have ih := any_filter r
    by_cases hx : x = 0
    · rw [hx]
      exact ih
    · simp [hx, List.filter_cons]
set_option maxHeartbeats 4000000 in
theorem ok__law_due_piece (T : Txt K mg) : DefOk P w K mg base "_law_due_piece" 1 ["_law_block"] (sp__law_due_piece K) := by
  refine DefOk.mk' T.d__law_due_piece sc__law_due_piece (fun _ _ _ _ _ _ us hl => match us, hl with | [_], _ => rfl) (fun _ => rfl) (fun cdv f A outer s H p Q E hr h => ?_)
  obtain ⟨a, bs⟩ := p
  obtain ⟨hS, hl, hpos, k⟩ := h
  refine ⟨_, (pss_cons (ps_if (PW.pt (pw_or (pt_cmpR op_ne (pe_ix (ix_listK (K := K)) (pv 0) pe_int (fun _ _ => rfl)) pe_int (nomark _)) (pw_or (pt_cmpR op_ne (pe_ix (ix_listK (K := K)) (pv 0) pe_int (fun _ _ => rfl)) pe_int (nomark _)) (pw_or (pt_cmpR op_ge (pe_ix (ix_listK (K := K)) (pv 0) pe_int (fun _ _ => rfl)) (pe_ix (ix_listK (K := K)) (pv 0) pe_int (fun _ _ => rfl)) (nomark _)) (pw_or (pt_cmpR op_gt (pe_ix (ix_listK (K := K)) (pv 0) pe_int (fun _ _ => rfl)) pe_int (nomark _)) (pw_or1 (pt_cmpR op_eq (pe_ix (ix_listK (K := K)) (pv 0) pe_int (fun _ _ => rfl)) pe_int (nomark _))))))))
    (pss_one (ps_ret pe_non))
    pss_nil)
    (pss_cons (ps_set (i := 1) sc__law_due_piece.nd rfl (.inl rfl) pe_str)
    (pss_cons (ps_set (i := 2) sc__law_due_piece.nd rfl (.inl rfl) pe_str)
    (pss_cons (ps_for PassesOwn.never rfl (ilistK (K := K) (pi_list (pe_slice (sl_listK (K := K)) (pv 0) (po_some pe_int) (po_some (pe_op op_add pe_int (pe_ix (ix_listK (K := K)) (pv 0) pe_int (fun _ _ => rfl))))))) (pg_name (i := 3) sc__law_due_piece.nd rfl (.inl rfl))
    (pss_cons (ps_if (PW.pt (pw_or (pt_cmpR op_eq (pv 3) pe_int (nomark _)) (pw_or (pt_cmpR op_lt (pv 3) pe_int (nomark _)) (pw_or1 (pt_cmpR op_gt (pv 3) pe_int (nomark _))))))
    (pss_one (ps_ret pe_non))
    pss_nil)
    (pss_one (ps_set (i := 2) sc__law_due_piece.nd rfl (.inl rfl) (pe_op op_add_str (pv 2) (pe_ix ix_str (pv 1) (pe_op op_sub (pv 3) pe_int) (fun _ _ => rfl)))))))
    (pss_cons (ps_if (pt_cmpR (op_neK (K := K) hr.units) (pe_lc (own := [("_law_byte", 4)]) (g := gName 4) rfl sc__law_due_piece.nd (ilistK (K := K) (pi_list (pe_slice (sl_listK (K := K)) (pv 0) (po_some (pe_op op_add pe_int (pe_ix (ix_listK (K := K)) (pv 0) pe_int (fun _ _ => rfl)))) (po_some pe_int)))) (blkOk_by (own := [("_law_byte", 4)]) (N := N__law_due_piece) (sc := defScope s__law_due_piece) (by decide +kernel)) (fun _ _ _ _ _ => pg_name (i := 4) sc__law_due_piece.nd rfl (.inl rfl)) (fun _ _ _ _ _ => (pts_one (pt_cmpR op_ne (pv 4) pe_int (nomark _)))) (fun _ _ _ _ _ => (pv 4))) (pe_lst pa_nil) (nomark _))
    (pss_one (ps_ret pe_non))
    pss_nil)
    (pss_one (ps_ret (pe_tup (pa_cons (pe_ix (ix_listK (K := K)) (pv 0) pe_int (fun _ _ => rfl)) (pa_cons (pe_ix (ix_listK (K := K)) (pv 0) pe_int (fun _ _ => rfl)) (pa_cons (pe_op op_add (pe_op op_mul pe_int (pe_ix (ix_listK (K := K)) (pv 0) pe_int (fun _ _ => rfl))) (pe_ix (ix_listK (K := K)) (pv 0) pe_int (fun _ _ => rfl))) (pa_cons (pv 2) pa_nil)))))))))))), ?_⟩
  have at_ : ∀ (i : Int) (j : Nat), i = (j : Int) → j < 32 → atI (bs.map V.int) i = some (.int (bs.getD j 0)) := fun i j e h => atI_int e (by omega)
  have p5 : 0 ≤ bs.getD 5 0 := by
    rw [List.getD_eq_getElem?_getD, List.getElem?_eq_getElem (show 5 < bs.length by omega)]
    exact hpos _ (List.getElem_mem _)
  have non : decI bs = none → ∀ H', Same H H' → Q .non H' := fun e => by
    rw [e] at k
    exact k
  have bad : (bs.getD 0 0 ≠ 75 ∨ bs.getD 31 0 ≠ 75 ∨ bs.getD 1 0 ≥ bs.getD 2 0 ∨ ¬ (1 ≤ bs.getD 5 0 ∧ bs.getD 5 0 ≤ 24)) → Q .non H := fun h => by
    refine non ?_ H (Same.refl H)
    unfold decI
    by_cases h0 : bs.getD 0 0 ≠ 75 ∨ bs.getD 31 0 ≠ 75
    · rw [if_pos h0]
    · rw [if_neg h0, if_pos]
      rcases h with h | h | h | h
      · exact absurd (.inl h) h0
      · exact absurd (.inr h) h0
      · exact .inl h
      · exact .inr (.inl h)
  refine ⟨_, rfl, a, _, 0, _, rfl, rfl, hS, at_ 0 0 rfl (by decide), rfl, _, rfl, ite2 (fun h => ?_) (fun h => ?_)⟩
  · exact bad (.inl fun e => nd_of h (by rw [e]))
  have e0 : bs.getD 0 0 = 75 := V.int.inj (d_of h)
  refine ⟨_, rfl, a, _, 31, _, rfl, rfl, hS, at_ 31 31 rfl (by decide), rfl, _, rfl, ite2 (fun h => ?_) (fun h => ?_)⟩
  · exact bad (.inr (.inl fun e => nd_of h (by rw [e])))
  have e31 : bs.getD 31 0 = 75 := V.int.inj (d_of h)
  refine ⟨_, rfl, a, _, 1, _, rfl, rfl, hS, at_ 1 1 rfl (by decide), _, rfl, a, _, 2, _, rfl, rfl, hS, at_ 2 2 rfl (by decide), _, _, rfl, rfl, _, rfl, ite2 (fun h => ?_) (fun h => ?_)⟩
  · exact bad (.inr (.inr (.inl (of_decide_eq_true h))))
  have g1 : ¬ bs.getD 1 0 ≥ bs.getD 2 0 := fun e => h (decide_eq_true e)
  refine ⟨_, rfl, a, _, 5, _, rfl, rfl, hS, at_ 5 5 rfl (by decide), _, _, rfl, rfl, _, rfl, ite2 (fun h => ?_) (fun h => ?_)⟩
  · have h : 24 < bs.getD 5 0 := of_decide_eq_true h
    exact bad (.inr (.inr (.inr fun e => by omega)))
  have g3 : bs.getD 5 0 ≤ 24 := Int.not_lt.mp fun e => h (decide_eq_true e)
  refine ⟨_, rfl, a, _, 5, _, rfl, rfl, hS, at_ 5 5 rfl (by decide), rfl, _, rfl, ite2 (fun h => ?_) (fun h => ?_)⟩
  · have h : bs.getD 5 0 = 0 := V.int.inj (of_decide_eq_true h)
    exact bad (.inr (.inr (.inr fun e => by omega)))
  have g2 : 1 ≤ bs.getD 5 0 := by
    have : ¬ bs.getD 5 0 = 0 := fun e => h (decide_eq_true (by rw [e]))
    omega
  obtain ⟨c, ec⟩ : ∃ c : Nat, bs.getD 5 0 = (c : Int) := ⟨(bs.getD 5 0).toNat, by omega⟩
  have ec' : (bs.getD 5 0).toNat = c := by omega
  have e7 : cutV (bs.map V.int) (some 6) (some (6 + bs.getD 5 0)) = ((bs.drop 6).take c).map V.int := by
    rw [cutV_of (lo := 6) (hi := 6 + bs.getD 5 0) (a := 6) (b := 6 + c) rfl (by omega) (by omega) (by rw [List.length_map]; omega), ← List.map_drop, ← List.map_take, show 6 + c - 6 = c by omega]
  have ed : ∀ (r : Option (Int × Int × Int × Str)), decI bs = r → (decI bs = if ((bs.drop (6 + c)).take (25 - c)).any (· != 0) = true then none else if ((bs.drop 6).take c).all okC = true then some (bs.getD 1 0, bs.getD 2 0, bs.getD 3 0 * 256 + bs.getD 4 0, ⟨(((bs.drop 6).take c).map Int.toNat).toArray⟩) else none) := fun r _ => by
    unfold decI
    rw [if_neg (by rw [e0, e31]; decide), ec']
    by_cases h : ((bs.drop (6 + c)).take (25 - c)).any (· != 0) = true
    · rw [if_pos (.inr (.inr h)), if_pos h]
    · rw [if_neg (by
        rintro (e | e | e)
        · exact g1 e
        · exact e ⟨g2, g3⟩
        · exact h e), if_neg h]
  have ed := ed _ rfl
  generalize hcs : (bs.drop 6).take c = cs at e7 ed
  have hcl : cs.length ≤ 24 := by rw [← hcs, List.length_take]; omega
  refine ⟨_, rfl, _, rfl, _, rfl, a, _, 5, _, rfl, rfl, hS, at_ 5 5 rfl (by decide), _, _, rfl, rfl, _, rfl, a, _, rfl, hS, fun p1 h1 => ?_⟩
  have c1 : upd H p1 (.lst (cutV (bs.map V.int) (some 6) (some (6 + bs.getD 5 0)))) p1 = some (.lst (cs.map V.int)) := upd_same.trans (congrArg (fun q => some (HO.lst q)) e7)
  have s1 := nws (u := .lst (cutV (bs.map V.int) (some 6) (some (6 + bs.getD 5 0)))) h1 (Same.refl H)
  have hS1 := nwq (u := .lst (cutV (bs.map V.int) (some 6) (some (6 + bs.getD 5 0)))) h1 hS
  generalize upd H p1 (.lst (cutV (bs.map V.int) (some 6) (some (6 + bs.getD 5 0)))) = H1 at c1 s1 hS1 ⊢
  refine ⟨p1, rfl, ⟨_, SqL.of c1⟩, for_list (xs := cs.map V.int) (fun i σ H' => ∃ v3 v4 z, σ = [some (.ref a), some (.str " !\"#$?&'()*+,-./0123456789:;<=>?@ABCDEFGHIJKLMNOPQRSTUVWXYZ[\\]^_`abcdefghijklmnopqrstuvwxyz{|}~"), some (.str z), v3, v4] ∧ H' = H1 ∧ z.cps.toList = (cs.take i).map Int.toNat ∧ (cs.take i).all okC = true)
    ⟨none, none, "", rfl, rfl, rfl, rfl⟩ (fun i σ H' _ ⟨_, _, _, _, e, _⟩ => by rw [e]; exact SqL.of c1) ?_ ?_⟩
  · rintro i x σ H' hx ⟨v3, v4, z, rfl, rfl, ez, hall⟩
    have hi : i < cs.length := by
      have := (List.getElem?_eq_some_iff.mp hx).1
      rwa [List.length_map] at this
    have ex : x = .int cs[i] := by
      rw [List.getElem?_map, List.getElem?_eq_getElem hi] at hx
      exact (Option.some.inj hx).symm
    subst ex
    have stop : okC cs[i] = false → Q .non H' := fun e => by
      refine non ?_ H' s1
      rw [ed]
      split
      · rfl
      · rw [if_neg]
        intro h
        rw [List.all_eq_true.mp h _ (List.getElem_mem hi)] at e
        cases e
    refine ⟨_, rfl, rfl, _, rfl, ite2 (fun h => ?_) (fun h => ?_)⟩
    · have h : cs[i] = 37 := V.int.inj (of_decide_eq_true h)
      exact stop (by rw [h]; rfl)
    have h37 : ¬ cs[i] = 37 := fun e => h (decide_eq_true (by rw [e]))
    refine ⟨_, rfl, _, _, rfl, rfl, _, rfl, ite2 (fun h => ?_) (fun h => ?_)⟩
    · have h : cs[i] < 32 := of_decide_eq_true h
      exact stop (by simp only [okC, decide_eq_false (show ¬ (32 : Int) ≤ cs[i] by omega)]; rfl)
    have h32 : 32 ≤ cs[i] := Int.not_lt.mp fun e => h (decide_eq_true e)
    refine ⟨_, rfl, _, _, rfl, rfl, _, rfl, ite2 (fun h => ?_) (fun h => ?_)⟩
    · have h : 126 < cs[i] := of_decide_eq_true h
      exact stop (by simp only [okC, decide_eq_false (show ¬ cs[i] ≤ 126 by omega), Bool.and_false, Bool.false_and])
    have h126 : cs[i] ≤ 126 := Int.not_lt.mp fun e => h (decide_eq_true e)
    have e := signs2_at (cs[i] - 32).toNat (by omega)
    rw [if_neg (by omega), show (cs[i] - 32).toNat + 32 = cs[i].toNat by omega] at e
    have e2 := atI_nat e
    rw [show (((cs[i] - 32).toNat : Nat) : Int) = cs[i] - 32 by omega] at e2
    have hz : z.length ≤ 24 := by
      show z.cps.size ≤ 24
      rw [← Array.length_toList, ez, List.length_map, List.length_take]
      omega
    refine ⟨_, rfl, _, rfl, _, rfl, _, _, rfl, rfl, _, _, _, rfl, rfl, by rw [signs2_len]; decide, e2, _, _, rfl, rfl, ?_, _, _, _, rfl, rfl, ?_, ?_⟩
    · exact Nat.le_of_lt (small1000 (by show z.length + 1 ≤ 1000; omega))
    · rw [str_snoc, ez, take_snoc (List.getElem?_eq_getElem hi), List.map_append]
      rfl
    · rw [take_snoc (List.getElem?_eq_getElem hi), List.all_append, hall, List.all_cons]
      simp only [okC, decide_eq_true h32, decide_eq_true h126, decide_eq_false h37]
      rfl
  · rintro σ H' ⟨v3, v4, z, rfl, rfl, ez, hall⟩
    rw [List.length_map, List.take_length] at ez hall
    have e6 : cutV (bs.map V.int) (some (6 + bs.getD 5 0)) (some 31) = ((bs.drop (6 + c)).take (25 - c)).map V.int := by
      rw [cutV_of (lo := 6 + bs.getD 5 0) (hi := 31) (a := 6 + c) (b := 31) (by omega) rfl (by omega) (by rw [List.length_map]; omega), ← List.map_drop, ← List.map_take, show 31 - (6 + c) = 25 - c by omega]
    rw [if_pos hall] at ed
    generalize (bs.drop (6 + c)).take (25 - c) = rs at e6 ed
    have hrl : rs.length ≤ 32 := by
      have := congrArg List.length e6
      rw [List.length_map] at this
      have h2 := cutV_length (bs.map V.int) (some (6 + bs.getD 5 0)) (some 31)
      rw [List.length_map] at h2
      omega
    refine ⟨_, rfl, _, rfl, a, _, 5, _, rfl, rfl, hS1, at_ 5 5 rfl (by decide), _, _, rfl, rfl, _, rfl, _, rfl, a, _, rfl, hS1, fun p2 h2 => ?_⟩
    have c2 : upd H' p2 (.lst (cutV (bs.map V.int) (some (6 + bs.getD 5 0)) (some 31))) p2 = some (.lst (rs.map V.int)) := upd_same.trans (congrArg (fun q => some (HO.lst q)) e6)
    have s2 := nws (u := .lst (cutV (bs.map V.int) (some (6 + bs.getD 5 0)) (some 31))) h2 s1
    have hS2 := nwq (u := .lst (cutV (bs.map V.int) (some (6 + bs.getD 5 0)) (some 31))) h2 hS1
    generalize upd H' p2 (.lst (cutV (bs.map V.int) (some (6 + bs.getD 5 0)) (some 31))) = H2 at c2 s2 hS2 ⊢
    refine ⟨p2, rfl, ⟨_, SqL.of c2⟩, fun D hD => lc_list (xs := rs.map V.int) (fun i H3 => H3 = upd H2 D (.lst (((rs.take i).filter (· != 0)).map V.int))) rfl (fun i H3 _ e => by rw [e]; exact nwq hD (SqL.of c2)) ?_ ?_⟩
    · rintro i x H3 hx rfl
      have hi : i < rs.length := by
        have := (List.getElem?_eq_some_iff.mp hx).1
        rwa [List.length_map] at this
      have ex : x = .int rs[i] := by
        rw [List.getElem?_map, List.getElem?_eq_getElem hi] at hx
        exact (Option.some.inj hx).symm
      subst ex
      refine ⟨rfl, _, rfl, rfl, _, rfl, ite2 (fun h => ?_) (fun h => ?_)⟩
      · have h : ¬ rs[i] = 0 := fun e => nd_of h (by rw [e])
        refine ⟨_, rfl, _, upd_same, ?_, ?_⟩
        · rw [List.length_map]
          have := List.length_filter_le (· != 0) (rs.take i)
          rw [List.length_take] at this
          exact small1000 (by omega)
        · rw [take_snoc (List.getElem?_eq_getElem hi), List.filter_append, upd_upd, List.map_append]
          have : [rs[i]].filter (· != 0) = [rs[i]] := by simp [h]
          rw [this]
          rfl
      · have h : rs[i] = 0 := V.int.inj (d_of h)
        rw [take_snoc (List.getElem?_eq_getElem hi), List.filter_append]
        have : [rs[i]].filter (· != 0) = [] := by simp [h]
        rw [this, List.append_nil]
    · rintro _ rfl
      rw [List.length_map, List.take_length]
      have ea := any_filter rs
      rw [ea] at ed
      refine ⟨Nat.zero_le _, fun q hq => ?_⟩
      have cD : upd H2 D (.lst ((rs.filter (· != 0)).map V.int)) D = some (.lst ((rs.filter (· != 0)).map V.int)) := upd_same
      have s3 := nws (u := .lst ((rs.filter (· != 0)).map V.int)) hD s2
      have hS3 := nwq (u := .lst ((rs.filter (· != 0)).map V.int)) hD hS2
      generalize upd H2 D (.lst ((rs.filter (· != 0)).map V.int)) = H3 at cD s3 hS3 hq ⊢
      have s4 := nws (u := .lst []) hq s3
      have hS4 := nwq (u := .lst []) hq hS3
      have d2 : Dp K (upd H3 q (.lst [])) (.ref q) (.list []) := .lst (SqL.of upd_same) .nil
      have sh0 : Sh 1 (.list []) := sh_list fun _ h => by cases h
      refine ⟨_, _, dp_ints (SqL.of (nw hq cD)), d2, (sh_ints (n := 0) _).shaped (by decide), sh0.shaped (by decide), ?_⟩
      cases hf : rs.filter (· != 0) with
      | cons y r =>
        refine ⟨true, rfl, ?_⟩
        refine non ?_ _ s4
        rw [ed, hf]
        rfl
      | nil =>
        refine ⟨false, rfl, ?_⟩
        rw [hf] at ed
        rw [ed] at k
        refine ⟨_, rfl, a, _, 1, _, rfl, rfl, hS4, at_ 1 1 rfl (by decide), _, rfl, a, _, 2, _, rfl, rfl, hS4, at_ 2 2 rfl (by decide), _, rfl, a, _, 3, _, rfl, rfl, hS4, at_ 3 3 rfl (by decide), _, _, rfl, rfl, .inl ⟨by decide, by decide⟩, _, rfl, a, _, 4, _, rfl, rfl, hS4, at_ 4 4 rfl (by decide), _, _, rfl, rfl, _, rfl, (by show 4 ≤ sizeLine; decide), fun l hl' => ?_⟩
        have k : ∀ (l : Addr) (H' : Hp), Same H H' → H l = none → H' l = some (.tup [.int (bs.getD 1 0), .int (bs.getD 2 0), .int (bs.getD 3 0 * 256 + bs.getD 4 0), .str ⟨(cs.map Int.toNat).toArray⟩]) → Q (.ref l) H' := k
        have ezz : z = ⟨(cs.map Int.toNat).toArray⟩ := by rw [← ez]
        refine k l _ (nws hl' s4) (s4.free hl') (upd_same.trans ?_)
        rw [← ezz, Int.mul_comm (bs.getD 3 0) 256]
def sp__law_reads_so (K : PySem.W.Frag) : Sp := SpOf (fun ((a, _) : Addr × List Int) => [.ref a]) fun (a, bs) H Q => H a = some (.lst (bs.map V.int)) ∧ bs.length = 32 ∧ (∀ x ∈ bs, (0 : Int) ≤ x) ∧ ∀ H', Same H H' → Q (.bl true) H'
theorem decC {bs : List Int} {k m n : Int} {z : Str} (h : decI bs = some (k, m, n, z)) : ∀ c ∈ z.cps.toList, c < 0x110000 := by
  unfold decI at h
  split at h
  · cases h
  split at h
  · cases h
  split at h
  · rename_i hall
    cases h
    intro c hc
    rw [List.toList_toArray] at hc
    obtain ⟨x, hx, rfl⟩ := List.mem_map.mp hc
    have := List.all_eq_true.mp hall x hx
    simp only [okC, Bool.and_eq_true, decide_eq_true_eq] at this
    omega
  · cases h
set_option maxHeartbeats 4000000 in
theorem ok__law_reads_so (T : Txt K mg) : DefOk P w K mg base "_law_reads_so" 3 ["_law_block"] (sp__law_reads_so K) := by
  have G_decode_piece := ok_decode_piece (P := P) (w := w) (base := base) T
  have G__law_due_piece := ok__law_due_piece (P := P) (w := w) (base := base) T
  refine DefOk.mk' T.d__law_reads_so sc__law_reads_so (fun _ _ _ _ _ _ us hl => match us, hl with | [_], _ => rfl) (fun _ => rfl) (fun cdv f A outer s H p Q E hr h => ?_)
  obtain ⟨a, bs⟩ := p
  obtain ⟨hA, hl, hpos, k⟩ := h
  refine ⟨_, (pss_cons (ps_set (i := 1) sc__law_reads_so.nd rfl (.inl rfl) (pe_callTy (call_listK (K := K)) (by rfl) T.n_list (by decide +kernel) (pa_cons (pv 0) pa_nil)))
    (pss_one (ps_ret (pe_and (pe_cmpR (op_eqK (K := K) hr.units) (pe_callD G_decode_piece (hr.mono (by decide)) rfl (pa_cons (pv 1) pa_nil)) (pe_callD G__law_due_piece (hr.mono (by decide)) rfl (pa_cons (pv 0) pa_nil)) (nomark _)) (pe_one (pe_cmpR (op_eqK (K := K) hr.units) (pv 1) (pv 0) (nomark _))))))), ?_⟩
  refine ⟨_, rfl, a, _, rfl, .inl (SqL.of hA), fun p1 h1 => ?_⟩
  have s1 := nws (u := .lst (bs.map V.int)) h1 (Same.refl H)
  have c1 : upd H p1 (.lst (bs.map V.int)) p1 = some (.lst (bs.map V.int)) := upd_same
  generalize upd H p1 (.lst (bs.map V.int)) = H1 at s1 c1 ⊢
  have fin : ∀ H2 : Hp, Same H1 H2 → (tOp (rEqD K) (tVar 1) (tVar 0)) [some (.ref a), some (.ref p1)] H2 Q := fun H2 s2 =>
    ⟨_, rfl, _, rfl, _, _, dp_ints (SqL.of (s2 _ _ c1)), dp_ints (SqL.of (s2 _ _ (s1 _ _ hA))), (sh_ints (n := 0) bs).shaped (by decide), (sh_ints (n := 0) bs).shaped (by decide), by rw [eq_t (sh_ints (n := 0) bs)]; exact k _ (s1.trans s2)⟩
  refine ⟨_, rfl, (p1, bs), rfl, SqL.of c1, hl, ?_⟩
  cases e : decI bs with
  | none =>
    intro H2 s2
    refine ⟨_, rfl, (a, bs), rfl, SqL.of (s2 _ _ (s1 _ _ hA)), hl, hpos, ?_⟩
    rw [e]
    intro H3 s3
    refine ⟨_, _, .non, .non, sh_non.shaped (n := 0) (by decide), sh_non.shaped (n := 0) (by decide), true, rfl, ?_⟩
    exact fin _ (s2.trans s3)
  | some r =>
    obtain ⟨k', m, n, z⟩ := r
    intro l2 H2 s2 n2 c2
    refine ⟨_, rfl, (a, bs), rfl, SqL.of (s2 _ _ (s1 _ _ hA)), hl, hpos, ?_⟩
    rw [e]
    intro l3 H3 s3 n3 c3
    have sh : Sh 1 (.tuple [.int k', .int m, .int n, .str z]) := sh_tuple (by
      rintro d (_ | ⟨_, _ | ⟨_, _ | ⟨_, _ | ⟨_, h⟩⟩⟩⟩)
      · exact sh_int _
      · exact sh_int _
      · exact sh_int _
      · exact sh_str (decC e)
      · cases h)
    have hd : ∀ {H' : Hp} {x : Addr}, H' x = some (.tup [.int k', .int m, .int n, .str z]) → Dp K H' (.ref x) (.tuple [.int k', .int m, .int n, .str z]) := fun h => .tup (SqT.of h) (.cons (.int _) (.cons (.int _) (.cons (.int _) (.cons (.str _) .nil))))
    refine ⟨_, _, hd (s3 _ _ c2), hd c3, sh.shaped (by decide), sh.shaped (by decide), true, eq_t sh, ?_⟩
    exact fin _ (s2.trans s3)
theorem torn_non {bs : List Int} (h : bs.getD 0 0 ≠ 75 ∨ bs.getD 31 0 ≠ 75) : decI bs = none := by
  unfold decI
  rw [if_pos h]
def sp__law_torn_piece (K : PySem.W.Frag) : Sp := SpOf (fun ((a, _) : Addr × List Int) => [.ref a]) fun (a, bs) H Q => H a = some (.lst (bs.map V.int)) ∧ bs.length = 32 ∧ (∃ r, decI bs = some r) ∧ ∀ H', Same H H' → Q (.bl true) H'
set_option maxHeartbeats 4000000 in
theorem ok__law_torn_piece (T : Txt K mg) : DefOk P w K mg base "_law_torn_piece" 3 ["_law_block"] (sp__law_torn_piece K) := by
  have G_decode_piece := ok_decode_piece (P := P) (w := w) (base := base) T
  refine DefOk.mk' T.d__law_torn_piece sc__law_torn_piece (fun _ _ _ _ _ _ us hl => match us, hl with | [_], _ => rfl) (fun _ => rfl) (fun cdv f A outer s H p Q E hr h => ?_)
  obtain ⟨a, bs⟩ := p
  obtain ⟨hA, hl, ⟨⟨k1, m, n, z⟩, hdec⟩, k⟩ := h
  refine ⟨_, (pss_cons (ps_set (i := 1) sc__law_torn_piece.nd rfl (.inl rfl) (pe_op op_rep (pe_lst (pa_cons pe_int pa_nil)) pe_int))
    (pss_cons (ps_for PassesOwn.never rfl (pi_range1 rfl T.n_range (pa_cons pe_int pa_nil)) (pg_name (i := 2) sc__law_torn_piece.nd rfl (.inl rfl))
    (pss_cons (ps_if (pt_cmpR op_ne (pe_cmpR op_isN (pe_callD G_decode_piece (hr.mono (by decide)) rfl (pa_cons (pe_op op_cat (pe_slice (sl_listK (K := K)) (pv 0) po_none (po_some (pv 2))) (pe_slice (sl_listK (K := K)) (pv 1) (po_some (pv 2)) po_none)) pa_nil)) pe_non (nomark _)) (pe_cmpR op_lt (pv 2) pe_int (nomark _)) (nomark _))
    (pss_one (ps_ret pe_bl))
    pss_nil)
    (pss_one (ps_if (pt_cmpR op_ne (pe_cmpR op_isN (pe_callD G_decode_piece (hr.mono (by decide)) rfl (pa_cons (pe_op op_cat (pe_slice (sl_listK (K := K)) (pv 1) po_none (po_some (pv 2))) (pe_slice (sl_listK (K := K)) (pv 0) (po_some (pv 2)) po_none)) pa_nil)) pe_non (nomark _)) (pe_cmpR op_gt (pv 2) pe_int (nomark _)) (nomark _))
    (pss_one (ps_ret pe_bl))
    pss_nil))))
    (pss_one (ps_ret pe_bl)))), ?_⟩
  refine ⟨(by show 1 ≤ sizeLine; decide), fun p0 h0 => ⟨p0, 32, [.int 0], rfl, rfl, upd_same, by decide, by decide, (by show 1 * 32 ≤ sizeLine; decide), fun Z hZ => ?_⟩⟩
  have ez : (List.replicate (Int.toNat 32) [V.int 0]).flatten = (List.replicate 32 (0 : Int)).map V.int := by rw [rep_flat, List.map_replicate]; rfl
  have cZ : upd (upd H p0 (.lst [V.int 0])) Z (.lst (List.replicate (Int.toNat 32) [V.int 0]).flatten) Z = some (.lst ((List.replicate 32 (0 : Int)).map V.int)) := upd_same.trans (congrArg (fun q => some (HO.lst q)) ez)
  have s1 : Same H (upd (upd H p0 (.lst [V.int 0])) Z (.lst (List.replicate (Int.toNat 32) [V.int 0]).flatten)) := nws hZ (nws h0 (Same.refl H))
  generalize upd (upd H p0 (.lst [V.int 0])) Z (.lst (List.replicate (Int.toNat 32) [V.int 0]).flatten) = H1 at cZ s1 ⊢
  refine ⟨33, rfl, by decide, by decide, for_range (lo := 0) (n := 33) (fun i σ H' => ∃ v2, σ = [some (.ref a), some (.ref Z), v2] ∧ Same H1 H') ⟨none, rfl, Same.refl _⟩ ?_ fun σ H' ⟨v2, _, s⟩ => k _ (s1.trans s)⟩
  rintro i σ H2 hi ⟨v2, rfl, s2⟩
  have hi' : i ≤ 32 := by omega
  have eA : cutV (bs.map V.int) none (some (0 + (i : Int))) = (bs.take i).map V.int := by rw [cutV_to (b := i) (by omega), ← List.map_take]
  have eB : cutV ((List.replicate 32 (0 : Int)).map V.int) (some (0 + (i : Int))) none = ((List.replicate 32 (0 : Int)).drop i).map V.int := by rw [cutV_from (a := i) (by omega), ← List.map_drop]
  have eC : cutV ((List.replicate 32 (0 : Int)).map V.int) none (some (0 + (i : Int))) = ((List.replicate 32 (0 : Int)).take i).map V.int := by rw [cutV_to (b := i) (by omega), ← List.map_take]
  have eD : cutV (bs.map V.int) (some (0 + (i : Int))) none = (bs.drop i).map V.int := by rw [cutV_from (a := i) (by omega), ← List.map_drop]
  have rd : (List.replicate 32 (0 : Int)).drop i = List.replicate (32 - i) 0 := List.drop_replicate
  have rt : (List.replicate 32 (0 : Int)).take i = List.replicate i 0 := by rw [List.take_replicate, Nat.min_eq_left hi']
  have a2 := s2 _ _ (s1 _ _ hA)
  have z2 := s2 _ _ cZ
  refine ⟨_, rfl, _, rfl, _, rfl, a, _, rfl, SqL.of a2, fun p1 h1 => ?_⟩
  have z3 := nw (u := .lst (cutV (bs.map V.int) none (some (0 + (i : Int))))) h1 z2
  refine ⟨_, rfl, _, rfl, _, rfl, Z, _, rfl, SqL.of z3, fun p2 h2 => ?_⟩
  have c1 : upd H2 p1 (.lst (cutV (bs.map V.int) none (some (0 + (i : Int))))) p1 = some (.lst ((bs.take i).map V.int)) := upd_same.trans (congrArg (fun q => some (HO.lst q)) eA)
  refine ⟨p1, p2, _, _, rfl, rfl, nw h2 c1, upd_same.trans (congrArg (fun q => some (HO.lst q)) eB), ?_, fun p3 h3 => ?_⟩
  · rw [List.length_map, List.length_map, rd, List.length_take, List.length_replicate]
    exact Nat.le_of_lt (small1000 (by omega))
  refine ⟨(p3, bs.take i ++ List.replicate (32 - i) 0), rfl, SqL.of (upd_same.trans (by rw [rd, ← List.map_append])), by rw [List.length_append, List.length_take, List.length_replicate]; omega, ?_⟩
  have sA : Same H2 _ := fun b o e => nw (u := .lst ((bs.take i).map V.int ++ ((List.replicate 32 (0 : Int)).drop i).map V.int)) h3 (nw (u := .lst (cutV ((List.replicate 32 (0 : Int)).map V.int) (some (0 + (i : Int))) none)) h2 (nw (u := .lst (cutV (bs.map V.int) none (some (0 + (i : Int))))) h1 e))
  generalize upd _ p3 _ = H3 at sA ⊢
  -- the second part, from any heap
  have second : ∀ H4 : Hp, Same H2 H4 → (tIfS (tTest (tOp rNe (tOp (fun x y H Q => y = V.non ∧ Q (.bl (decide (x = .non))) H) (tCall (sp_decode_piece K) [] E0 (tCons (tOp rCat (tSl (rSlL K) (tVar 1) tNoPart (tPart (tVar 2))) (tSl (rSlL K) (tVar 0) (tPart (tVar 2)) tNoPart)) tNil)) (tC .non)) (tOp (rI0 fun i j => .bl (decide (j < i))) (tVar 2) (tC (.int 0))))) (tRet (tC (.bl false))) tNext)
      { nx := fun σ H' => ∃ v2, σ = [some (.ref a), some (.ref Z), v2] ∧ Same H1 H', rt := Q } [some (.ref a), some (.ref Z), some (.int (0 + (i : Int)))] H4 := fun H4 s4 => by
    have a4 := s4 _ _ a2
    have z4 := s4 _ _ z2
    refine ⟨_, rfl, _, rfl, _, rfl, Z, _, rfl, SqL.of z4, fun p1 h1 => ?_⟩
    have a5 := nw (u := .lst (cutV ((List.replicate 32 (0 : Int)).map V.int) none (some (0 + (i : Int))))) h1 a4
    refine ⟨_, rfl, _, rfl, _, rfl, a, _, rfl, SqL.of a5, fun p2 h2 => ?_⟩
    have c1 : upd H4 p1 (.lst (cutV ((List.replicate 32 (0 : Int)).map V.int) none (some (0 + (i : Int))))) p1 = some (.lst (((List.replicate 32 (0 : Int)).take i).map V.int)) := upd_same.trans (congrArg (fun q => some (HO.lst q)) eC)
    refine ⟨p1, p2, _, _, rfl, rfl, nw h2 c1, upd_same.trans (congrArg (fun q => some (HO.lst q)) eD), ?_, fun p3 h3 => ?_⟩
    · rw [List.length_map, List.length_map, rt, List.length_drop, List.length_replicate]
      exact Nat.le_of_lt (small1000 (by omega))
    refine ⟨(p3, List.replicate i 0 ++ bs.drop i), rfl, SqL.of (upd_same.trans (by rw [rt, ← List.map_append])), by rw [List.length_append, List.length_drop, List.length_replicate]; omega, ?_⟩
    have sB : Same H4 _ := fun b o e => nw (u := .lst (((List.replicate 32 (0 : Int)).take i).map V.int ++ (bs.drop i).map V.int)) h3 (nw (u := .lst (cutV (bs.map V.int) (some (0 + (i : Int))) none)) h2 (nw (u := .lst (cutV ((List.replicate 32 (0 : Int)).map V.int) none (some (0 + (i : Int))))) h1 e))
    by_cases h0 : 0 < i
    · rw [torn_non (.inl (by
        obtain ⟨j, rfl⟩ : ∃ j, i = j + 1 := ⟨i - 1, by omega⟩
        rw [List.replicate_succ]
        exact (by decide : (0 : Int) ≠ 75)))]
      intro H5 s5
      refine ⟨rfl, _, rfl, _, _, rfl, rfl, rfl, false, ?_, ?_⟩
      · exact bl_same (decide_eq_true (show (0 : Int) < 0 + (i : Int) by omega)).symm
      · exact ⟨_, rfl, s2.trans (s4.trans (sB.trans s5))⟩
    · have e0 : i = 0 := by omega
      subst e0
      rw [show List.replicate 0 (0 : Int) ++ bs.drop 0 = bs from rfl, hdec]
      intro l H5 s5 n5 c5
      refine ⟨rfl, _, rfl, _, _, rfl, rfl, rfl, false, ?_, ?_⟩
      · rw [decide_eq_false (show ¬ V.ref l = V.non from fun e => by cases e)]
        rfl
      · exact ⟨_, rfl, s2.trans (s4.trans (sB.trans s5))⟩
  by_cases h32 : i < 32
  · rw [torn_non (.inr (by
      rw [List.getD_eq_getElem?_getD, List.getElem?_append_right (by rw [List.length_take]; omega), List.length_take, List.getElem?_replicate, if_pos (by omega)]
      exact (by decide : (0 : Int) ≠ 75)))]
    intro H4 s4
    refine ⟨rfl, _, rfl, _, _, rfl, rfl, rfl, false, ?_, ?_⟩
    · exact bl_same (decide_eq_true (show 0 + (i : Int) < 32 by omega)).symm
    · exact second H4 (sA.trans s4)
  · have e0 : i = 32 := by omega
    subst e0
    rw [show bs.take 32 ++ List.replicate (32 - 32) (0 : Int) = bs by rw [List.take_of_length_le (by omega)]; exact List.append_nil bs, hdec]
    intro l H4 s4 n4 c4
    refine ⟨rfl, _, rfl, _, _, rfl, rfl, rfl, false, ?_, ?_⟩
    · rw [decide_eq_false (show ¬ V.ref l = V.non from fun e => by cases e)]
      rfl
    · exact second H4 (sA.trans s4)

end
section
open PySem PySem.Spec PyProof.Rows L2
variable {P : Program} {w : World} {K : PySem.W.Frag} {mg : Str → Option Value} {base : Heap}
theorem dec_piece (k m n : Int) (z : Str) (h0 : 0 ≤ k) (h1 : k < m) (hn : 0 ≤ n) (hz : 1 ≤ z.length) (hz2 : z.length ≤ 24) (hc : codesOk z) : decI (pieceI k m n (ic z)) = some (k, m, n, z) := by
  have hl : (ic z).length = z.length := ic_len z
  have e75 : (pieceI k m n (ic z)).getD 31 0 = 75 := by
    unfold pieceI
    rw [List.getD_eq_getElem?_getD, List.getElem?_append_right (by simp only [List.length_append, List.length_cons, List.length_nil, List.length_replicate]; omega)]
    have e : 31 - ([75, k, m, n / 256, n % 256, ((ic z).length : Int)] ++ ic z ++ List.replicate (25 - (ic z).length) 0).length = 0 := by simp only [List.length_append, List.length_cons, List.length_nil, List.length_replicate]; omega
    rw [e]
    rfl
  have e5 : (pieceI k m n (ic z)).getD 5 0 = (z.length : Int) := by rw [← hl]; rfl
  have en : ((z.length : Int)).toNat = z.length := Int.toNat_natCast _
  have ed : (pieceI k m n (ic z)).drop 6 = ic z ++ (List.replicate (25 - (ic z).length) 0 ++ [75]) := by
    unfold pieceI
    rw [List.append_assoc, List.append_assoc]
    rfl
  have et : ((pieceI k m n (ic z)).drop 6).take z.length = ic z := by
    rw [ed, ← hl, List.take_left']
    rfl
  have ea : (((pieceI k m n (ic z)).drop (6 + z.length)).take (25 - z.length)).any (· != 0) = false := by
    rw [← List.drop_drop, ed, ← hl, List.drop_left' rfl, hl, List.take_left' (by rw [List.length_replicate])]
    rw [List.any_eq_false]
    intro x hx
    rw [(List.mem_replicate.mp hx).2]
    decide
  have eall : (ic z).all okC = true := by
    rw [List.all_eq_true]
    intro x hx
    obtain ⟨c, h, rfl⟩ := List.mem_map.mp hx
    exact hc c h
  have g0 : (pieceI k m n (ic z)).getD 0 0 = 75 := rfl
  have g1 : (pieceI k m n (ic z)).getD 1 0 = k := rfl
  have g2 : (pieceI k m n (ic z)).getD 2 0 = m := rfl
  have g3 : (pieceI k m n (ic z)).getD 3 0 = n / 256 := rfl
  have g4 : (pieceI k m n (ic z)).getD 4 0 = n % 256 := rfl
  unfold decI
  rw [g0, e75, g1, g2, g3, g4, e5, en, et, ea, if_neg (by decide), if_neg (by
    rintro (h | h | h)
    · omega
    · omega
    · cases h), if_pos eall]
  have e1 : n / 256 * 256 + n % 256 = n := by omega
  have e2 : (ic z).map Int.toNat = z.cps.toList := by
    unfold ic
    rw [List.map_map]
    exact List.map_id _
  rw [e1, e2]
theorem chunk_ok {z : Str} {k : Nat} (h : codesOk z) : codesOk (chunkS z k) := fun c hc => h c (by
  have hc : c ∈ ((z.cps.toList.drop (24 * k)).take 24).toArray.toList := hc
  rw [List.toList_toArray] at hc
  exact List.mem_of_mem_drop (List.mem_of_mem_take hc))
theorem chunk_pos {z : Str} {k : Nat} (h : k < manyS z) : 1 ≤ (chunkS z k).length := by
  show 1 ≤ ((z.cps.toList.drop (24 * k)).take 24).toArray.size
  rw [List.size_toArray, List.length_take, List.length_drop, Array.length_toList]
  unfold manyS at h
  show 1 ≤ min 24 (z.length - 24 * k)
  omega
theorem codes_small {z : Str} (h : codesOk z) : ∀ c ∈ z.cps.toList, c < 0x110000 := fun c hc => by
  have := h c hc
  simp only [okC, Bool.and_eq_true, decide_eq_true_eq] at this
  omega
theorem menu3 (a b c r : Int) (h0 : 0 ≤ r) (h1 : r < 3) (ha : 1 ≤ a ∧ a ≤ 1000) (hb : 1 ≤ b ∧ b ≤ 1000) (hc : 1 ≤ c ∧ c ≤ 1000) : ∃ v, atI [V.int a, V.int b, V.int c] r = some (.int v) ∧ 1 ≤ v ∧ v ≤ 1000 := by
  have : r = 0 ∨ r = 1 ∨ r = 2 := by omega
  rcases this with rfl | rfl | rfl
  · exact ⟨a, rfl, ha⟩
  · exact ⟨b, rfl, hb⟩
  · exact ⟨c, rfl, hc⟩
theorem box_new {H : Hp} {l b : Addr} {ds : List Int} (hl : H l = some (.lst (ds.map V.int))) (hb : H b = none) : BoxAt K (upd H b (.lst [.ref l, .int 0])) b :=
  ⟨l, ds, 0, upd_same, SqL.of (nw hb hl), by decide, ne_of_none hl hb⟩

theorem atI_some {xs : List V} {r : Int} (h0 : 0 ≤ r) (h1 : r < xs.length) : ∃ v, atI xs r = some v ∧ v ∈ xs := by
  have hj : r.toNat < xs.length := by omega
  refine ⟨xs[r.toNat], at_of (j := r.toNat) (by omega) (List.getElem?_eq_getElem hj), List.getElem_mem hj⟩
theorem ixN_nat {n : Nat} {r : Int} (h0 : 0 ≤ r) (h1 : r < n) : ixN n r = some r.toNat := by
  unfold ixN
  rw [if_pos h0, if_pos h1]
theorem set_pos {bs : List Int} {j : Nat} {v : Int} (h : ∀ x ∈ bs, (0 : Int) ≤ x) (hv : 0 ≤ v) : ∀ x ∈ bs.set j v, (0 : Int) ≤ x := fun x hx => by
  rcases List.mem_or_eq_of_mem_set hx with h1 | h1
  · exact h x h1
  · omega
def sp_law (K : PySem.W.Frag) : Sp := SpOf (fun ((a, _) : Addr × List Int) => [.ref a]) fun (a, ns) H Q => SqL K H a (ns.map V.int) ∧ ns.length ≤ 63 ∧ ∀ H', Q (.bl true) H'
set_option maxHeartbeats 4000000 in
theorem ok_law (T : Txt K mg) : DefOk P w K mg base "law" 4 ["_law_script"] (sp_law K) := by
  have G__law_reads_so := ok__law_reads_so (P := P) (w := w) (base := base) T
  have G__law_digits := ok__law_digits (P := P) (w := w) (base := base) T
  have G__law_pieces := ok__law_pieces (P := P) (w := w) (base := base) T
  have G__law_signs := ok__law_signs (P := P) (w := w) (base := base) T
  have G__law_draw := ok__law_draw (P := P) (w := w) (base := base) T
  have G__law_torn_piece := ok__law_torn_piece (P := P) (w := w) (base := base) T
  refine DefOk.mk' T.d_law sc_law (fun _ _ _ _ _ _ us hl => match us, hl with | [_], _ => rfl) (fun _ => rfl) (fun cdv f A outer s H p Q E hr h => ?_)
  obtain ⟨a, ns⟩ := p
  obtain ⟨hS, hlen, k⟩ := h
  refine ⟨_, (pss_cons (ps_set (i := 1) sc_law.nd rfl (.inr rfl) (pe_lst (pa_cons (pe_callD G__law_digits (hr.mono (by decide)) rfl (pa_cons (pv 0) (pa_cons pe_int (pa_cons pe_int pa_nil)))) (pa_cons pe_int pa_nil))))
    (pss_cons (ps_for PassesOwn.never rfl (pi_range1 rfl T.n_range (pa_cons pe_int pa_nil)) (pg_name (i := 2) sc_law.nd rfl (.inl rfl))
    (pss_cons (ps_set (i := 3) sc_law.nd rfl (.inl rfl) (pe_op op_modN (pe_callTy call_int1 (by rfl) T.n_int (by decide +kernel) (pa_cons (pe_op op_add (pe_op op_mul (pe_callD G__law_draw (hr.mono (by decide)) rfl (pa_cons (pv 1) (pa_cons pe_int pa_nil))) pe_int) (pe_callD G__law_draw (hr.mono (by decide)) rfl (pa_cons (pv 1) (pa_cons pe_int pa_nil)))) pa_nil)) pe_int))
    (pss_cons (ps_set (i := 4) sc_law.nd rfl (.inl rfl) (pe_callD G__law_pieces (hr.mono (by decide)) rfl (pa_cons (pv 3) (pa_cons (pe_callD G__law_signs (hr.mono (by decide)) rfl (pa_cons (pv 1) (pa_cons (pe_op op_add pe_int (pe_callD G__law_draw (hr.mono (by decide)) rfl (pa_cons (pv 1) (pa_cons pe_int pa_nil)))) pa_nil))) pa_nil))))
    (pss_cons (ps_set (i := 5) sc_law.nd rfl (.inl rfl) (pe_ix (ix_listK (K := K)) (pv 4) (pe_callD G__law_draw (hr.mono (by decide)) rfl (pa_cons (pv 1) (pa_cons (pe_callB (call_lenK (K := K)) (by rfl) T.n_len (by decide +kernel) (pa_cons (pv 4) pa_nil)) pa_nil))) (fun _ _ => rfl)))
    (pss_cons (ps_if (pt_not (pt_val (pe_callD G__law_torn_piece (hr.mono (by decide)) rfl (pa_cons (pv 5) pa_nil))))
    (pss_one (ps_ret pe_bl))
    pss_nil)
    (pss_cons (ps_for PassesOwn.never rfl (pi_range1 rfl T.n_range (pa_cons (pe_callD G__law_draw (hr.mono (by decide)) rfl (pa_cons (pv 1) (pa_cons pe_int pa_nil))) pa_nil)) (pg_name (i := 6) sc_law.nd rfl (.inl rfl))
    (pss_one (ps_asg (pe_ix (ix_listK (K := K)) (pe_lst (pa_cons pe_int (pa_cons pe_int (pa_cons pe_int (pa_cons pe_int (pa_cons pe_int (pa_cons pe_int (pa_cons pe_int (pa_cons pe_int (pa_cons pe_int (pa_cons pe_int (pa_cons pe_int (pa_cons pe_int (pa_cons pe_int (pa_cons (pe_callD G__law_draw (hr.mono (by decide)) rfl (pa_cons (pv 1) (pa_cons pe_int pa_nil))) pa_nil))))))))))))))) (pe_callD G__law_draw (hr.mono (by decide)) rfl (pa_cons (pv 1) (pa_cons pe_int pa_nil))) (fun _ _ => rfl)) (pg_sub (pv 5) (pe_callD G__law_draw (hr.mono (by decide)) rfl (pa_cons (pv 1) (pa_cons pe_int pa_nil))) set_list))))
    (pss_cons (ps_setLc (i := 7) (own := [("_law_k", 9)]) (g := gName 9) (tt := tYes) rfl sc_law.nd rfl rfl (sw_true rfl rfl rfl (by decide +kernel)) (pi_range1 rfl T.n_range (pa_cons pe_int pa_nil)) (blkOk_by (own := [("_law_k", 9)]) (N := N_law) (sc := defScope s_law) (by decide +kernel)) (fun _ _ _ _ _ => pg_name (i := 9) sc_law.nd rfl (.inl rfl)) (fun _ _ _ _ _ => pts_nil) (fun _ _ _ _ _ => (pe_callD G__law_draw (hr.mono (by decide)) rfl (pa_cons (pv 1) (pa_cons pe_int pa_nil)))))
    (pss_cons (ps_asg pe_int (pg_sub (pv 7) pe_int set_list))
    (pss_cons (ps_asg pe_int (pg_sub (pv 7) pe_int set_list))
    (pss_one (ps_if (PW.pt (pw_or (pt_not (pt_val (pe_callD G__law_reads_so (hr.mono (by decide)) rfl (pa_cons (pv 5) pa_nil)))) (pw_or1 (pt_not (pt_val (pe_callD G__law_reads_so (hr.mono (by decide)) rfl (pa_cons (pv 7) pa_nil)))))))
    (pss_one (ps_ret pe_bl))
    pss_nil)))))))))))
    (pss_cons (ps_for PassesOwn.never rfl (ilistK (K := K) (pi_list (pe_lst (pa_cons (pe_op op_cat (pe_op op_cat (pe_lst (pa_cons pe_int (pa_cons pe_int (pa_cons pe_int (pa_cons pe_int (pa_cons pe_int (pa_cons pe_int pa_nil))))))) (pe_op op_rep (pe_lst (pa_cons pe_int pa_nil)) pe_int)) (pe_lst (pa_cons pe_int pa_nil))) (pa_cons (pe_op op_cat (pe_op op_cat (pe_lst (pa_cons pe_int (pa_cons pe_int (pa_cons pe_int (pa_cons pe_int (pa_cons pe_int (pa_cons pe_int pa_nil))))))) (pe_op op_rep (pe_lst (pa_cons pe_int pa_nil)) pe_int)) (pe_lst (pa_cons pe_int pa_nil))) (pa_cons (pe_op op_cat (pe_op op_cat (pe_lst (pa_cons pe_int (pa_cons pe_int (pa_cons pe_int (pa_cons pe_int (pa_cons pe_int (pa_cons pe_int pa_nil))))))) (pe_op op_rep (pe_lst (pa_cons pe_int pa_nil)) pe_int)) (pe_lst (pa_cons pe_int (pa_cons pe_int pa_nil)))) pa_nil)))))) (pg_name (i := 8) sc_law.nd rfl (.inl rfl))
    (pss_one (ps_if (pt_not (pt_val (pe_callD G__law_reads_so (hr.mono (by decide)) rfl (pa_cons (pv 8) pa_nil))))
    (pss_one (ps_ret pe_bl))
    pss_nil)))
    (pss_one (ps_ret (pe_callD G__law_reads_so (hr.mono (by decide)) rfl (pa_cons (pe_op op_rep (pe_lst (pa_cons pe_int pa_nil)) pe_int) pa_nil))))))), ?_⟩
  refine ⟨_, rfl, (a, ns, 0, 63), rfl, hS, by decide, by decide, by decide, fun l ds hl hds => ⟨(by show 2 ≤ sizeLine; decide), fun b hb => ?_⟩⟩
  refine ⟨10, rfl, by decide, by decide, for_range (lo := 0) (n := 10) (fun i σ H' => ∃ v2 v3 v4 v5 v6 v7 v8 v9, σ = [some (.ref a), some (.ref b), v2, v3, v4, v5, v6, v7, v8, v9] ∧ BoxAt K H' b)
    ⟨none, none, none, none, none, none, none, none, rfl, box_new upd_same hb⟩ ?_ ?_⟩
  · rintro i σ H1 hi ⟨v2, v3, v4, v5, v6, v7, v8, v9, rfl, B1⟩
    refine ⟨_, rfl, (b, 66), rfl, B1, by decide, fun r1 H2 r10 r11 B2 f2 => ⟨_, _, rfl, rfl, .inr ⟨by decide, by decide⟩, _, rfl, (b, 1000), rfl, B2, by decide, fun r2 H3 r20 r21 B3 f3 => ⟨_, _, rfl, rfl, .inl ⟨_, rfl, _, _, rfl, rfl, (by show (65536 : Int) ≠ 0; decide), ?_⟩⟩⟩⟩
    dsimp only
    generalize hn : (r1 * 1000 + r2).fmod 65536 = n
    have hn0 : 0 ≤ n := by rw [← hn]; exact Int.fmod_nonneg_of_pos _ (by decide)
    refine ⟨_, rfl, _, rfl, _, rfl, (b, 60), rfl, B3, by decide, fun r3 H4 r30 r31 B4 f4 => ⟨_, _, rfl, rfl, (b, 1 + r3), rfl, B4, by omega, by omega, fun z H5 B5 f5 hz hc => ?_⟩⟩
    have hz1 : z.length ≤ 1000 := by omega
    refine ⟨(n, z), rfl, hz1, hn0, fun l1 H6 s6 n6 R6 => ?_⟩
    have B6 := B5.mono s6
    obtain ⟨as1, c1, hl1, hr1⟩ := id R6
    have hm : as1.length = manyS z := by rw [hl1, blocksI, List.length_map, List.length_range]
    have hm1 : 1 ≤ manyS z := by unfold manyS; omega
    refine ⟨_, rfl, _, rfl, _, rfl, l1, _, rfl, .inl (SqL.of c1), (b, (as1.map V.ref).length), rfl, B6, by rw [List.length_map]; omega, fun r7 H7 r70 r71 B7 f7 => ?_⟩
    rw [List.length_map, hm] at r71
    obtain ⟨j, rfl⟩ : ∃ j : Nat, r7 = (j : Int) := ⟨r7.toNat, by omega⟩
    have hj : j < manyS z := by omega
    have hj2 : j < as1.length := by omega
    have hrow : (blocksI n z)[j]? = some (pieceI j (manyS z) n (ic (chunkS z j))) := by
      rw [blocksI, List.getElem?_map, List.getElem?_range hj]
      rfl
    have ca6 := hr1 j as1[j] _ (List.getElem?_eq_getElem hj2) hrow
    generalize hak : as1[j] = ak at ca6
    obtain ⟨lb, dsb, zb, hbb, _⟩ := id B6
    have nlb : l1 ≠ b := fun e => by
      rw [e, hbb] at c1
      have := congrArg List.length (HO.lst.inj (Option.some.inj c1))
      have h2 := HO.lst.inj (Option.some.inj c1)
      cases as1 with
      | nil => simp at this
      | cons x r =>
        cases r with
        | nil => simp at this
        | cons y r => simp at h2
    have nab : ak ≠ b := fun e => by
      rw [e, hbb] at ca6
      have h2 := HO.lst.inj (Option.some.inj ca6)
      unfold pieceI at h2
      simp at h2
    have hcl := chunk_len z j
    have ca := f7 _ _ (by simp [nab]) ca6
    refine ⟨l1, _, _, .ref ak, rfl, rfl, SqL.of (f7 _ _ (by simp [nlb]) c1), atI_nat (by rw [List.getElem?_map, List.getElem?_eq_getElem hj2, hak]; rfl), ?_⟩
    have hpl := piece_len j (manyS z) n (ic (chunkS z j)) (by rw [ic_len]; exact hcl)
    refine ⟨_, rfl, (ak, _), rfl, ca, hpl, ⟨_, dec_piece j (manyS z) n (chunkS z j) (by omega) (by omega) hn0 (chunk_pos hj) hcl (chunk_ok hc)⟩, fun H8 s8 => ⟨_, rfl, ?_⟩⟩
    have B8 := B7.mono s8
    have ca8 := s8 _ _ ca
    have hpos : ∀ x ∈ pieceI j (manyS z) n (ic (chunkS z j)), (0 : Int) ≤ x := fun x hx => by
      unfold pieceI at hx
      rcases List.mem_append.mp hx with hx | hx
      · rcases List.mem_append.mp hx with hx | hx
        · rcases List.mem_append.mp hx with hx | hx
          · rcases hx with _ | ⟨_, _ | ⟨_, _ | ⟨_, _ | ⟨_, _ | ⟨_, _ | ⟨_, h⟩⟩⟩⟩⟩⟩
            all_goals first | omega | cases h
          · obtain ⟨c, _, rfl⟩ := List.mem_map.mp hx
            omega
        · rw [(List.mem_replicate.mp hx).2]
          decide
      · rw [List.mem_singleton.mp hx]
        decide
    generalize pieceI j (manyS z) n (ic (chunkS z j)) = bs0 at hpl hpos ca8
    refine ⟨_, rfl, (b, 3), rfl, B8, by decide, fun r9 H9 r90 r91 B9 f9 => ⟨r9, rfl, by omega, by omega, ?_⟩⟩
    refine for_range (lo := 0) (n := r9.toNat) (fun i' σ H' => ∃ v6 bs, σ = [some (.ref a), some (.ref b), some (.int (0 + (i : Int))), some (.int n), some (.ref l1), some (.ref ak), v6, v7, v8, v9] ∧ BoxAt K H' b ∧ H' ak = some (.lst (bs.map V.int)) ∧ bs.length = 32 ∧ ∀ x ∈ bs, (0 : Int) ≤ x)
      ⟨v6, bs0, rfl, B9, f9 _ _ (by simp [nab]) ca8, hpl, hpos⟩ ?_ ?_
    · rintro i' σ H10 hi' ⟨v6, bs, rfl, B10, ca10, hb32, hbp⟩
      refine ⟨_, rfl, (b, 256), rfl, B10, by decide, fun q1 H11 q10 q11 B11 f11 => ⟨(by show 14 ≤ sizeLine; decide), fun p1 h1 => ?_⟩⟩
      obtain ⟨lb2, dsb2, zb2, hbb2, _⟩ := id B11
      have npb : p1 ≠ b := (ne_of_none hbb2 h1).symm
      have B12 := B11.fr (Fr.new (o := .lst [V.int 0, V.int 10, V.int 11, V.int 24, V.int 31, V.int 32, V.int 37, V.int 72, V.int 75, V.int 83, V.int 126, V.int 127, V.int 255, V.int q1]) h1)
      refine ⟨_, rfl, (b, 14), rfl, B12, by decide, fun q2 H13 q20 q21 B13 f13 => ?_⟩
      obtain ⟨v, ev, hv⟩ := atI_some (xs := [V.int 0, V.int 10, V.int 11, V.int 24, V.int 31, V.int 32, V.int 37, V.int 72, V.int 75, V.int 83, V.int 126, V.int 127, V.int 255, V.int q1]) q20 q21
      obtain ⟨y, rfl, hy⟩ : ∃ y : Int, v = .int y ∧ 0 ≤ y := by
        simp only [List.mem_cons, List.not_mem_nil, or_false] at hv
        rcases hv with h | h | h | h | h | h | h | h | h | h | h | h | h | h <;> exact ⟨_, h, by first | decide | exact q10⟩
      refine ⟨p1, _, q2, _, rfl, rfl, SqL.of (f13 _ _ (by simp [npb]) upd_same), ev, _, rfl, _, rfl, (b, 32), rfl, B13, by decide, fun q3 H14 q30 q31 B14 f14 => ?_⟩
      have ca14 := f14 _ _ (by simp [nab]) (f13 _ _ (by simp [nab]) (nw (u := .lst [V.int 0, V.int 10, V.int 11, V.int 24, V.int 31, V.int 32, V.int 37, V.int 72, V.int 75, V.int 83, V.int 126, V.int 127, V.int 255, V.int q1]) h1 (f11 _ _ (by simp [nab]) ca10)))
      refine ⟨ak, _, q3, q3.toNat, rfl, rfl, ca14, ixN_nat q30 (by rw [List.length_map, hb32]; exact q31), ?_⟩
      refine ⟨some (.int (0 + (i' : Int))), bs.set q3.toNat y, rfl, ?_, by rw [upd_same, ← List.map_set], by rw [List.length_set]; exact hb32, set_pos hbp hy⟩
      rw [← List.map_set]
      exact box_ints B14 _ nab
    · rintro σ H10 ⟨v6, bs, rfl, B10, ca10, hb32, hbp⟩
      refine ⟨32, rfl, by decide, by decide, fun D hD => lc_range (lo := 0) (n := 32) (fun i' H' => ∃ ds : List Int, BoxAt K H' b ∧ D ≠ b ∧ D ≠ ak ∧ H' ak = some (.lst (bs.map V.int)) ∧ H' D = some (.lst (ds.map V.int)) ∧ ds.length = i' ∧ ∀ x ∈ ds, (0 : Int) ≤ x) ?_ ?_ ?_⟩
      · obtain ⟨lb2, dsb2, zb2, hbb2, _⟩ := id B10
        exact ⟨[], B10.fr (Fr.new hD), (ne_of_none hbb2 hD).symm, (ne_of_none ca10 hD).symm, nw hD ca10, upd_same, rfl, fun x h => by cases h⟩
      · rintro i' H11 hi' ⟨ds, B11, nDb, nDa, ca11, cD, hdl, hdp⟩
        refine ⟨rfl, _, rfl, (b, 256), rfl, B11, by decide, fun q H12 q0 q1 B12 f12 => ⟨_, f12 _ _ (by simp [nDb]) cD, by rw [List.length_map, hdl]; exact small1000 (by omega), ds ++ [q], ?_, nDb, nDa, by rw [upd_ne nDa.symm]; exact f12 _ _ (by simp [nab]) ca11, by rw [upd_same, snocI], by rw [List.length_append, hdl]; rfl, fun x hx => ?_⟩⟩
        · rw [snocI]
          exact box_ints B12 _ nDb
        · rcases List.mem_append.mp hx with hx | hx
          · exact hdp x hx
          · rw [List.mem_singleton.mp hx]
            exact q0
      · rintro H11 ⟨ds, B11, nDb, nDa, ca11, cD, hdl, hdp⟩
        have e1 : ((ds.set 0 75).set 31 75).length = 32 := by rw [List.length_set, List.length_set, hdl]
        refine ⟨_, rfl, D, _, 0, 0, rfl, rfl, cD, ixN_nat (by decide) (by rw [List.length_map, hdl]; decide), _, rfl, D, _, 31, 31, rfl, rfl, upd_same, ixN_nat (by decide) (by rw [List.length_set, List.length_map, hdl]; decide), ?_⟩
        rw [upd_upd, show ((ds.map V.int).set 0 (V.int 75)).set 31 (V.int 75) = ((ds.set 0 75).set 31 75).map V.int by rw [List.map_set, List.map_set]]
        have cD2 : upd H11 D (.lst (((ds.set 0 75).set 31 75).map V.int)) D = some (.lst (((ds.set 0 75).set 31 75).map V.int)) := upd_same
        have B13 := box_ints B11 ((ds.set 0 75).set 31 75) nDb
        have ca13 : upd H11 D (.lst (((ds.set 0 75).set 31 75).map V.int)) ak = some (.lst (bs.map V.int)) := by rw [upd_ne nDa.symm]; exact ca11
        generalize upd H11 D (.lst (((ds.set 0 75).set 31 75).map V.int)) = H13 at cD2 B13 ca13 ⊢
        refine ⟨_, rfl, (ak, bs), rfl, ca13, hb32, hbp, fun H14 s14 => ⟨_, rfl, ?_⟩⟩
        refine ⟨_, rfl, (D, _), rfl, s14 _ _ cD2, e1, set_pos (set_pos hdp (by decide)) (by decide), fun H15 s15 => ⟨_, rfl, ?_⟩⟩
        exact ⟨_, _, _, _, _, _, _, _, rfl, (B13.mono s14).mono s15⟩
  · rintro σ H1 ⟨v2, v3, v4, v5, v6, v7, v8, v9, rfl, B1⟩
    have row1 : ∀ (q c : Int) (m : Nat) (ws : List Int), m + ws.length = 26 → 0 ≤ q → 0 ≤ c → (∀ x ∈ ws, (0 : Int) ≤ x) → (([75, 0, 1, 0, 0, q] ++ List.replicate m c) ++ ws).length = 32 ∧ ∀ x ∈ (([75, 0, 1, 0, 0, q] ++ List.replicate m c) ++ ws), (0 : Int) ≤ x := fun q c m ws h1 h2 h3 h4 => by
      refine ⟨by simp only [List.length_append, List.length_cons, List.length_nil, List.length_replicate]; omega, fun x hx => ?_⟩
      rcases List.mem_append.mp hx with hx | hx
      · rcases List.mem_append.mp hx with hx | hx
        · simp only [List.mem_cons, List.not_mem_nil, or_false] at hx
          omega
        · rw [(List.mem_replicate.mp hx).2]
          exact h3
      · exact h4 x hx
    have z : ∀ k : Nat, k ≤ 100000 → k ≤ sizeLine := fun k h => Nat.le_of_lt (small100k h)
    refine ⟨z _ (by decide), fun x1 h1 => ⟨z _ (by decide), fun x2 h2 => ⟨x2, 25, [.int 0], rfl, rfl, upd_same, by decide, by decide, z _ (by decide), fun x3 h3 => ⟨x1, x3, _, _, rfl, rfl, nw h3 (nw h2 upd_same), upd_same, z _ (by decide), fun x4 h4 => ⟨z _ (by decide), fun x5 h5 => ⟨x4, x5, _, _, rfl, rfl, nw h5 upd_same, upd_same, z _ (by decide), fun p1 h6 => ?_⟩⟩⟩⟩⟩⟩
    have s2 : Same H1 _ := fun b' o e => nw (u := .lst (([.int 75, .int 0, .int 1, .int 0, .int 0, .int 0] ++ (List.replicate (Int.toNat 25) [V.int 0]).flatten) ++ [V.int 75])) h6 (nw (u := .lst ([75].map V.int)) h5 (nw (u := .lst ([.int 75, .int 0, .int 1, .int 0, .int 0, .int 0] ++ (List.replicate (Int.toNat 25) [V.int 0]).flatten)) h4 (nw (u := .lst (List.replicate (Int.toNat 25) [V.int 0]).flatten) h3 (nw (u := .lst [.int 0]) h2 (nw (u := .lst [.int 75, .int 0, .int 1, .int 0, .int 0, .int 0]) h1 e)))))
    generalize e1 : upd _ p1 _ = H2 at s2 ⊢
    have c2 : H2 p1 = some (.lst (((([75, 0, 1, 0, 0, 0] : List Int) ++ List.replicate 25 0) ++ [75]).map V.int)) := by
      rw [← e1]
      exact upd_same
    clear e1 h1 h2 h3 h4 h5 h6
    refine ⟨z _ (by decide), fun x1 h1 => ⟨z _ (by decide), fun x2 h2 => ⟨x2, 25, [.int 65], rfl, rfl, upd_same, by decide, by decide, z _ (by decide), fun x3 h3 => ⟨x1, x3, _, _, rfl, rfl, nw h3 (nw h2 upd_same), upd_same, z _ (by decide), fun x4 h4 => ⟨z _ (by decide), fun x5 h5 => ⟨x4, x5, _, _, rfl, rfl, nw h5 upd_same, upd_same, z _ (by decide), fun p2 h6 => ?_⟩⟩⟩⟩⟩⟩
    have s3 : Same H2 _ := fun b' o e => nw (u := .lst (([.int 75, .int 0, .int 1, .int 0, .int 0, .int 25] ++ (List.replicate (Int.toNat 25) [V.int 65]).flatten) ++ [V.int 75])) h6 (nw (u := .lst ([75].map V.int)) h5 (nw (u := .lst ([.int 75, .int 0, .int 1, .int 0, .int 0, .int 25] ++ (List.replicate (Int.toNat 25) [V.int 65]).flatten)) h4 (nw (u := .lst (List.replicate (Int.toNat 25) [V.int 65]).flatten) h3 (nw (u := .lst [.int 65]) h2 (nw (u := .lst [.int 75, .int 0, .int 1, .int 0, .int 0, .int 25]) h1 e)))))
    generalize e2 : upd _ p2 _ = H3 at s3 ⊢
    have c3 : H3 p2 = some (.lst (((([75, 0, 1, 0, 0, 25] : List Int) ++ List.replicate 25 65) ++ [75]).map V.int)) := by
      rw [← e2]
      exact upd_same
    clear e2 h1 h2 h3 h4 h5 h6
    refine ⟨z _ (by decide), fun x1 h1 => ⟨z _ (by decide), fun x2 h2 => ⟨x2, 24, [.int 65], rfl, rfl, upd_same, by decide, by decide, z _ (by decide), fun x3 h3 => ⟨x1, x3, _, _, rfl, rfl, nw h3 (nw h2 upd_same), upd_same, z _ (by decide), fun x4 h4 => ⟨z _ (by decide), fun x5 h5 => ⟨x4, x5, _, _, rfl, rfl, nw h5 upd_same, upd_same, z _ (by decide), fun p3 h6 => ?_⟩⟩⟩⟩⟩⟩
    have s4 : Same H3 _ := fun b' o e => nw (u := .lst (([.int 75, .int 0, .int 1, .int 0, .int 0, .int 24] ++ (List.replicate (Int.toNat 24) [V.int 65]).flatten) ++ [V.int 0, V.int 75])) h6 (nw (u := .lst ([0, 75].map V.int)) h5 (nw (u := .lst ([.int 75, .int 0, .int 1, .int 0, .int 0, .int 24] ++ (List.replicate (Int.toNat 24) [V.int 65]).flatten)) h4 (nw (u := .lst (List.replicate (Int.toNat 24) [V.int 65]).flatten) h3 (nw (u := .lst [.int 65]) h2 (nw (u := .lst [.int 75, .int 0, .int 1, .int 0, .int 0, .int 24]) h1 e)))))
    generalize e3 : upd _ p3 _ = H4 at s4 ⊢
    have c4 : H4 p3 = some (.lst (((([75, 0, 1, 0, 0, 24] : List Int) ++ List.replicate 24 65) ++ [0, 75]).map V.int)) := by
      rw [← e3]
      exact upd_same
    clear e3 h1 h2 h3 h4 h5 h6
    refine ⟨(by show 3 ≤ sizeLine; decide), fun p4 h4 => ?_⟩
    have d1 := nw (u := .lst [V.ref p1, V.ref p2, V.ref p3]) h4 (s4 _ _ (s3 _ _ c2))
    have d2 := nw (u := .lst [V.ref p1, V.ref p2, V.ref p3]) h4 (s4 _ _ c3)
    have d3 := nw (u := .lst [V.ref p1, V.ref p2, V.ref p3]) h4 c4
    have d4 : upd H4 p4 (.lst [V.ref p1, V.ref p2, V.ref p3]) p4 = some (.lst [V.ref p1, V.ref p2, V.ref p3]) := upd_same
    generalize upd H4 p4 (.lst [V.ref p1, V.ref p2, V.ref p3]) = H5 at d1 d2 d3 d4 ⊢
    refine ⟨p4, rfl, ⟨_, SqL.of d4⟩, for_list (xs := [V.ref p1, V.ref p2, V.ref p3]) (fun i σ H' => ∃ v8, σ = [some (.ref a), some (.ref b), v2, v3, v4, v5, v6, v7, v8, v9] ∧ Same H5 H') ⟨v8, rfl, Same.refl _⟩ (fun i σ H' _ ⟨_, _, s⟩ => s.seq (SqL.of d4)) ?_ ?_⟩
    · rintro i x σ H6 hx ⟨v8, rfl, s6⟩
      have hrow : ∃ (r : Addr) (bs : List Int), x = .ref r ∧ H6 r = some (.lst (bs.map V.int)) ∧ bs.length = 32 ∧ ∀ x ∈ bs, (0 : Int) ≤ x := by
        match i, hx with
        | 0, h => exact ⟨p1, _, (Option.some.inj h).symm, s6 _ _ d1, row1 0 0 25 [75] (by decide) (by decide) (by decide) (by decide)⟩
        | 1, h => exact ⟨p2, _, (Option.some.inj h).symm, s6 _ _ d2, row1 25 65 25 [75] (by decide) (by decide) (by decide) (by decide)⟩
        | 2, h => exact ⟨p3, _, (Option.some.inj h).symm, s6 _ _ d3, row1 24 65 24 [0, 75] (by decide) (by decide) (by decide) (by decide)⟩
        | i + 3, h => simp at h
      obtain ⟨r, bs, rfl, h1, h2, h3⟩ := hrow
      exact ⟨_, rfl, (r, bs), rfl, h1, h2, h3, fun H7 s7 => ⟨_, rfl, _, rfl, s6.trans s7⟩⟩
    · rintro σ H6 ⟨v8, rfl, s6⟩
      exact ⟨z _ (by decide), fun p5 h5 => ⟨p5, 32, [.int 0], rfl, rfl, upd_same, by decide, by decide, z _ (by decide), fun p6 h6 => ⟨(p6, List.replicate 32 0), rfl, upd_same, by decide, by decide, fun H8 s8 => k H8⟩⟩⟩

end
section
open PySem PySem.Spec PyProof.Rows L2
variable {P : Program} {w : World} {K : PySem.W.Frag} {mg : Str → Option Value} {base : Heap}
theorem all_mk {l : PySem.W.OpenLaw} {w : World} {K : PySem.W.Frag} {h : Heap} {mg : Str → Option Value} {fa : Addr} (X : K.In h) (G : h.Ns mainGlobals mg) (hfa : mg "law" = some (.ref fa))
    {f0 : Addr} {od0 an0 : Option Addr} {sl0 : Array (Option Value)} {oc0 kV0 dc0 pm0 cd0 ct0 : Value} {f1 : Addr} {od1 an1 : Option Addr} {sl1 : Array (Option Value)} {oc1 kV1 dc1 pm1 cd1 ct1 : Value} {f2 : Addr} {od2 an2 : Option Addr} {sl2 : Array (Option Value)} {oc2 kV2 dc2 pm2 cd2 ct2 : Value} {f3 : Addr} {od3 an3 : Option Addr} {sl3 : Array (Option Value)} {oc3 kV3 dc3 pm3 cd3 ct3 : Value} {f4 : Addr} {od4 an4 : Option Addr} {sl4 : Array (Option Value)} {oc4 kV4 dc4 pm4 cd4 ct4 : Value} {f5 : Addr} {od5 an5 : Option Addr} {sl5 : Array (Option Value)} {oc5 kV5 dc5 pm5 cd5 ct5 : Value} {f6 : Addr} {od6 an6 : Option Addr} {sl6 : Array (Option Value)} {oc6 kV6 dc6 pm6 cd6 ct6 : Value} {f7 : Addr} {od7 an7 : Option Addr} {sl7 : Array (Option Value)} {oc7 kV7 dc7 pm7 cd7 ct7 : Value} {f8 : Addr} {od8 an8 : Option Addr} {sl8 : Array (Option Value)} {oc8 kV8 dc8 pm8 cd8 ct8 : Value} {f9 : Addr} {od9 an9 : Option Addr} {sl9 : Array (Option Value)} {oc9 kV9 dc9 pm9 cd9 ct9 : Value} {f10 : Addr} {od10 an10 : Option Addr} {sl10 : Array (Option Value)} {oc10 kV10 dc10 pm10 cd10 ct10 : Value} {f11 : Addr} {od11 an11 : Option Addr} {sl11 : Array (Option Value)} {oc11 kV11 dc11 pm11 cd11 ct11 : Value} {t_PERCENT : Tok} {t_SIGNS : Tok} {t_RECORD : Tok} {t_PIECE : Tok}
    (a0 : PySem.W.nsIn K mainGlobals "_are_codes" = some (some (.ref f0))) (l0 : K.lookup f0 = some ⟨oc0, od0, .func (PySem.W.fnOf "_are_codes" "_are_codes" (defArgs s__are_codes) (defBody s__are_codes) (defScope s__are_codes) .none kV0 dc0 pm0 an0 cd0 ct0), sl0⟩) (c0 : PySem.W.codeIn K cd0 "_are_codes" = true) (k0 : PySem.W.keepIn K (.ref f0) = true)
    (a1 : PySem.W.nsIn K mainGlobals "_sign" = some (some (.ref f1))) (l1 : K.lookup f1 = some ⟨oc1, od1, .func (PySem.W.fnOf "_sign" "_sign" (defArgs s__sign) (defBody s__sign) (defScope s__sign) .none kV1 dc1 pm1 an1 cd1 ct1), sl1⟩) (c1 : PySem.W.codeIn K cd1 "_sign" = true) (k1 : PySem.W.keepIn K (.ref f1) = true)
    (a2 : PySem.W.nsIn K mainGlobals "decode_piece" = some (some (.ref f2))) (l2 : K.lookup f2 = some ⟨oc2, od2, .func (PySem.W.fnOf "decode_piece" "decode_piece" (defArgs s_decode_piece) (defBody s_decode_piece) (defScope s_decode_piece) .none kV2 dc2 pm2 an2 cd2 ct2), sl2⟩) (c2 : PySem.W.codeIn K cd2 "decode_piece" = true) (k2 : PySem.W.keepIn K (.ref f2) = true)
    (a3 : PySem.W.nsIn K mainGlobals "_law_cell" = some (some (.ref f3))) (l3 : K.lookup f3 = some ⟨oc3, od3, .func (PySem.W.fnOf "_law_cell" "_law_cell" (defArgs s__law_cell) (defBody s__law_cell) (defScope s__law_cell) .none kV3 dc3 pm3 an3 cd3 ct3), sl3⟩) (c3 : PySem.W.codeIn K cd3 "_law_cell" = true) (k3 : PySem.W.keepIn K (.ref f3) = true)
    (a4 : PySem.W.nsIn K mainGlobals "_law_digits" = some (some (.ref f4))) (l4 : K.lookup f4 = some ⟨oc4, od4, .func (PySem.W.fnOf "_law_digits" "_law_digits" (defArgs s__law_digits) (defBody s__law_digits) (defScope s__law_digits) .none kV4 dc4 pm4 an4 cd4 ct4), sl4⟩) (c4 : PySem.W.codeIn K cd4 "_law_digits" = true) (k4 : PySem.W.keepIn K (.ref f4) = true)
    (a5 : PySem.W.nsIn K mainGlobals "_law_draw" = some (some (.ref f5))) (l5 : K.lookup f5 = some ⟨oc5, od5, .func (PySem.W.fnOf "_law_draw" "_law_draw" (defArgs s__law_draw) (defBody s__law_draw) (defScope s__law_draw) .none kV5 dc5 pm5 an5 cd5 ct5), sl5⟩) (c5 : PySem.W.codeIn K cd5 "_law_draw" = true) (k5 : PySem.W.keepIn K (.ref f5) = true)
    (a6 : PySem.W.nsIn K mainGlobals "_law_pieces" = some (some (.ref f6))) (l6 : K.lookup f6 = some ⟨oc6, od6, .func (PySem.W.fnOf "_law_pieces" "_law_pieces" (defArgs s__law_pieces) (defBody s__law_pieces) (defScope s__law_pieces) .none kV6 dc6 pm6 an6 cd6 ct6), sl6⟩) (c6 : PySem.W.codeIn K cd6 "_law_pieces" = true) (k6 : PySem.W.keepIn K (.ref f6) = true)
    (a7 : PySem.W.nsIn K mainGlobals "_law_signs" = some (some (.ref f7))) (l7 : K.lookup f7 = some ⟨oc7, od7, .func (PySem.W.fnOf "_law_signs" "_law_signs" (defArgs s__law_signs) (defBody s__law_signs) (defScope s__law_signs) .none kV7 dc7 pm7 an7 cd7 ct7), sl7⟩) (c7 : PySem.W.codeIn K cd7 "_law_signs" = true) (k7 : PySem.W.keepIn K (.ref f7) = true)
    (a8 : PySem.W.nsIn K mainGlobals "_law_due_piece" = some (some (.ref f8))) (l8 : K.lookup f8 = some ⟨oc8, od8, .func (PySem.W.fnOf "_law_due_piece" "_law_due_piece" (defArgs s__law_due_piece) (defBody s__law_due_piece) (defScope s__law_due_piece) .none kV8 dc8 pm8 an8 cd8 ct8), sl8⟩) (c8 : PySem.W.codeIn K cd8 "_law_due_piece" = true) (k8 : PySem.W.keepIn K (.ref f8) = true)
    (a9 : PySem.W.nsIn K mainGlobals "_law_reads_so" = some (some (.ref f9))) (l9 : K.lookup f9 = some ⟨oc9, od9, .func (PySem.W.fnOf "_law_reads_so" "_law_reads_so" (defArgs s__law_reads_so) (defBody s__law_reads_so) (defScope s__law_reads_so) .none kV9 dc9 pm9 an9 cd9 ct9), sl9⟩) (c9 : PySem.W.codeIn K cd9 "_law_reads_so" = true) (k9 : PySem.W.keepIn K (.ref f9) = true)
    (a10 : PySem.W.nsIn K mainGlobals "_law_torn_piece" = some (some (.ref f10))) (l10 : K.lookup f10 = some ⟨oc10, od10, .func (PySem.W.fnOf "_law_torn_piece" "_law_torn_piece" (defArgs s__law_torn_piece) (defBody s__law_torn_piece) (defScope s__law_torn_piece) .none kV10 dc10 pm10 an10 cd10 ct10), sl10⟩) (c10 : PySem.W.codeIn K cd10 "_law_torn_piece" = true) (k10 : PySem.W.keepIn K (.ref f10) = true)
    (a11 : PySem.W.nsIn K mainGlobals "law" = some (some (.ref f11))) (l11 : K.lookup f11 = some ⟨oc11, od11, .func (PySem.W.fnOf "law" "law" (defArgs s_law) (defBody s_law) (defScope s_law) .none kV11 dc11 pm11 an11 cd11 ct11), sl11⟩) (c11 : PySem.W.codeIn K cd11 "law" = true) (k11 : PySem.W.keepIn K (.ref f11) = true)
    (z_any : PySem.W.nsIn K mainGlobals "any" = some none)
    (z_int : PySem.W.nsIn K mainGlobals "int" = some none)
    (z_len : PySem.W.nsIn K mainGlobals "len" = some none)
    (z_list : PySem.W.nsIn K mainGlobals "list" = some none)
    (z_ord : PySem.W.nsIn K mainGlobals "ord" = some none)
    (z_range : PySem.W.nsIn K mainGlobals "range" = some none)
    (y_PERCENT : PySem.W.nsIn K mainGlobals "PERCENT" = some (some (.int 37 t_PERCENT)))
    (y_SIGNS : PySem.W.nsIn K mainGlobals "SIGNS" = some (some (.str " !\"#$&'()*+,-./0123456789:;<=>?@ABCDEFGHIJKLMNOPQRSTUVWXYZ[\\]^_`abcdefghijklmnopqrstuvwxyz{|}~" t_SIGNS)))
    (y_RECORD : PySem.W.nsIn K mainGlobals "RECORD" = some (some (.int 75 t_RECORD)))
    (y_PIECE : PySem.W.nsIn K mainGlobals "PIECE" = some (some (.int 24 t_PIECE))) :
    ∃ fd : FuncData, (∀ (s : Shared) (v : Value), BindsTo s fd ⟨[v], []⟩ [("_law_script", v)]) ∧ ∀ base : Heap, K.In base → base.Ns mainGlobals mg → FnOk l.prog w K mg base CX0 4 fa fd ["_law_script"] (sp_law K) := by
  have e := hfa.symm.trans (PySem.W.mg_of X G a11)
  cases e
  have T : Txt K mg := ⟨PySem.W.mg_none_of X G z_any, PySem.W.mg_none_of X G z_int, PySem.W.mg_none_of X G z_len, PySem.W.mg_none_of X G z_list, PySem.W.mg_none_of X G z_ord, PySem.W.mg_none_of X G z_range, ⟨t_PERCENT, PySem.W.mg_of X G y_PERCENT⟩, ⟨t_SIGNS, PySem.W.mg_of X G y_SIGNS⟩, ⟨t_RECORD, PySem.W.mg_of X G y_RECORD⟩, ⟨t_PIECE, PySem.W.mg_of X G y_PIECE⟩, ⟨_, _, PySem.W.mg_of X G a0, fun_mk l0 c0 k0⟩, ⟨_, _, PySem.W.mg_of X G a1, fun_mk l1 c1 k1⟩, ⟨_, _, PySem.W.mg_of X G a2, fun_mk l2 c2 k2⟩, ⟨_, _, PySem.W.mg_of X G a3, fun_mk l3 c3 k3⟩, ⟨_, _, PySem.W.mg_of X G a4, fun_mk l4 c4 k4⟩, ⟨_, _, PySem.W.mg_of X G a5, fun_mk l5 c5 k5⟩, ⟨_, _, PySem.W.mg_of X G a6, fun_mk l6 c6 k6⟩, ⟨_, _, PySem.W.mg_of X G a7, fun_mk l7 c7 k7⟩, ⟨_, _, PySem.W.mg_of X G a8, fun_mk l8 c8 k8⟩, ⟨_, _, PySem.W.mg_of X G a9, fun_mk l9 c9 k9⟩, ⟨_, _, PySem.W.mg_of X G a10, fun_mk l10 c10 k10⟩, ⟨_, _, PySem.W.mg_of X G a11, fun_mk l11 c11 k11⟩⟩
  exact DefOk.end (PySem.W.mg_of X G a11) (fun_mk (st := s_law) l11 c11 k11) (fun s v => .of_eq rfl) fun base => ok_law T
end
end KW
open PySem PySem.W PyProof.Rows
set_option maxRecDepth 100000 in
set_option maxHeartbeats 0 in
theorem PySem.Challenge.cw_keptbywitness_k44_any_block_is_read_so_holds : PySem.Challenge.rw_keptbywitness_k44_any_block_is_read_so.Holds := by
  w_on; o_law; k_head; (case hw => w_witness2)
  k_fill
  refine L2.walk_of (l := PySem.Challenge.rw_keptbywitness_k44_any_block_is_read_so) (n := 63) (k := 4) (x := "_law_script") (CX := fun _ => L2.CX0) (sp := fun w => KW.sp_law _) rfl (by decide) rfl ⟨rfl, by decide, by decide⟩ (fun w h Y => PySem.W.kIn_of Y) ?F (fun _ _ a ns hl _ hS => ⟨(a, ns), rfl, hS, hl, fun _ => rfl⟩) (fun _ _ _ _ _ h => h)
  case F =>
    intro w mg fa h KX G hmg
    refine' KW.all_mk KX G hmg ?a0 ?l0 ?c0 ?k0 ?a1 ?l1 ?c1 ?k1 ?a2 ?l2 ?c2 ?k2 ?a3 ?l3 ?c3 ?k3 ?a4 ?l4 ?c4 ?k4 ?a5 ?l5 ?c5 ?k5 ?a6 ?l6 ?c6 ?k6 ?a7 ?l7 ?c7 ?k7 ?a8 ?l8 ?c8 ?k8 ?a9 ?l9 ?c9 ?k9 ?a10 ?l10 ?c10 ?k10 ?a11 ?l11 ?c11 ?k11 ?z_any ?z_int ?z_len ?z_list ?z_ord ?z_range ?y_PERCENT ?y_SIGNS ?y_RECORD ?y_PIECE
    (case a0 => k_is)
    (case l0 => k_is)
    (case c0 => k_is)
    (case k0 => k_is)
    (case a1 => k_is)
    (case l1 => k_is)
    (case c1 => k_is)
    (case k1 => k_is)
    (case a2 => k_is)
    (case l2 => k_is)
    (case c2 => k_is)
    (case k2 => k_is)
    (case a3 => k_is)
    (case l3 => k_is)
    (case c3 => k_is)
    (case k3 => k_is)
    (case a4 => k_is)
    (case l4 => k_is)
    (case c4 => k_is)
    (case k4 => k_is)
    (case a5 => k_is)
    (case l5 => k_is)
    (case c5 => k_is)
    (case k5 => k_is)
    (case a6 => k_is)
    (case l6 => k_is)
    (case c6 => k_is)
    (case k6 => k_is)
    (case a7 => k_is)
    (case l7 => k_is)
    (case c7 => k_is)
    (case k7 => k_is)
    (case a8 => k_is)
    (case l8 => k_is)
    (case c8 => k_is)
    (case k8 => k_is)
    (case a9 => k_is)
    (case l9 => k_is)
    (case c9 => k_is)
    (case k9 => k_is)
    (case a10 => k_is)
    (case l10 => k_is)
    (case c10 => k_is)
    (case k10 => k_is)
    (case a11 => k_is)
    (case l11 => k_is)
    (case c11 => k_is)
    (case k11 => k_is)
    (case z_any => k_is)
    (case z_int => k_is)
    (case z_len => k_is)
    (case z_list => k_is)
    (case z_ord => k_is)
    (case z_range => k_is)
    (case y_PERCENT => k_is)
    (case y_SIGNS => k_is)
    (case y_RECORD => k_is)
    (case y_PIECE => k_is)

