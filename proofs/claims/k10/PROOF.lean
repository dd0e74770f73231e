import PyProof.Rows.All
import Wide.All
import OpenK.AllK
import Wide.FinOn
import HandS.ForMost
import HandS.SortOrd
import HandS.SortRule
import HandS.TupSets
import HandS.TupLen
import HandS.Deep
import HandS.IsInst
import HandS.WrittenGet
import HandS.Codes
import HandS.Zip
import KE.LtSeq
import HandS.Conv
import HandS.ExcOwn
import HandS.ExcIs
import HandS.ExcCtx
import HandS.HotCalls
import HandS.WordsExc
import PySem.Challenge.RW_onehue_k10_which_refusal
set_option Elab.async false
set_option linter.all false
set_option maxRecDepth 100000
set_option maxHeartbeats 4000000
/-! Onehue: what all the laws' proofs share: tuples of ints in lists, sorted of them, equality of them, small words. -/
namespace Oh
open PySem PySem.Spec PyProof.Rows L2

/-! ### heaps -/
theorem same_new {H : Hp} {p : Addr} (hp : H p = none) (o : HO) : Same H (upd H p o) := fun b u e =>
  (upd_ne (ne_of_none e hp)).trans e
/-- what was told of the heap at the entry stays when an object that is new since then is written -/
theorem same_upd {H H1 : Hp} {p : Addr} (s : Same H H1) (hp : H p = none) (o : HO) : Same H (upd H1 p o) := fun b u e =>
  (upd_ne (ne_of_none e hp)).trans (s b u e)
theorem sl_le {n : Nat} (h : n ≤ 100000) : n ≤ sizeLine := Nat.le_trans h (by decide)
theorem sl0 : 0 ≤ sizeLine := Nat.zero_le _
theorem sl1 : 1 ≤ sizeLine := sl_le (by decide)
theorem sl2 : 2 ≤ sizeLine := sl_le (by decide)
theorem sl3 : 3 ≤ sizeLine := sl_le (by decide)
theorem sl4 : 4 ≤ sizeLine := sl_le (by decide)
theorem sl_lt {n : Nat} (h : n ≤ 100000) : n < sizeLine := Nat.lt_of_le_of_lt h (by decide)

/-! ### rows: tuples of ints -/
abbrev Row := List Int
def rv (r : Row) : List V := r.map V.int
def rd (r : Row) : PyData := .tuple (r.map .int)
abbrev Tups (H : Hp) (rs : List Addr) (ts : List Row) : Prop := Paired (fun r t => H r = some (.tup (rv t))) rs ts
theorem Tups.same {H H' : Hp} (s : Same H H') {rs : List Addr} {ts : List Row} (h : Tups H rs ts) : Tups H' rs ts := Paired.mapP h fun r t e => s _ _ e
theorem Tups.get {H : Hp} : ∀ {rs : List Addr} {ts : List Row} {i : Nat} {r : Addr}, Tups H rs ts → rs[i]? = some r → ∃ t, ts[i]? = some t ∧ H r = some (.tup (rv t))
  | _, _, 0, _, .cons h _, e => ⟨_, rfl, (Option.some.inj e) ▸ h⟩
  | _, _, i + 1, _, .cons _ q, e => Tups.get (i := i) q e
theorem Tups.getV {H : Hp} {rs : List Addr} {ts : List Row} {i : Nat} {x : V} (h : Tups H rs ts) (e : (rs.map V.ref)[i]? = some x) : ∃ r t, x = .ref r ∧ rs[i]? = some r ∧ ts[i]? = some t ∧ H r = some (.tup (rv t)) := by
  rw [List.getElem?_map] at e
  cases q : rs[i]? with
  | none => rw [q] at e; cases e
  | some r =>
    rw [q] at e
    obtain ⟨t, h1, h2⟩ := h.get q
    exact ⟨r, t, (Option.some.inj e).symm, rfl, h1, h2⟩
/-- at p stands a list of tuples -/
def LT (H : Hp) (p : Addr) (ts : List Row) : Prop := ∃ rs : List Addr, H p = some (.lst (rs.map V.ref)) ∧ Tups H rs ts
theorem LT.nil {H : Hp} {p : Addr} (h : H p = some (.lst [])) : LT H p [] := ⟨[], h, .nil⟩
theorem LT.same {H H' : Hp} (s : Same H H') {p : Addr} {ts : List Row} (h : LT H p ts) : LT H' p ts := by
  obtain ⟨rs, e, q⟩ := h
  exact ⟨rs, s _ _ e, q.same s⟩
theorem LT.len {H : Hp} {p : Addr} {ts : List Row} (h : LT H p ts) : ∃ xs, H p = some (.lst xs) ∧ xs.length = ts.length := by
  obtain ⟨rs, e, q⟩ := h
  exact ⟨_, e, by rw [List.length_map]; exact q.length⟩
theorem Tups.upd_lst {H : Hp} {p : Addr} {xs ys : List V} (hp : H p = some (.lst xs)) {rs : List Addr} {ts : List Row} (h : Tups H rs ts) : Tups (upd H p (.lst ys)) rs ts := Paired.mapP h fun r t e => by
  rw [upd_ne (ne_of e hp (by intro z; cases z))]
  exact e
/-- a new tuple is laid and put behind the list -/
theorem LT.push {H : Hp} {p T : Addr} {ts : List Row} {t : Row} {xs : List V} (h : LT H p ts) (e : H p = some (.lst xs)) (hT : H T = none) : LT (upd (upd H T (.tup (rv t))) p (.lst (xs ++ [.ref T]))) p (ts ++ [t]) := by
  obtain ⟨rs, e1, q⟩ := h
  rw [e] at e1
  cases e1
  have hpT : p ≠ T := ne_of_none e hT
  refine ⟨rs ++ [T], by rw [upd_same, List.map_append]; rfl, ?_⟩
  have q1 : Tups (upd H T (.tup (rv t))) rs ts := Tups.same (same_new hT _) q
  have q2 : Tups (upd (upd H T (.tup (rv t))) p (.lst (rs.map V.ref ++ [.ref T]))) rs ts := Tups.upd_lst (by rw [upd_ne hpT]; exact e) q1
  exact q2.snoc (by rw [upd_ne hpT.symm, upd_same])

/-! ### equality of such lists -/
theorem rd_lay0 : ∀ r : List Int, PyData.canLayAll0 (r.map PyData.int) = true
  | [] => by simp [PyData.canLayAll0]
  | i :: r => by simp [PyData.canLayAll0, PyData.canLay0, rd_lay0 r]
theorem rd_dep0 : ∀ r : List Int, PyData.depthAll (r.map PyData.int) ≤ 1
  | [] => by simp [PyData.depthAll]
  | i :: r => by
    have h := rd_dep0 r
    simp only [List.map_cons, PyData.depthAll, PyData.depth]
    omega
theorem rd_lay (r : Row) : (rd r).canLay0 = true := by
  show PyData.canLay0 (.tuple _) = true
  simp only [PyData.canLay0]
  exact rd_lay0 r
theorem rd_dep (r : Row) : (rd r).depth ≤ 2 := by
  have h := rd_dep0 r
  show PyData.depth (.tuple _) ≤ 2
  simp only [PyData.depth]
  omega
theorem rds_lay : ∀ ts : List Row, PyData.canLayAll0 (ts.map rd) = true
  | [] => by simp [PyData.canLayAll0]
  | t :: ts => by simp [PyData.canLayAll0, rd_lay t, rds_lay ts]
theorem rds_dep : ∀ ts : List Row, PyData.depthAll (ts.map rd) ≤ 2
  | [] => by simp [PyData.depthAll]
  | t :: ts => by
    have h1 := rds_dep ts
    have h2 := rd_dep t
    simp only [List.map_cons, PyData.depthAll]
    omega
theorem shaped_of {d : PyData} (h1 : d.canLay0 = true) (h2 : d.depth ≤ 64) : SeqAt.shaped d = true := by
  show (d.canLay0 && decide (d.depth ≤ 64)) = true
  rw [h1, decide_eq_true h2]
  rfl
theorem rd_shaped (r : Row) : SeqAt.shaped (rd r) = true := shaped_of (rd_lay r) (Nat.le_trans (rd_dep r) (by decide))
theorem rds_shaped (ts : List Row) : SeqAt.shaped (.list (ts.map rd)) = true := by
  have h := rds_dep ts
  refine shaped_of (by simp only [PyData.canLay0]; exact rds_lay ts) ?_
  simp only [PyData.depth]
  omega
theorem ints_shaped (r : List Int) : SeqAt.shaped (.list (r.map .int)) = true := by
  have h := rd_dep0 r
  refine shaped_of (by simp only [PyData.canLay0]; exact rd_lay0 r) ?_
  simp only [PyData.depth]
  omega
theorem ints_eqv : ∀ a b : List Int, PyData.eqvAll (a.map .int) (b.map .int) = decide (a = b)
  | [], [] => by simp [PyData.eqvAll]
  | [], _ :: _ => by simp [PyData.eqvAll]
  | _ :: _, [] => by simp [PyData.eqvAll]
  | i :: a, j :: b => by
    have h := ints_eqv a b
    simp only [List.map_cons, PyData.eqvAll, PyData.eqv, h]
    by_cases e : i = j
    · subst e
      by_cases e2 : a = b
      · subst e2
        simp
      · simp [e2]
    · simp [e]
theorem rd_eqv (r t : Row) : PyData.eqv (rd r) (rd t) = decide (r = t) := by
  show PyData.eqv (.tuple _) (.tuple _) = _
  simp only [PyData.eqv]
  exact ints_eqv r t
theorem rds_eqvAll : ∀ a b : List Row, PyData.eqvAll (a.map rd) (b.map rd) = decide (a = b)
  | [], [] => by simp [PyData.eqvAll]
  | [], _ :: _ => by simp [PyData.eqvAll]
  | _ :: _, [] => by simp [PyData.eqvAll]
  | i :: a, j :: b => by
    have h := rds_eqvAll a b
    simp only [List.map_cons, PyData.eqvAll, rd_eqv, h]
    by_cases e : i = j
    · subst e
      by_cases e2 : a = b
      · subst e2
        simp
      · simp [e2]
    · simp [e]
theorem rds_eqv (a b : List Row) : PyData.eqv (.list (a.map rd)) (.list (b.map rd)) = decide (a = b) := by
  simp only [PyData.eqv]
  exact rds_eqvAll a b
theorem lst_eqv (a b : List Int) : PyData.eqv (.list (a.map .int)) (.list (b.map .int)) = decide (a = b) := by
  simp only [PyData.eqv]
  exact ints_eqv a b
section
variable {K : PySem.W.Frag} {H : Hp}
theorem dpInts : ∀ r : List Int, DpAll K H (r.map V.int) (r.map .int)
  | [] => .nil
  | i :: r => .cons (.int i) (dpInts r)
theorem dpRow {a : Addr} {r : Row} (h : H a = some (.tup (rv r))) : Dp K H (.ref a) (rd r) := .tup (SqT.of h) (dpInts r)
theorem dpRows : ∀ {rs : List Addr} {ts : List Row}, Tups H rs ts → DpAll K H (rs.map V.ref) (ts.map rd)
  | _, _, .nil => .nil
  | _, _, .cons h q => .cons (dpRow h) (dpRows q)
theorem LT.dp {p : Addr} {ts : List Row} (h : LT H p ts) : Dp K H (.ref p) (.list (ts.map rd)) := by
  obtain ⟨rs, e, q⟩ := h
  exact .lst (SqL.of e) (dpRows q)
theorem dpIntL {p : Addr} {r : List Int} (h : SqL K H p (r.map V.int)) : Dp K H (.ref p) (.list (r.map .int)) := .lst h (dpInts r)
end

/-! ### sorted of rows that rise already: any number of them -/
def kc (h : Heap) (u : Value) : Int := TS.code 64 (TS.intsOf h u)
def klt (h : Heap) (u v : Value) : Bool := decide (kc h u < kc h v)
theorem klt_swo (h : Heap) : SrtO.Swo (klt h) := by
  refine ⟨fun x y e => ?_, fun x y z e1 e2 => ?_⟩
  · have e' := of_decide_eq_true e
    exact decide_eq_false (by omega)
  · have a := of_decide_eq_false e1
    have b := of_decide_eq_false e2
    exact decide_eq_false (by omega)
section
variable {prog : Program} {w : World} {A : Around} {E : Value → Shared → Prop} {s : Shared}
theorem rows_cmp {g : Heap} {d : Nat} {vs : List Value} (xg : TS.TupsOk g d 64 vs) (k : ∀ b o, g.get? b = some o → o.cls = .type "tuple" → s.heap.get? b = some o) :
    SrtO.Cmp prog w A s (tuples' true) (fun p => p.1 ∈ vs) (SrtO.lt2 (klt g)) := by
  intro p q hp hq
  obtain ⟨ns, tp, lp, bp⟩ := xg _ hp
  obtain ⟨ms, tq, lq, bq⟩ := xg _ hq
  have rp : kc g p.1 = TS.code 64 ns := congrArg (TS.code 64) tp.ints
  have rq : kc g q.1 = TS.code 64 ms := congrArg (TS.code 64) tq.ints
  obtain ⟨a1, xs, e1, ⟨o1, g1, c1, n1, d1⟩, i1⟩ := tp.keeps k
  obtain ⟨a2, ys, e2, ⟨o2, g2, c2, n2, d2⟩, i2⟩ := tq.keeps k
  have fin : (decide (TS.code 64 ns < TS.code 64 ms)) = SrtO.lt2 (klt g) p q := by
    show _ = decide (kc g p.1 < kc g q.1)
    rw [rp, rq]
  rw [e1, e2]
  refine PySem.W.kat_lt g1 d1 g2 d2 ?_
  have z : decide (xs.size < ys.size) = false := by
    have l1 := i1.length
    have l2 := i2.length
    rw [Array.length_toList] at l1 l2
    exact decide_eq_false (by omega)
  rw [z]
  refine TS.lex_ints 0 i1 i2 (by omega) bp bq ⟨rfl, fin⟩
theorem rows_sortable {g : Heap} {a : Addr} {d : Nat} {vs : List Value} (hd : 1 ≤ d) (n0 : 0 < vs.length) (xg : TS.TupsOk g d 64 vs) (k : ∀ b o, g.get? b = some o → o.cls = .type "tuple" → b ≠ a ∧ s.heap.get? b = some o) :
    SrtO.SortableO prog w A s a vs (klt g) := by
  intro h' keep
  have kk : ∀ b o, g.get? b = some o → o.cls = .type "tuple" → h'.get? b = some o := fun b o e c => keep b o (k b o e c).1 (k b o e c).2
  obtain ⟨fs, f1, f2, f3⟩ := TS.firsts_of hd vs (xg.keeps kk)
  refine ⟨tuples' true, fun Q E hq => ?_, rows_cmp (s := { s with heap := h' }) xg kk⟩
  refine PySem.W.kat_kind (T := Value.type "int") f1 (by omega) (fun f hf => ?_) rfl ?_
  · obtain ⟨n, t, rfl⟩ := f3 f hf
    exact PySem.W.Looks.of_pure rfl
  · exact hq
end
/-- sorted(xs), xs a list of rows of d ints in [0, 64) that rise already: a new list of the same tuples -/
def rSortR (K : PySem.W.Frag) (d : Nat) : List V → Hp → VK → Prop := fun vs H Q => ∃ (a : Addr) (rs : List Addr) (ts : List Row), vs = [V.ref a] ∧ SqL K H a (rs.map V.ref) ∧ Tups H rs ts ∧ (∀ t ∈ ts, t.length = d ∧ TS.Bd 64 t) ∧
  ts.Pairwise (fun x y => TS.code 64 x ≤ TS.code 64 y) ∧ ∀ p, H p = none → Q (.ref p) (upd H p (.lst (rs.map V.ref)))
theorem vals_refs : ∀ {rs : List Addr} {us : List Value}, Vals (rs.map V.ref) us → us = rs.map Value.ref
  | [], _, .nil => rfl
  | _ :: _, _, .cons (r : _ = _) q => by
    rw [vals_refs q, r]
    rfl
theorem refs_vals : ∀ rs : List Addr, Vals (rs.map V.ref) (rs.map Value.ref)
  | [] => .nil
  | _ :: rs => .cons rfl (refs_vals rs)
theorem tups_srtd {g : Heap} : ∀ {rs : List Addr} {ts : List Row}, Paired (fun r t => TS.TupInts g (.ref r) t) rs ts → ts.Pairwise (fun x y => TS.code 64 x ≤ TS.code 64 y) → SrtO.Srtd (klt g) (rs.map Value.ref)
  | _, _, .nil, _ => List.Pairwise.nil
  | r :: rs, t :: ts, .cons h q, p => by
    obtain ⟨p1, p2⟩ := List.pairwise_cons.mp p
    refine List.pairwise_cons.mpr ⟨fun u hu => ?_, tups_srtd q p2⟩
    obtain ⟨b, hb, rfl⟩ := List.mem_map.mp hu
    have key : ∀ {rs : List Addr} {ts : List Row}, Paired (fun r t => TS.TupInts g (.ref r) t) rs ts → ∀ b ∈ rs, ∃ t ∈ ts, TS.TupInts g (.ref b) t := by
      intro rs ts q
      induction q with
      | nil => intro b hb; cases hb
      | cons h q ih =>
        intro b hb
        rcases List.mem_cons.mp hb with rfl | hb
        · exact ⟨_, List.mem_cons_self, h⟩
        · obtain ⟨t, ht, e⟩ := ih b hb
          exact ⟨t, List.mem_cons_of_mem _ ht, e⟩
    obtain ⟨t', ht', e'⟩ := key q b hb
    have c := p1 t' ht'
    have e1 : kc g (.ref r) = TS.code 64 t := congrArg (TS.code 64) h.ints
    have e2 : kc g (.ref b) = TS.code 64 t' := congrArg (TS.code 64) e'.ints
    refine decide_eq_false ?_
    rw [e1, e2]
    omega
section
variable {X : Cx}
theorem cr_sortR {d : Nat} (hd : 1 ≤ d) : CallR X (.builtin "sorted") (rSortR X.K d) := by
  intro pins s σ H vs us Q I r h
  obtain ⟨a, rs, ts, rfl, hs, ht, hb, hp, q⟩ := h
  obtain ⟨its, rvv, hl, hz⟩ := I.list hs
  rw [Vals.ref1 r]
  obtain rfl := vals_refs rvv
  have tt : Paired (fun r t => TS.TupInts s.heap (.ref r) t) rs ts := Paired.mapP ht fun r t e => tupI_raw I (SqT.of e)
  have key : ∀ {rs : List Addr} {ts : List Row}, Paired (fun r t => TS.TupInts s.heap (.ref r) t) rs ts → (∀ t ∈ ts, t.length = d ∧ TS.Bd 64 t) → TS.TupsOk s.heap d 64 (rs.map Value.ref) := by
    intro rs ts z
    induction z with
    | nil => intro _ v hv; cases hv
    | cons h z ih =>
      intro hb v hv
      rcases List.mem_cons.mp hv with rfl | hv
      · exact ⟨_, h, hb _ List.mem_cons_self⟩
      · exact ih (fun t m => hb t (List.mem_cons_of_mem _ m)) v hv
  have ok := key tt hb
  have hz' : (rs.map Value.ref).length ≤ sizeLine := by rw [← rvv.length]; exact hz
  refine SrtO.sorted_ord (klt_swo s.heap) hl.isList hz' (fun h2 h1 a' ha' kk => rows_sortable (s := { s with heap := h1 }) hd (by omega) ok fun b o e _ => kk b o e) fun out so bo => ?_
  have eo : out = rs.map Value.ref := SrtO.stb_uniq (klt_swo s.heap) so (tups_srtd tt hp) bo
  subst eo
  obtain ⟨ep, he⟩ := PyProof.Rows.sortedAll_at s.heap (rs.map Value.ref) (rs.map Value.ref).toArray
  exact ⟨.ref _, upd H (s.heap.objs.size + 1) (.lst (rs.map V.ref)), I.laid (t' := s.toks) (fun _ _ => PyProof.Rows.sortedAll_old) (Nat.le_succ _) ⟨hz, _, ep, refs_vals rs, he⟩, rfl, q _ (I.hok.fresh (Nat.le_succ _))⟩
end

/-! ### a def of the text as the top leaves it; what a def keeps, wherever it stands -/
structure Def (K : PySem.W.Frag) (mg : Str → Option Value) (x : Str) (st : Stmt) (ps : List Str) : Prop where
  ex : ∃ (f : Addr) (fd : FuncData), Fun K x x st f fd ∧ (∀ us : List Value, us.length = ps.length → bindArgs fd ⟨us, []⟩ = pure (ps.zip us)) ∧ mg x = some (.ref f)
structure Has (P : Program) (w : World) (K : PySem.W.Frag) (mg : Str → Option Value) (base : Heap) (C : CXT) (k : Nat) (x : Str) (ps : List Str) (sp : Sp) : Prop where
  ex : ∃ (f : Addr) (fd : FuncData), FnOk P w K mg base C k f fd ps sp ∧ (∀ us : List Value, us.length = ps.length → bindArgs fd ⟨us, []⟩ = pure (ps.zip us)) ∧ mg x = some (.ref f) ∧ PySem.W.keepIn K (.ref f) = true ∧ ∃ oc od osl, K.lookup f = some ⟨oc, od, .func fd, osl⟩
section
variable {P : Program} {w : World} {K : PySem.W.Frag} {mg : Str → Option Value} {base : Heap}
theorem Has.mono {C : CXT} {j k : Nat} {x : Str} {ps : List Str} {sp : Sp} (h : Has P w K mg base C j x ps sp) (jk : j ≤ k) : Has P w K mg base C k x ps sp := by
  obtain ⟨f, fd, a, b⟩ := h.ex
  exact ⟨f, fd, a.mono jk, b⟩
theorem Has.imp {C : CXT} {k : Nat} {x : Str} {ps : List Str} {sp sp' : Sp} (h : Has P w K mg base C k x ps sp) (g : ∀ vs H Q E, sp' vs H Q E → sp vs H Q E) : Has P w K mg base C k x ps sp' := by
  obtain ⟨f, fd, a, b⟩ := h.ex
  exact ⟨f, fd, a.imp g, b⟩
theorem Def.ok {x : Str} {st : Stmt} {N ps : List Str} {k : Nat} {sp : Sp} (D : Def K mg x st ps) (S : FnScope N ps (defScope st)) (len : ∀ vs H Q E, sp vs H Q E → vs.length = ps.length)
    (body : ∀ (f : Addr) (cdv : Value) (A : Around) (outer : List Env) (s : Shared) (H : Hp) (vs : List V) (Q : VK) (E : XK), Room k (A.deeper (envOfC x (defScope st) s.heap.objs.size f cdv)) → sp vs H Q E →
      ∃ t, PSs (cxOf CX0 P w K mg base N x (defScope st) f cdv A outer s H E).nox (defBody st) t ∧ t { nx := fun _ H' => Q .non H', rt := Q } (start N vs) H) : Has P w K mg base CX0 (k + 1) x ps sp := by
  obtain ⟨f, fd, F, b, g⟩ := D.ex
  refine ⟨f, fd, F.ok S len (body f), b, g, F.kp, ?_⟩
  obtain ⟨oc, od, _, _, _, _, _, _, osl, _, l, _⟩ := F.ex
  exact ⟨oc, od, osl, l⟩
end
section
variable {X : Cx} {j k : Nat} {x : Str} {ps : List Str} {sp : Sp} {e : Expr} {es : List Expr} {t : TA} {p pos : Pos}
/-- f(e, ..), f a def that lets nothing out -/
theorem pe_cal (h : Has X.prog X.w X.K X.mg X.base CX0 j x ps sp) (hr : Room k X.A) (jk : j ≤ k) (hg : Gl X x) (ha : PA X (e :: es) t)
    (hdb : (x == ("__debug__" : Str)) = false := by decide) (he : starEach (e :: es) X.env = (false, eval e X.env) :: starEach es X.env := by rfl) (hpl : (backTo pos (starEach es X.env)).any (·.1) = false := by rfl) :
    PE X (.Call (.Name x p) (e :: es) [] pos) (tCall sp [] E0 t) := by
  obtain ⟨f, fd, F, b, g, kp, _⟩ := h.ex
  exact pe_call F (hr.mono jk) hg g kp (.all b) .nil pass0 ha hdb he hpl
end
theorem hu65_of {A : Around} {k : Nat} (hr : Room k A) : A.units + 65 < cLine := by
  have := hr.un
  omega
/-- the built-in names that the texts leave alone -/
structure Bl (mg : Str → Option Value) : Prop where
  len : mg "len" = none
  sorted : mg "sorted" = none
  range : mg "range" = none
  isinstance : mg "isinstance" = none
  int : mg "int" = none
  bool : mg "bool" = none
  list : mg "list" = none
  tuple : mg "tuple" = none
  min : mg "min" = none
  max : mg "max" = none
  zip : mg "zip" = none
theorem def_mk {K : PySem.W.Frag} {mg : Str → Option Value} {h : Heap} (X : K.In h) (G : h.Ns mainGlobals mg) {x : Str} {st : Stmt} {ps : List Str} {f : Addr} {od an : Option Addr} {sl : Array (Option Value)} {oc kV dc pm cd ct : Value}
    (a : PySem.W.nsIn K mainGlobals x = some (some (.ref f))) (l : K.lookup f = some ⟨oc, od, .func (PySem.W.fnOf x x (defArgs st) (defBody st) (defScope st) .none kV dc pm an cd ct), sl⟩) (c : PySem.W.codeIn K cd x = true) (k : PySem.W.keepIn K (.ref f) = true)
    (b : ∀ us : List Value, us.length = ps.length → bindArgs (PySem.W.fnOf x x (defArgs st) (defBody st) (defScope st) .none kV dc pm an cd ct) ⟨us, []⟩ = pure (ps.zip us)) : Def K mg x st ps :=
  ⟨f, _, fun_mk l c k, b, PySem.W.mg_of X G a⟩
theorem bl_mk {K : PySem.W.Frag} {mg : Str → Option Value} {h : Heap} (X : K.In h) (G : h.Ns mainGlobals mg) (z1 : PySem.W.nsIn K mainGlobals "len" = some none) (z2 : PySem.W.nsIn K mainGlobals "sorted" = some none) (z3 : PySem.W.nsIn K mainGlobals "range" = some none)
    (z4 : PySem.W.nsIn K mainGlobals "isinstance" = some none) (z5 : PySem.W.nsIn K mainGlobals "int" = some none) (z6 : PySem.W.nsIn K mainGlobals "bool" = some none) (z7 : PySem.W.nsIn K mainGlobals "list" = some none) (z8 : PySem.W.nsIn K mainGlobals "tuple" = some none)
    (z9 : PySem.W.nsIn K mainGlobals "min" = some none) (z10 : PySem.W.nsIn K mainGlobals "max" = some none) (z11 : PySem.W.nsIn K mainGlobals "zip" = some none) : Bl mg :=
  ⟨PySem.W.mg_none_of X G z1, PySem.W.mg_none_of X G z2, PySem.W.mg_none_of X G z3, PySem.W.mg_none_of X G z4, PySem.W.mg_none_of X G z5, PySem.W.mg_none_of X G z6, PySem.W.mg_none_of X G z7, PySem.W.mg_none_of X G z8,
   PySem.W.mg_none_of X G z9, PySem.W.mg_none_of X G z10, PySem.W.mg_none_of X G z11⟩
theorem law_mk {P : Program} {w : World} {K : PySem.W.Frag} {mg : Str → Option Value} {C : CXT} {k : Nat} {st : Stmt} {sp : Sp} {fa : Addr} (D : Def K mg "law" st ["script"]) (hmg : mg "law" = some (.ref fa))
    (h : ∀ base : Heap, K.In base → base.Ns mainGlobals mg → Has P w K mg base C k "law" ["script"] sp) :
    ∃ fd : FuncData, (∀ (s : Shared) (u : Value), BindsTo s fd ⟨[u], []⟩ [("script", u)]) ∧ ∀ base : Heap, K.In base → base.Ns mainGlobals mg → FnOk P w K mg base C k fa fd ["script"] sp := by
  obtain ⟨f, fd, F, b, g⟩ := D.ex
  rw [hmg] at g
  cases g
  refine ⟨fd, fun s u => .of_eq (b [u] rfl), fun base X G => ?_⟩
  obtain ⟨f', fd', F', b', g', k', oc, od, osl, l'⟩ := (h base X G).ex
  rw [hmg] at g'
  cases g'
  have e : fd = fd' := by
    obtain ⟨_, _, _, _, _, _, _, _, _, _, l1, _⟩ := F.ex
    rw [l1] at l'
    injection l' with l2
    injection l2 with _ _ l3 _
    injection l3 with l4
  rw [e]
  exact F'
theorem nd {c : Prop} [Decidable c] (h : ¬ decide c = true) : ¬ c := fun z => h (decide_eq_true z)
/-- another list is written -/
theorem LT.keep {H : Hp} {p r : Addr} {xs ys : List V} {ts : List Row} (h : LT H r ts) (hp : H p = some (.lst xs)) (ne : r ≠ p) : LT (upd H p (.lst ys)) r ts := by
  obtain ⟨rs, e, q⟩ := h
  exact ⟨rs, (upd_ne ne).trans e, Tups.upd_lst hp q⟩
/-- a def that calls itself: by the depth that is left -/
theorem Has.deep {P : Program} {w : World} {K : PySem.W.Frag} {mg : Str → Option Value} {base : Heap} {x : Str} {st : Stmt} {ps : List Str} {L : Nat} {sp : Nat → Sp} (D : Def K mg x st ps) (h0 : ∀ vs H Q E, ¬ sp 0 vs H Q E)
    (hs : ∀ j, Has P w K mg base CX0 (j + L) x ps (sp j) → Has P w K mg base CX0 (j + L + 1) x ps (sp (j + 1))) (N : Nat) : Has P w K mg base CX0 (N + L) x ps (fun vs H Q E => ∃ k, k ≤ N ∧ sp k vs H Q E) := by
  obtain ⟨f, fd, F, b, g⟩ := D.ex
  have lk : ∃ oc od osl, K.lookup f = some ⟨oc, od, .func fd, osl⟩ := by
    obtain ⟨oc, od, _, _, _, _, _, _, osl, _, l, _⟩ := F.ex
    exact ⟨oc, od, osl, l⟩
  have all : ∀ j, Has P w K mg base CX0 (j + L) x ps (sp j) := by
    intro j
    induction j with
    | zero => exact ⟨f, fd, ⟨fun vs H Q E h => absurd h (h0 vs H Q E), fun A outer s H args us vs Q E _ _ _ _ h => absurd h (h0 vs H Q E)⟩, b, g, F.kp, lk⟩
    | succ j ih =>
      have := hs j ih
      rw [show j + L + 1 = j + 1 + L by omega] at this
      exact this
  have fo : ∀ j, j ≤ N → FnOk P w K mg base CX0 (N + L) f fd ps (sp j) := by
    intro j hj
    obtain ⟨f', fd', F', b', g', k', oc, od, osl, l'⟩ := (all j).ex
    rw [g] at g'
    cases g'
    obtain ⟨oc2, od2, osl2, l2⟩ := lk
    rw [l2] at l'
    injection l' with l3
    injection l3 with _ _ l4 _
    injection l4 with l5
    subst l5
    exact F'.mono (by omega)
  refine ⟨f, fd, ⟨fun vs H Q E ⟨j, hj, h⟩ => (fo j hj).len vs H Q E h, fun A outer s H args us vs Q E hr e bd v ⟨j, hj, h⟩ => (fo j hj).run A outer s H args us vs Q E hr e bd v h⟩, b, g, F.kp, lk⟩
end Oh
/-! Onehue: what the program reckons, as plain functions; the law's own way to the triples. -/
namespace Oh
open PySem PySem.Spec PyProof.Rows L2
inductive Kd where
  | pairs | sums | steps
  deriving DecidableEq
def Kd.str : Kd → Str
  | .pairs => "pairs"
  | .sums => "sums"
  | .steps => "steps"
def Kd.bd : Kd → Nat
  | .pairs => 9
  | .sums => 40
  | .steps => 40
theorem Kd.bd40 (kd : Kd) : kd.bd ≤ 40 := by cases kd <;> decide
abbrev Tri := Nat × Nat × Nat
def pl (p : Nat × Nat) : Row := [(p.1 : Int), (p.2 : Int)]
def tl (t : Tri) : Row := [(t.1 : Int), (t.2.1 : Int), (t.2.2 : Int)]
/-- the pairs of n points -/
def rowP (n a : Nat) : List (Nat × Nat) := (List.range (n - (a + 1))).map fun j => (a, a + 1 + j)
def prs (n : Nat) : List (Nat × Nat) := (List.range n).flatMap (rowP n)
def ix (n a b : Nat) : Nat := (prs n).idxOf (a, b)
def cellT (n a b k : Nat) : Tri := (ix n a b, ix n a (b + 1 + k), ix n b (b + 1 + k))
def rowT2 (n a b : Nat) : List Tri := (List.range (n - (b + 1))).map (cellT n a b)
def rowT (n a : Nat) : List Tri := (List.range (n - (a + 1))).flatMap fun j => rowT2 n a (a + 1 + j)
def pt (n : Nat) : List Tri := (List.range n).flatMap (rowT n)
/-- sums and steps, the program's way -/
def cellS (kd : Kd) (n i j : Nat) : List Tri := match kd with
  | .pairs => []
  | .sums => if 2 + 2 * i + j ≤ n then [(i, i + j, 2 * i + j + 1)] else []
  | .steps => if 0 < j ∧ 1 + i + 2 * j ≤ n then [(i, i + j, i + 2 * j)] else []
def rowS (kd : Kd) (n i : Nat) : List Tri := (List.range (n - i)).flatMap (cellS kd n i)
def stp (kd : Kd) (n : Nat) : List Tri := (List.range n).flatMap (rowS kd n)
def trs (kd : Kd) (n : Nat) : List Tri := match kd with
  | .pairs => pt n
  | _ => stp kd n
def many (kd : Kd) (n : Nat) : Nat := match kd with
  | .pairs => (prs n).length
  | _ => n
/-- the law's way -/
def cellL (kd : Kd) (i j : Nat) : List Tri := match kd with
  | .pairs => []
  | .sums => if i ≤ j then [(i, j, 1 + i + j)] else []
  | .steps => if (3 + 2 * i + j) % 2 = 0 then [(i, (3 + 2 * i + j) / 2 - 1, 1 + i + j)] else []
def rowL (kd : Kd) (n i : Nat) : List Tri := (List.range (n - (i + 1))).flatMap (cellL kd i)
def lst (kd : Kd) (n : Nat) : List Tri := (List.range n).flatMap (rowL kd n)
def lpt (n : Nat) : List Tri := (prs n).flatMap fun p => rowT2 n p.1 p.2
def lts (kd : Kd) (n : Nat) : List Tri := match kd with
  | .pairs => lpt n
  | _ => lst kd n

theorem prs9 : ((List.range 10).all fun n => decide ((prs n).length = n * (n - 1) / 2)) = true := by decide +kernel
theorem prs_len {n : Nat} (h : n ≤ 9) : (prs n).length = n * (n - 1) / 2 := by
  have := List.all_eq_true.mp prs9 n (List.mem_range.mpr (by omega))
  exact of_decide_eq_true this
theorem prs_i9 : ((List.range 10).all fun n => decide (((n : Nat) : Int) * ((n : Int) - 1) / 2 = (((prs n).length : Nat) : Int))) = true := by decide +kernel
theorem prs_int {n : Nat} (h : n ≤ 9) : ((n : Nat) : Int) * ((n : Int) - 1) / 2 = (((prs n).length : Nat) : Int) := by
  have := List.all_eq_true.mp prs_i9 n (List.mem_range.mpr (by omega))
  exact of_decide_eq_true this
theorem all_kd {p : Kd → Nat → Bool} (h1 : ((List.range 10).all (p .pairs)) = true) (h2 : ((List.range 41).all (p .sums)) = true) (h3 : ((List.range 41).all (p .steps)) = true) {kd : Kd} {n : Nat} (h : n ≤ kd.bd) : p kd n = true := by
  cases kd with
  | pairs => exact List.all_eq_true.mp h1 n (List.mem_range.mpr (Nat.lt_succ_of_le h))
  | sums => exact List.all_eq_true.mp h2 n (List.mem_range.mpr (Nat.lt_succ_of_le h))
  | steps => exact List.all_eq_true.mp h3 n (List.mem_range.mpr (Nat.lt_succ_of_le h))
/-- the law's way is the program's -/
theorem lts_trs {kd : Kd} {n : Nat} (h : n ≤ kd.bd) : lts kd n = trs kd n := by
  have := all_kd (p := fun kd n => decide (lts kd n = trs kd n)) (by decide +kernel) (by decide +kernel) (by decide +kernel) h
  exact of_decide_eq_true this
/-- rising by a code -/
def tc (t : Tri) : Nat := t.1 * 4096 + t.2.1 * 64 + t.2.2
def asc : List Nat → Bool
  | [] => true
  | [_] => true
  | a :: b :: r => decide (a < b) && asc (b :: r)
theorem asc_pair : ∀ {l : List Nat}, asc l = true → l.Pairwise (· < ·)
  | [], _ => List.Pairwise.nil
  | [_], _ => List.pairwise_singleton _ _
  | a :: b :: r, h => by
    rw [asc, Bool.and_eq_true] at h
    have h1 := of_decide_eq_true h.1
    have ih := asc_pair h.2
    refine List.pairwise_cons.mpr ⟨fun c hc => ?_, ih⟩
    rcases List.mem_cons.mp hc with rfl | hc
    · exact h1
    · exact Nat.lt_trans h1 ((List.pairwise_cons.mp ih).1 c hc)
def okT (m : Nat) (t : Tri) : Bool := decide (t.1 < m) && (decide (t.2.1 < m) && decide (t.2.2 < m))
theorem trs_chk {kd : Kd} {n : Nat} (h : n ≤ kd.bd) : (asc ((trs kd n).map tc) && ((trs kd n).all (okT (many kd n)) && decide (many kd n ≤ 40 ∧ (trs kd n).length ≤ 400))) = true :=
  all_kd (p := fun kd n => (asc ((trs kd n).map tc) && ((trs kd n).all (okT (many kd n)) && decide (many kd n ≤ 40 ∧ (trs kd n).length ≤ 400)))) (by decide +kernel) (by decide +kernel) (by decide +kernel) h
theorem many_le {kd : Kd} {n : Nat} (h : n ≤ kd.bd) : many kd n ≤ 40 := by
  have := trs_chk h
  simp only [Bool.and_eq_true, decide_eq_true_eq] at this
  exact this.2.2.1
theorem trs_le {kd : Kd} {n : Nat} (h : n ≤ kd.bd) : (trs kd n).length ≤ 400 := by
  have := trs_chk h
  simp only [Bool.and_eq_true, decide_eq_true_eq] at this
  exact this.2.2.2
theorem trs_in {kd : Kd} {n : Nat} (h : n ≤ kd.bd) {t : Tri} (ht : t ∈ trs kd n) : t.1 < many kd n ∧ t.2.1 < many kd n ∧ t.2.2 < many kd n := by
  have := trs_chk h
  simp only [Bool.and_eq_true, decide_eq_true_eq] at this
  have := List.all_eq_true.mp this.2.1 t ht
  simp only [okT, Bool.and_eq_true, decide_eq_true_eq] at this
  exact this
theorem tl_code (t : Tri) : TS.code 64 (tl t) = ((tc t : Nat) : Int) := by
  simp only [tl, TS.code, tc, List.length_cons, List.length_nil]
  omega
theorem trs_rise {kd : Kd} {n : Nat} (h : n ≤ kd.bd) : ((trs kd n).map tl).Pairwise (fun x y => TS.code 64 x ≤ TS.code 64 y) := by
  have := trs_chk h
  simp only [Bool.and_eq_true] at this
  have q := asc_pair this.1
  rw [List.pairwise_map] at q
  rw [List.pairwise_map]
  refine q.imp fun {a b} z => ?_
  rw [tl_code, tl_code]
  omega
theorem trs_bd {kd : Kd} {n : Nat} (h : n ≤ kd.bd) : ∀ t ∈ (trs kd n).map tl, t.length = 3 ∧ TS.Bd 64 t := by
  intro t ht
  obtain ⟨u, hu, rfl⟩ := List.mem_map.mp ht
  obtain ⟨a, b, c⟩ := trs_in h hu
  have m := many_le h
  refine ⟨rfl, fun i hi => ?_⟩
  simp only [tl, List.mem_cons, List.not_mem_nil, or_false] at hi
  omega
end Oh
/-! Onehue: more of the mathematics. -/
namespace Oh
open PySem PySem.Spec PyProof.Rows L2
theorem fm_succ {α : Type} (f : Nat → List α) (i : Nat) : (List.range (i + 1)).flatMap f = (List.range i).flatMap f ++ f i := by
  rw [List.range_succ, List.flatMap_append]
  simp
theorem mp_succ {α : Type} (f : Nat → α) (i : Nat) : (List.range (i + 1)).map f = (List.range i).map f ++ [f i] := by
  rw [List.range_succ, List.map_append]
  rfl

/-- GREATEST as the top leaves it -/
structure Gr (K : PySem.W.Frag) (w : World) (mg : Str → Option Value) : Prop where
  ex : ∃ (g : Addr) (es : Array DictEntry) (n : Nat), mg "GREATEST" = some (.ref g) ∧ KDict K w g es n ∧ ∀ kd : Kd, ∃ t, PySem.W.nsIn K g kd.str = some (some (.int kd.bd t))
theorem gr_mk {K : PySem.W.Frag} {w : World} {mg : Str → Option Value} {h : Heap} (X : K.In h) (G : h.Ns mainGlobals mg) {g : Addr} {es : Array DictEntry} {n : Nat} {t1 t2 t3 : Tok}
    (a : PySem.W.nsIn K mainGlobals "GREATEST" = some (some (.ref g))) (l : K.lookup g = some ⟨.type "dict", none, .dict es n, #[]⟩) (hk : PySem.W.KeysLit w.params es.toList) (low : (g == sysModules) = false)
    (p : PySem.W.nsIn K g "pairs" = some (some (.int 9 t1))) (s : PySem.W.nsIn K g "sums" = some (some (.int 40 t2))) (t : PySem.W.nsIn K g "steps" = some (some (.int 40 t3))) : Gr K w mg :=
  ⟨g, es, n, PySem.W.mg_of X G a, ⟨l, hk, low⟩, fun kd => match kd with
    | .pairs => ⟨t1, p⟩
    | .sums => ⟨t2, s⟩
    | .steps => ⟨t3, t⟩⟩
theorem Kd.str_eq (a b : Kd) : decide (V.str a.str = V.str b.str) = decide (a = b) := by cases a <;> cases b <;> decide +kernel
theorem kd_if {kd kd' : Kd} {A B : Prop} (h1 : kd = kd' → A) (h2 : kd ≠ kd' → B) : if decide (V.str kd.str = V.str kd'.str) = true then A else B := by
  rw [Kd.str_eq]
  exact ite2 (fun c => h1 (of_decide_eq_true c)) fun c => h2 fun e => c (decide_eq_true e)
/-- the kinds by their numbers -/
def Kd.no : Kd → Nat
  | .pairs => 0
  | .sums => 1
  | .steps => 2
theorem kd_of_mod (c : Int) : ∃ kd : Kd, c % 3 = (kd.no : Int) := by
  have h1 := Int.emod_nonneg c (show (3 : Int) ≠ 0 by decide)
  have h2 := Int.emod_lt_of_pos c (show (0 : Int) < 3 by decide)
  by_cases a : c % 3 = 0
  · exact ⟨.pairs, a⟩
  · by_cases b : c % 3 = 1
    · exact ⟨.sums, b⟩
    · exact ⟨.steps, by show c % 3 = 2; omega⟩
/-- the dict of pair_numbers -/
def pk (p : Nat × Nat) : List Key := [.inl (p.1 : Int), .inl (p.2 : Int)]
def numK (l : List (Nat × Nat)) : List (List Key × V) := l.zipIdx.map fun q => (pk q.1, V.int (q.2 : Nat))
theorem pk_inj {p q : Nat × Nat} (h : pk p = pk q) : p = q := by
  obtain ⟨a, b⟩ := p
  obtain ⟨c, d⟩ := q
  simp only [pk, List.cons.injEq, Sum.inl.injEq, and_true] at h
  exact Prod.ext (by show a = c; omega) (by show b = d; omega)
theorem numK_len (l : List (Nat × Nat)) : (numK l).length = l.length := by simp [numK]
theorem numK_snoc (l : List (Nat × Nat)) (p : Nat × Nat) : numK (l ++ [p]) = numK l ++ [(pk p, V.int (l.length : Nat))] := by
  simp [numK, List.zipIdx_append]
theorem numK_none {l : List (Nat × Nat)} {p : Nat × Nat} (h : p ∉ l) : valV (numK l) (pk p) = none := by
  cases e : valV (numK l) (pk p) with
  | none => rfl
  | some v =>
    have m := valV_in e
    simp only [numK, List.map_map, List.mem_map] at m
    obtain ⟨q, hq, eq⟩ := m
    have e2 : q.1 = p := pk_inj eq
    have := List.mem_zipIdx hq
    exact absurd (by rw [← e2]; obtain ⟨_, _, z⟩ := this; rw [z]; exact List.getElem_mem _) h
theorem numK_at : ∀ (l : List (Nat × Nat)) (k : Nat) (p : Nat × Nat), p ∈ l → valV ((l.zipIdx k).map fun q => (pk q.1, V.int (q.2 : Nat))) (pk p) = some (.int ((k + l.idxOf p : Nat) : Int))
  | [], _, _, h => by cases h
  | a :: l, k, p, h => by
    rw [List.zipIdx_cons, List.map_cons]
    by_cases e : a = p
    · subst e
      rw [valV_pos rfl, List.idxOf_cons_self]
      rfl
    · rw [valV_neg (fun z => e (pk_inj z)), numK_at l (k + 1) p (by
        rcases List.mem_cons.mp h with z | z
        · exact absurd z.symm e
        · exact z), List.idxOf_cons, show (a == p) = false from beq_eq_false_iff_ne.mpr e]
      show some (V.int ((k + 1 + l.idxOf p : Nat) : Int)) = some (V.int ((k + (l.idxOf p + 1) : Nat) : Int))
      rw [show k + 1 + l.idxOf p = k + (l.idxOf p + 1) by omega]
theorem numK_some {l : List (Nat × Nat)} {p : Nat × Nat} (h : p ∈ l) : valV (numK l) (pk p) = some (.int ((l.idxOf p : Nat) : Int)) := by
  have e := numK_at l 0 p h
  rw [Nat.zero_add] at e
  exact e
theorem mem_rowP {n a : Nat} {p : Nat × Nat} : p ∈ rowP n a ↔ p.1 = a ∧ a < p.2 ∧ p.2 < n := by
  obtain ⟨x, y⟩ := p
  simp only [rowP, List.mem_map, List.mem_range, Prod.mk.injEq]
  constructor
  · rintro ⟨j, h, rfl, rfl⟩
    omega
  · rintro ⟨rfl, h1, h2⟩
    exact ⟨y - (x + 1), by omega, rfl, by omega⟩
theorem mem_prs {n : Nat} {p : Nat × Nat} : p ∈ prs n ↔ p.1 < p.2 ∧ p.2 < n := by
  simp only [prs, List.mem_flatMap, List.mem_range, mem_rowP]
  constructor
  · rintro ⟨a, h, rfl, h1, h2⟩
    exact ⟨h1, h2⟩
  · rintro ⟨h1, h2⟩
    exact ⟨p.1, by omega, rfl, h1, h2⟩
theorem prs_new {n i j : Nat} : ((i, i + 1 + j) : Nat × Nat) ∉ (List.range i).flatMap (rowP n) ++ (List.range j).map (fun j => (i, i + 1 + j)) := by
  intro h
  rcases List.mem_append.mp h with h | h
  · obtain ⟨a, ha, hp⟩ := List.mem_flatMap.mp h
    have e := (mem_rowP.mp hp).1
    have ha := List.mem_range.mp ha
    simp only at e
    omega
  · obtain ⟨a, ha, hp⟩ := List.mem_map.mp h
    have ha := List.mem_range.mp ha
    injection hp with _ e
    omega
theorem prs_upto {n i j : Nat} (hi : i ≤ n) (hj : j ≤ n) : ((List.range i).flatMap (rowP n) ++ (List.range j).map (fun j => (i, i + 1 + j))).length ≤ n * n + n := by
  rw [List.length_append, List.length_map, List.length_range]
  have : ∀ i, ((List.range i).flatMap (rowP n)).length ≤ i * n := by
    intro i
    induction i with
    | zero => simp
    | succ i ih =>
      rw [fm_succ, List.length_append, Nat.succ_mul]
      have : (rowP n i).length ≤ n := by
        rw [rowP, List.length_map, List.length_range]
        omega
      omega
  have h1 := this i
  have h2 : i * n ≤ n * n := Nat.mul_le_mul_right n hi
  omega
theorem idx_spec : ∀ (l : List (Nat × Nat)) (p : Nat × Nat), p ∈ l → l[l.idxOf p]? = some p ∧ ∀ (m : Nat) (q : Nat × Nat), m < l.idxOf p → l[m]? = some q → q ≠ p
  | [], _, h => by cases h
  | a :: l, p, h => by
    by_cases e : a = p
    · subst e
      rw [List.idxOf_cons_self]
      exact ⟨rfl, fun m q hm _ => absurd hm (Nat.not_lt_zero _)⟩
    · have hm : p ∈ l := by
        rcases List.mem_cons.mp h with z | z
        · exact absurd z.symm e
        · exact z
      obtain ⟨i1, i2⟩ := idx_spec l p hm
      rw [List.idxOf_cons, show (a == p) = false from beq_eq_false_iff_ne.mpr e]
      refine ⟨i1, fun m q hm hq => ?_⟩
      cases m with
      | zero => exact (Option.some.inj hq) ▸ e
      | succ m => exact i2 m q (Nat.lt_of_succ_lt_succ hm) hq
theorem pl_inj {p q : Nat × Nat} (h : pl p = pl q) : p = q := by
  obtain ⟨a, b⟩ := p
  obtain ⟨c, d⟩ := q
  simp only [pl, List.cons.injEq, and_true] at h
  exact Prod.ext (by show a = c; omega) (by show b = d; omega)
/-- where a pair stands in the list of the pairs, as data -/
theorem pl_at {l : List (Nat × Nat)} {p : Nat × Nat} (h : p ∈ l) : ((l.map pl).map rd)[l.idxOf p]? = some (rd (pl p)) ∧ PyData.eqv (rd (pl p)) (rd (pl p)) = true ∧
    ∀ (m : Nat) (z : PyData), m < l.idxOf p → ((l.map pl).map rd)[m]? = some z → PyData.eqv z (rd (pl p)) = false := by
  obtain ⟨i1, i2⟩ := idx_spec l p h
  refine ⟨by rw [List.getElem?_map, List.getElem?_map, i1]; rfl, by rw [rd_eqv]; exact decide_eq_true rfl, fun m z hm hz => ?_⟩
  rw [List.getElem?_map, List.getElem?_map] at hz
  cases e : l[m]? with
  | none => rw [e] at hz; cases hz
  | some q =>
    rw [e] at hz
    cases hz
    rw [rd_eqv]
    exact decide_eq_false fun z => i2 m q hm e (pl_inj z)
theorem dget_pair {H : Hp} {d T : Addr} {n a b : Nat} {x y : Int} (e : H d = some (.dT (numK (prs n)))) (eT : H T = some (.tup [.int x, .int y])) (hx : x = (a : Int)) (hy : y = (b : Int)) (h : a < b ∧ b < n) : DGet H d (.ref T) (some (.int (ix n a b : Nat))) := by
  subst hx hy
  have z := DGet.t (k := pk (a, b)) e eT
  rw [numK_some (mem_prs.mpr h)] at z
  exact z
theorem iteC {c : Bool} {A B : Prop} (hc : c = true) (h : A) : if c = true then A else B := by
  rw [hc]
  exact iteT h
theorem iteD {c : Bool} {A B : Prop} (hc : c = false) (h : B) : if c = true then A else B := by
  rw [hc]
  exact iteF h
theorem iteN {c : Bool} {A B : Prop} (hc : c = true) (h : B) : if (!c) = true then A else B := by
  rw [hc]
  exact iteF h
theorem iteNF {c : Bool} {A B : Prop} (hc : c = false) (h : A) : if (!c) = true then A else B := by
  rw [hc]
  exact iteT h
theorem fm_le {α : Type} (f : Nat → List α) (b : Nat) : ∀ i, (∀ k, k < i → (f k).length ≤ b) → ((List.range i).flatMap f).length ≤ i * b
  | 0, _ => by simp
  | i + 1, h => by
    rw [fm_succ, List.length_append, Nat.succ_mul]
    have h1 := fm_le f b i fun k hk => h k (Nat.lt_succ_of_lt hk)
    have h2 := h i (Nat.lt_succ_self i)
    omega
theorem rowT2_le (n a b : Nat) : (rowT2 n a b).length ≤ n := by
  rw [rowT2, List.length_map, List.length_range]
  omega
theorem rowT_le (n a : Nat) : (rowT n a).length ≤ n * n := by
  have h := fm_le (fun j => rowT2 n a (a + 1 + j)) n (n - (a + 1)) fun k _ => rowT2_le n a _
  have h2 : (n - (a + 1)) * n ≤ n * n := Nat.mul_le_mul_right n (Nat.sub_le _ _)
  exact Nat.le_trans h h2
theorem pt_upto {n i j k : Nat} (hn : n ≤ 9) (hi : i ≤ n) (hj : j ≤ n) (hk : k ≤ n) {f : Nat → Tri} : (((List.range i).flatMap (rowT n) ++ (List.range j).flatMap (fun j => rowT2 n i (i + 1 + j))) ++ (List.range k).map f).length ≤ 9 * 9 * 9 + 200 := by
  have h1 := fm_le (rowT n) (n * n) i fun k _ => rowT_le n k
  have h2 := fm_le (fun j => rowT2 n i (i + 1 + j)) n j fun k _ => rowT2_le n i _
  have a1 : n * n ≤ 9 * 9 := Nat.mul_le_mul hn hn
  have a2 : i * (n * n) ≤ 9 * (9 * 9) := Nat.mul_le_mul (by omega) a1
  have a3 : j * n ≤ 9 * 9 := Nat.mul_le_mul (by omega) hn
  rw [List.length_append, List.length_append, List.length_map, List.length_range]
  omega
theorem cellS_le (kd : Kd) (n i j : Nat) : (cellS kd n i j).length ≤ 1 := by
  cases kd with
  | pairs => exact Nat.zero_le _
  | sums =>
    show (if 2 + 2 * i + j ≤ n then [(i, i + j, 2 * i + j + 1)] else []).length ≤ 1
    by_cases h : 2 + 2 * i + j ≤ n
    · rw [if_pos h]
      exact Nat.le_refl 1
    · rw [if_neg h]
      exact Nat.zero_le 1
  | steps =>
    show (if 0 < j ∧ 1 + i + 2 * j ≤ n then [(i, i + j, i + 2 * j)] else []).length ≤ 1
    by_cases h : 0 < j ∧ 1 + i + 2 * j ≤ n
    · rw [if_pos h]
      exact Nat.le_refl 1
    · rw [if_neg h]
      exact Nat.zero_le 1
theorem rowS_le (kd : Kd) (n i : Nat) : (rowS kd n i).length ≤ n := by
  have h := fm_le (cellS kd n i) 1 (n - i) fun k _ => cellS_le kd n i k
  rw [Nat.mul_one] at h
  exact Nat.le_trans h (Nat.sub_le _ _)
theorem stp_upto {kd : Kd} {n i j : Nat} (hn : n ≤ 40) (hi : i ≤ n) (hj : j ≤ n) : ((List.range i).flatMap (rowS kd n) ++ (List.range j).flatMap (cellS kd n i)).length ≤ 100000 := by
  have h1 := fm_le (rowS kd n) n i fun k _ => rowS_le kd n k
  have h2 := fm_le (cellS kd n i) 1 j fun k _ => cellS_le kd n i k
  have a1 : i * n ≤ 40 * 40 := Nat.mul_le_mul (by omega) hn
  rw [List.length_append]
  omega
theorem prs_n9 {n : Nat} (h : n ≤ 9) : (prs n).length ≤ 36 := by
  have := List.all_eq_true.mp (show ((List.range 10).all fun n => decide ((prs n).length ≤ 36)) = true by decide +kernel) n (List.mem_range.mpr (by omega))
  exact of_decide_eq_true this
theorem lpt_upto {n i k a b : Nat} (hn : n ≤ 9) (hk : k ≤ n) : (((prs n).take i).flatMap (fun x => rowT2 n x.1 x.2) ++ (List.range k).map (cellT n a b)).length ≤ 1000 := by
  have : ∀ l : List (Nat × Nat), (l.flatMap fun x => rowT2 n x.1 x.2).length ≤ l.length * 9 := by
    intro l
    induction l with
    | nil => simp
    | cons x l ih =>
      rw [List.flatMap_cons, List.length_append, List.length_cons, Nat.succ_mul]
      have := rowT2_le n x.1 x.2
      omega
  have h1 := this ((prs n).take i)
  have h2 : ((prs n).take i).length ≤ (prs n).length := List.length_take_le' i (prs n)
  have h3 := prs_n9 hn
  rw [List.length_append, List.length_map, List.length_range]
  omega
theorem cellL_le (kd : Kd) (i j : Nat) : (cellL kd i j).length ≤ 1 := by
  cases kd with
  | pairs => exact Nat.zero_le _
  | sums =>
    show (if i ≤ j then [(i, j, 1 + i + j)] else []).length ≤ 1
    by_cases h : i ≤ j
    · rw [if_pos h]
      exact Nat.le_refl 1
    · rw [if_neg h]
      exact Nat.zero_le 1
  | steps =>
    show (if (3 + 2 * i + j) % 2 = 0 then [(i, (3 + 2 * i + j) / 2 - 1, 1 + i + j)] else []).length ≤ 1
    by_cases h : (3 + 2 * i + j) % 2 = 0
    · rw [if_pos h]
      exact Nat.le_refl 1
    · rw [if_neg h]
      exact Nat.zero_le 1
theorem rowL_le (kd : Kd) (n i : Nat) : (rowL kd n i).length ≤ n := by
  have h := fm_le (cellL kd i) 1 (n - (i + 1)) fun k _ => cellL_le kd i k
  rw [Nat.mul_one] at h
  exact Nat.le_trans h (Nat.sub_le _ _)
theorem lst_upto {kd : Kd} {n i j : Nat} (hn : n ≤ 40) (hi : i ≤ n) (hj : j ≤ n) : ((List.range i).flatMap (rowL kd n) ++ (List.range j).flatMap (cellL kd i)).length ≤ 100000 := by
  have h1 := fm_le (rowL kd n) n i fun k _ => rowL_le kd n k
  have h2 := fm_le (cellL kd i) 1 j fun k _ => cellL_le kd i k
  have a1 : i * n ≤ 40 * 40 := Nat.mul_le_mul (by omega) hn
  rw [List.length_append]
  omega
/-- a constant of the module -/
def Cn (mg : Str → Option Value) (x : Str) (i : Int) : Prop := ∃ t : Tok, mg x = some (.int i t)
/-! ### dyeings -/
def mh (hs : List Int) (t : Tri) : Bool := decide (hs.getD t.1 0 = hs.getD t.2.1 0) && decide (hs.getD t.2.1 0 = hs.getD t.2.2 0)
/-- the triples of one hue -/
def mono (hs : List Int) (ts : List Tri) : List Tri := ts.filter (mh hs)
structure Dy (kd : Kd) (n c : Nat) (hs : List Int) : Prop where
  len : hs.length = many kd n
  hue : ∀ h ∈ hs, 0 ≤ h ∧ h < (c : Int)
def Cnt (c : Nat) : Prop := 1 ≤ c ∧ c ≤ 3
def fre (kd : Kd) (n : Nat) (hs : List Int) : Bool := (mono hs (trs kd n)).isEmpty
theorem getV_int {hs : List Int} {k : Nat} (h : k < hs.length) : (hs.map V.int)[k]? = some (.int (hs.getD k 0)) := by
  rw [List.getElem?_map, List.getElem?_eq_getElem h]
  simp [List.getD, List.getElem?_eq_getElem h]
theorem mono_snoc {hs : List Int} {ts : List Tri} {i : Nat} {t : Tri} (h : ts[i]? = some t) : mono hs (ts.take (i + 1)) = mono hs (ts.take i) ++ (if mh hs t = true then [t] else []) := by
  rw [mono, List.take_add_one, h, List.filter_append]
  by_cases c : mh hs t = true
  · simp [mono, c]
  · simp [mono, c]
theorem mono_le (hs : List Int) (ts : List Tri) : (mono hs ts).length ≤ ts.length := List.length_filter_le _ _
theorem mh_ite {hs : List Int} {t : Tri} {A B : Prop} (h : if decide (V.int (hs.getD t.1 0) = V.int (hs.getD t.2.1 0)) = true then (if decide (V.int (hs.getD t.2.1 0) = V.int (hs.getD t.2.2 0)) = true then A else B) else B) : if mh hs t = true then A else B := by
  unfold mh
  by_cases a : hs.getD t.1 0 = hs.getD t.2.1 0
  · rw [if_pos (decide_eq_true (congrArg V.int a))] at h
    by_cases b : hs.getD t.2.1 0 = hs.getD t.2.2 0
    · rw [if_pos (decide_eq_true (congrArg V.int b))] at h
      rw [decide_eq_true a, decide_eq_true b]
      exact iteT h
    · rw [if_neg (fun z => b (V.int.inj (of_decide_eq_true z)))] at h
      rw [decide_eq_false b, Bool.and_false]
      exact iteF h
  · rw [if_neg (fun z => a (V.int.inj (of_decide_eq_true z)))] at h
    rw [decide_eq_false a, Bool.false_and]
    exact iteF h
theorem ite_mh {hs : List Int} {t : Tri} {A B : Prop} (h1 : mh hs t = true → A) (h2 : mh hs t = false → B) : if decide (V.int (hs.getD t.1 0) = V.int (hs.getD t.2.1 0)) = true then (if decide (V.int (hs.getD t.2.1 0) = V.int (hs.getD t.2.2 0)) = true then A else B) else B := by
  unfold mh at h1 h2
  by_cases a : hs.getD t.1 0 = hs.getD t.2.1 0
  · rw [if_pos (decide_eq_true (congrArg V.int a))]
    by_cases b : hs.getD t.2.1 0 = hs.getD t.2.2 0
    · rw [if_pos (decide_eq_true (congrArg V.int b))]
      exact h1 (by rw [decide_eq_true a, decide_eq_true b]; rfl)
    · rw [if_neg (fun z => b (V.int.inj (of_decide_eq_true z)))]
      exact h2 (by rw [decide_eq_false b, Bool.and_false])
  · rw [if_neg (fun z => a (V.int.inj (of_decide_eq_true z)))]
    exact h2 (by rw [decide_eq_false a, Bool.false_and])
theorem fre_len (kd : Kd) (n : Nat) (hs : List Int) : decide (V.int ((((mono hs (trs kd n)).length : Nat)) : Int) = V.int 0) = fre kd n hs := by
  unfold fre
  cases e : mono hs (trs kd n) with
  | nil => exact decide_eq_true rfl
  | cons a l =>
    refine decide_eq_false fun z => ?_
    have z' := V.int.inj z
    rw [List.length_cons] at z'
    omega
theorem cnt_of (x : Int) : ∃ c : Nat, Cnt c ∧ 1 + x % 3 = (c : Int) := by
  have h1 := Int.emod_nonneg x (show (3 : Int) ≠ 0 by decide)
  have h2 := Int.emod_lt_of_pos x (show (0 : Int) < 3 by decide)
  exact ⟨(1 + x % 3).toNat, ⟨by omega, by omega⟩, by omega⟩
end Oh
/-! Onehue: free dyeings, searched and counted. -/
namespace Oh
open PySem PySem.Spec PyProof.Rows L2
/-- for each thing the two others of the triples in which it is the last -/
def blp (kd : Kd) (n i : Nat) : List (Nat × Nat) := ((trs kd n).filter fun t => decide (t.2.2 = i)).map fun t => (t.1, t.2.1)
def fitP (hs : List Int) (x : Int) (p : Nat × Nat) : Bool := !(decide (hs.getD p.1 0 = x) && decide (hs.getD p.2 0 = x))
def fit (hs : List Int) (ps : List (Nat × Nat)) (x : Int) : Bool := ps.all (fitP hs x)
/-- the first free dyeing that begins so, k things being left -/
def ff (f : Nat → List (Nat × Nat)) (c : Nat) : Nat → List Int → Option (List Int)
  | 0, hs => some hs
  | k + 1, hs => (List.range c).findSome? fun h : Nat => if fit hs (f hs.length) h = true then ff f c k (hs ++ [(h : Int)]) else none
def cf (f : Nat → List (Nat × Nat)) (c : Nat) : Nat → List Int → Nat
  | 0, _ => 1
  | k + 1, hs => ((List.range c).map fun h : Nat => if fit hs (f hs.length) h = true then cf f c k (hs ++ [(h : Int)]) else 0).sum
def ffr (kd : Kd) (n c : Nat) : Option (List Int) := ff (blp kd n) c (many kd n) []
def cfr (kd : Kd) (n c : Nat) : Nat := cf (blp kd n) c (many kd n) []
/-- in a triple the last thing stands behind the others -/
theorem trs_last_chk {kd : Kd} {n : Nat} (h : n ≤ kd.bd) : ((trs kd n).all fun t => decide (t.1 < t.2.2 ∧ t.2.1 < t.2.2)) = true :=
  all_kd (p := fun kd n => (trs kd n).all fun t => decide (t.1 < t.2.2 ∧ t.2.1 < t.2.2)) (by decide +kernel) (by decide +kernel) (by decide +kernel) h
theorem trs_last {kd : Kd} {n : Nat} (h : n ≤ kd.bd) {t : Tri} (ht : t ∈ trs kd n) : t.1 < t.2.2 ∧ t.2.1 < t.2.2 :=
  of_decide_eq_true (List.all_eq_true.mp (trs_last_chk h) t ht)
theorem blp_lt {kd : Kd} {n i : Nat} (h : n ≤ kd.bd) {p : Nat × Nat} (hp : p ∈ blp kd n i) : p.1 < i ∧ p.2 < i := by
  obtain ⟨t, ht, rfl⟩ := List.mem_map.mp hp
  obtain ⟨h1, h2⟩ := List.mem_filter.mp ht
  have e := of_decide_eq_true h2
  have l := trs_last h h1
  rw [e] at l
  exact l
theorem blp_le (kd : Kd) (n i : Nat) : (blp kd n i).length ≤ (trs kd n).length := by
  unfold blp
  rw [List.length_map]
  exact List.length_filter_le _ _
/-- a list of lists of rows -/
def LLT (H : Hp) (p : Addr) (m : Nat) (f : Nat → List Row) : Prop := ∃ ls : List Addr, H p = some (.lst (ls.map V.ref)) ∧ ls.length = m ∧ ∀ (i : Nat) (l : Addr), ls[i]? = some l → LT H l (f i)
theorem LLT.same {H H' : Hp} (s : Same H H') {p : Addr} {m : Nat} {f : Nat → List Row} (h : LLT H p m f) : LLT H' p m f := by
  obtain ⟨ls, e, l, k⟩ := h
  exact ⟨ls, s _ _ e, l, fun i x q => (k i x q).same s⟩
theorem fs_succ {α : Type} (g : Nat → Option α) (i : Nat) (h : (List.range i).findSome? g = none) : (List.range (i + 1)).findSome? g = g i := by
  rw [List.range_succ, List.findSome?_append, h]
  cases e : g i <;> simp [List.findSome?_cons, e]
theorem fs_found {α : Type} (g : Nat → Option α) {i c : Nat} (hi : i < c) (h : (List.range i).findSome? g = none) {r : α} (e : g i = some r) : (List.range c).findSome? g = some r := by
  obtain ⟨d, rfl⟩ := Nat.exists_eq_add_of_lt hi
  have : List.range (i + d + 1) = List.range (i + 1) ++ (List.range d).map (i + 1 + ·) := by
    rw [show i + d + 1 = i + 1 + d by omega, List.range_add]
  rw [this, List.findSome?_append, fs_succ g i h, e]
  rfl
theorem fit_all {hs : List Int} {x : Int} {ps : List (Nat × Nat)} {i : Nat} {p : Nat × Nat} (h : ps[i]? = some p) (hp : fitP hs x p = false) : fit hs ps x = false := by
  unfold fit
  rw [List.all_eq_false]
  exact ⟨p, List.mem_of_getElem? h, by rw [hp]; decide⟩
end Oh
/-! Onehue: all free dyeings, gone through. -/
namespace Oh
open PySem PySem.Spec PyProof.Rows L2
/-- all free dyeings that begin so, k things being left, in order -/
def ext (f : Nat → List (Nat × Nat)) (c : Nat) : Nat → List Int → List (List Int)
  | 0, hs => [hs]
  | k + 1, hs => (List.range c).flatMap fun h : Nat => if fit hs (f hs.length) h = true then ext f c k (hs ++ [(h : Int)]) else []
/-- one thing more -/
def stC (f : Nat → List (Nat × Nat)) (hs : List Int) (h : Nat) : List (List Int) := if fit hs (f hs.length) h = true then [hs ++ [(h : Int)]] else []
def stp1 (f : Nat → List (Nat × Nat)) (c : Nat) (hs : List Int) : List (List Int) := (List.range c).flatMap (stC f hs)
def af (f : Nat → List (Nat × Nat)) (c : Nat) : Nat → List (List Int)
  | 0 => [[]]
  | i + 1 => (af f c i).flatMap (stp1 f c)
variable {f : Nat → List (Nat × Nat)} {c : Nat}
theorem ext_stp1 (k : Nat) (hs : List Int) : ext f c (k + 1) hs = (stp1 f c hs).flatMap (ext f c k) := by
  unfold stp1
  rw [List.flatMap_assoc]
  show (List.range c).flatMap _ = (List.range c).flatMap _
  congr 1
  funext h
  unfold stC
  by_cases q : fit hs (f hs.length) h = true
  · rw [if_pos q, if_pos q, List.flatMap_singleton]
  · rw [if_neg q, if_neg q]
    rfl
theorem af_ext : ∀ (i k : Nat), (af f c i).flatMap (ext f c k) = ext f c (i + k) []
  | 0, k => by
    show ([[]] : List (List Int)).flatMap (ext f c k) = _
    rw [List.flatMap_singleton, Nat.zero_add]
  | i + 1, k => by
    show ((af f c i).flatMap (stp1 f c)).flatMap (ext f c k) = _
    rw [List.flatMap_assoc]
    have e : (fun hs => (stp1 f c hs).flatMap (ext f c k)) = ext f c (k + 1) := funext fun hs => (ext_stp1 k hs).symm
    rw [e, af_ext i (k + 1)]
    congr 1
    omega
theorem af_eq (m : Nat) : af f c m = ext f c m [] := by
  have h := af_ext (f := f) (c := c) m 0
  rw [Nat.add_zero] at h
  rw [← h]
  have e : ext f c 0 = fun hs => [hs] := rfl
  rw [e]
  simp
theorem af_len : ∀ i, ∀ hs ∈ af f c i, hs.length = i
  | 0, hs, h => by
    rw [af, List.mem_singleton] at h
    rw [h]
    rfl
  | i + 1, hs, h => by
    rw [af, List.mem_flatMap] at h
    obtain ⟨g, hg, hh⟩ := h
    have l := af_len i g hg
    rw [stp1, List.mem_flatMap] at hh
    obtain ⟨x, _, hx⟩ := hh
    unfold stC at hx
    split at hx
    · rw [List.mem_singleton.mp hx, List.length_append, l]
      rfl
    · cases hx
theorem stp1_le (hs : List Int) : (stp1 f c hs).length ≤ c := by
  have := fm_le (stC f hs) 1 c fun k _ => by
    unfold stC
    split
    · exact Nat.le_refl 1
    · exact Nat.zero_le 1
  show ((List.range c).flatMap (stC f hs)).length ≤ c
  omega
theorem fml_le {α β : Type} (g : α → List β) (b : Nat) (h : ∀ x, (g x).length ≤ b) : ∀ l : List α, (l.flatMap g).length ≤ l.length * b
  | [] => by simp
  | a :: l => by
    rw [List.flatMap_cons, List.length_append, List.length_cons, Nat.succ_mul]
    have := fml_le g b h l
    have := h a
    omega
theorem af_le : ∀ i, (af f c i).length ≤ c ^ i
  | 0 => by simp [af]
  | i + 1 => by
    have h := fml_le (stp1 f c) c stp1_le (af f c i)
    have := af_le i
    rw [Nat.pow_succ]
    exact Nat.le_trans h (Nat.mul_le_mul_right c this)
theorem pow_le {c i : Nat} (h1 : 1 ≤ c) (h3 : c ≤ 3) (hi : i ≤ 15) : c ^ i ≤ 14348907 := by
  have a : c ^ i ≤ 3 ^ i := Nat.pow_le_pow_left h3 i
  have b : 3 ^ i ≤ 3 ^ 15 := Nat.pow_le_pow_right (by decide) hi
  have e : (3 : Nat) ^ 15 = 14348907 := by decide
  omega
theorem sl_big {n : Nat} (h : n ≤ 14348907) : n < sizeLine := Nat.lt_of_le_of_lt h (by decide)
theorem cf_ext : ∀ (k : Nat) (hs : List Int), cf f c k hs = (ext f c k hs).length
  | 0, _ => rfl
  | k + 1, hs => by
    show ((List.range c).map _).sum = ((List.range c).flatMap _).length
    rw [List.length_flatMap]
    congr 1
    refine List.map_congr_left fun h _ => ?_
    by_cases q : fit hs (f hs.length) h = true
    · rw [if_pos q, if_pos q, cf_ext k]
    · rw [if_neg q, if_neg q]
      rfl
theorem ff_ext : ∀ (k : Nat) (hs : List Int), ff f c k hs = (ext f c k hs).head?
  | 0, _ => rfl
  | k + 1, hs => by
    show (List.range c).findSome? _ = ((List.range c).flatMap _).head?
    rw [List.head?_flatMap]
    congr 1
    funext h
    by_cases q : fit hs (f hs.length) h = true
    · rw [if_pos q, if_pos q, ff_ext k]
    · rw [if_neg q, if_neg q]
      rfl
/-! ### the law's look at a dyeing -/
def badT (hs : List Int) (t : Tri) : Bool := decide (t.2.2 = hs.length - 1) && (decide (hs.getD t.1 0 = hs.getD (hs.length - 1) 0) && decide (hs.getD t.2.1 0 = hs.getD (hs.length - 1) 0))
def bads (hs : List Int) (ts : List Tri) : List Tri := ts.filter (badT hs)
theorem getD_left {g : List Int} {x : Int} {i : Nat} (h : i < g.length) : (g ++ [x]).getD i 0 = g.getD i 0 := by
  simp [List.getD, List.getElem?_append_left h]
theorem getD_last (g : List Int) (x : Int) : (g ++ [x]).getD g.length 0 = x := by
  simp [List.getD]
theorem bads_fit {kd : Kd} {n : Nat} (hn : n ≤ kd.bd) (g : List Int) (x : Int) : decide ((bads (g ++ [x]) (trs kd n)).length = 0) = fit g (blp kd n g.length) x := by
  have lg : (g ++ [x]).length - 1 = g.length := by simp
  have key : ∀ t ∈ trs kd n, badT (g ++ [x]) t = true ↔ (t.2.2 = g.length ∧ fitP g x (t.1, t.2.1) = false) := by
    intro t ht
    have l := trs_last hn ht
    unfold badT fitP
    rw [lg, getD_last]
    by_cases e : t.2.2 = g.length
    · rw [getD_left (by omega), getD_left (by omega), decide_eq_true e, Bool.true_and]
      simp [e]
    · rw [decide_eq_false e, Bool.false_and]
      simp [e]
  unfold fit
  by_cases z : ((blp kd n g.length).all (fitP g x)) = true
  · rw [z, decide_eq_true_eq]
    refine List.length_eq_zero_iff.mpr (List.filter_eq_nil_iff.mpr fun t ht hb => ?_)
    obtain ⟨e, b⟩ := (key t ht).mp hb
    have m : (t.1, t.2.1) ∈ blp kd n g.length := List.mem_map.mpr ⟨t, List.mem_filter.mpr ⟨ht, decide_eq_true e⟩, rfl⟩
    have := List.all_eq_true.mp z _ m
    rw [b] at this
    cases this
  · have z : ((blp kd n g.length).all (fitP g x)) = false := by simpa using z
    rw [z, decide_eq_false_iff_not]
    intro h
    rw [List.all_eq_false] at z
    obtain ⟨p, hp, hb⟩ := z
    obtain ⟨t, ht, rfl⟩ := List.mem_map.mp hp
    obtain ⟨h1, h2⟩ := List.mem_filter.mp ht
    have b : badT (g ++ [x]) t = true := (key t h1).mpr ⟨of_decide_eq_true h2, by simpa using hb⟩
    have := List.filter_eq_nil_iff.mp (List.length_eq_zero_iff.mp h) t h1
    exact this b
/-! ### a list of lists of numbers -/
def LL (H : Hp) (p : Addr) (xss : List (List Int)) : Prop := ∃ ls : List Addr, H p = some (.lst (ls.map V.ref)) ∧ Paired (fun l xs => H l = some (.lst (xs.map V.int))) ls xss
theorem LL.same {H H' : Hp} (s : Same H H') {p : Addr} {xss : List (List Int)} (h : LL H p xss) : LL H' p xss := by
  obtain ⟨ls, e, q⟩ := h
  exact ⟨ls, s _ _ e, Paired.mapP q fun _ _ z => s _ _ z⟩
theorem LL.len {H : Hp} {p : Addr} {xss : List (List Int)} (h : LL H p xss) : ∃ xs, H p = some (.lst xs) ∧ xs.length = xss.length := by
  obtain ⟨ls, e, q⟩ := h
  exact ⟨_, e, by rw [List.length_map]; exact q.length⟩
theorem pair_get {α β : Type} {R : α → β → Prop} : ∀ {as : List α} {bs : List β} {i : Nat} {a : α}, Paired R as bs → as[i]? = some a → ∃ b, bs[i]? = some b ∧ R a b
  | _, _, 0, _, .cons h _, e => ⟨_, rfl, (Option.some.inj e) ▸ h⟩
  | _, _, i + 1, _, .cons _ q, e => pair_get (i := i) q e
/-- a new list behind the others -/
theorem LL.push {H : Hp} {p T : Addr} {xss : List (List Int)} {xs : List Int} {ys : List V} (h : LL H p xss) (e : H p = some (.lst ys)) (hT : H T = some (.lst (xs.map V.int))) (ne : T ≠ p) (nin : ∀ ls : List Addr, H p = some (.lst (ls.map V.ref)) → p ∉ ls) : LL (upd H p (.lst (ys ++ [.ref T]))) p (xss ++ [xs]) := by
  obtain ⟨ls, e1, q⟩ := h
  have np := nin ls e1
  rw [e] at e1
  cases e1
  refine ⟨ls ++ [T], by rw [upd_same, List.map_append]; rfl, ?_⟩
  have q1 : Paired (fun l xs => (upd H p (.lst (ls.map V.ref ++ [.ref T]))) l = some (.lst (xs.map V.int))) ls xss := by
    have : ∀ (ls : List Addr) (xss : List (List Int)) (o : HO), p ∉ ls → Paired (fun l xs => H l = some (.lst (xs.map V.int))) ls xss → Paired (fun l xs => (upd H p o) l = some (.lst (xs.map V.int))) ls xss := by
      intro ls xss o np q
      induction q with
      | nil => exact .nil
      | cons h q ih =>
        refine .cons ?_ (ih fun m => np (List.mem_cons_of_mem _ m))
        rw [upd_ne (fun z => np (by rw [← z]; exact List.mem_cons_self))]
        exact h
    exact this ls xss _ np q
  exact q1.snoc (by rw [upd_ne ne]; exact hT)
theorem refs_inj : ∀ {ls ms : List Addr}, ls.map V.ref = ms.map V.ref → ls = ms
  | [], [], _ => rfl
  | [], _ :: _, h => by cases h
  | _ :: _, [], h => by cases h
  | l :: ls, m :: ms, h => by
    rw [List.map_cons, List.map_cons] at h
    injection h with h1 h2
    injection h1 with h1
    rw [h1, refs_inj h2]
theorem af_room {f : Nat → List (Nat × Nat)} {c i j k : Nat} {hs : List Int} (h1 : 1 ≤ c) (h3 : c ≤ 3) (hi : i < 15) (hj : j < (af f c i).length) (hk : k ≤ c) : (((af f c i).take j).flatMap (stp1 f c) ++ (List.range k).flatMap (stC f hs)).length ≤ 14348907 := by
  have z1 := fml_le (stp1 f c) c (fun x => stp1_le x) ((af f c i).take j)
  have z2 := af_le (f := f) (c := c) i
  have z3 := fm_le (stC f hs) 1 k fun x _ => by
    unfold stC
    split
    · exact Nat.le_refl 1
    · exact Nat.zero_le 1
  rw [List.length_take, Nat.min_eq_left (Nat.le_of_lt hj)] at z1
  have z4 := pow_le h1 h3 (show i + 1 ≤ 15 by omega)
  rw [Nat.pow_succ] at z4
  have z5 : (j + 1) * c ≤ c ^ i * c := Nat.mul_le_mul_right c (by omega)
  rw [Nat.succ_mul] at z5
  rw [List.length_append]
  omega
def b7 : Kd → Nat
  | .pairs => 6
  | _ => 15
def t6 : Kd → Nat
  | .pairs => 6
  | .sums => 5
  | .steps => 9
theorem many15 {kd : Kd} {n : Nat} (h : n ≤ b7 kd) : n ≤ kd.bd ∧ many kd n ≤ 15 := by
  cases kd with
  | pairs =>
    have h : n ≤ 6 := h
    have := of_decide_eq_true (List.all_eq_true.mp (show ((List.range 7).all fun n => decide ((prs n).length ≤ 15)) = true by decide +kernel) n (List.mem_range.mpr (by omega)))
    exact ⟨Nat.le_trans h (by decide), this⟩
  | sums =>
    have h : n ≤ 15 := h
    exact ⟨Nat.le_trans h (by decide), h⟩
  | steps =>
    have h : n ≤ 15 := h
    exact ⟨Nat.le_trans h (by decide), h⟩
def b6 (c : Nat) : Kd → Nat
  | .pairs => if c = 3 then 4 else 5
  | _ => if c = 3 then 8 else 10
theorem good6 {kd : Kd} {n c : Nat} (h : n ≤ b6 c kd) : n ≤ kd.bd ∧ many kd n ≤ 15 ∧ (c = 3 → many kd n ≤ 8) := by
  cases kd with
  | pairs =>
    have h : n ≤ if c = 3 then 4 else 5 := h
    have h5 : n ≤ 5 := by split at h <;> omega
    obtain ⟨a, b⟩ := many15 (kd := .pairs) (n := n) (show n ≤ 6 by omega)
    refine ⟨a, b, fun e => ?_⟩
    rw [if_pos e] at h
    have := of_decide_eq_true (List.all_eq_true.mp (show ((List.range 5).all fun n => decide ((prs n).length ≤ 8)) = true by decide +kernel) n (List.mem_range.mpr (by omega)))
    exact this
  | sums =>
    have h : n ≤ if c = 3 then 8 else 10 := h
    have h5 : n ≤ 10 := by split at h <;> omega
    exact ⟨Nat.le_trans h5 (by decide), Nat.le_trans h5 (by decide), fun e => by rw [if_pos e] at h; exact h⟩
  | steps =>
    have h : n ≤ if c = 3 then 8 else 10 := h
    have h5 : n ≤ 10 := by split at h <;> omega
    exact ⟨Nat.le_trans h5 (by decide), Nat.le_trans h5 (by decide), fun e => by rw [if_pos e] at h; exact h⟩
end Oh
/-! Onehue: the first free dyeing; lists in order. -/
namespace Oh
open PySem PySem.Spec PyProof.Rows L2
/-! ### a < b of two lists of numbers, as long as each other -/
def listLt (ns ms : List Int) : Bool := SeqAt.firstLt (fun j => decide (ns.getD j 0 = ms.getD j 0)) (fun j => decide (ns.getD j 0 < ms.getD j 0)) (decide (ns.length < ms.length)) (List.range (min ns.length ms.length))
def rLtL (K : PySem.W.Frag) : R2 := fun x y H Q => ∃ (a b : Addr) (ns ms : List Int), x = .ref a ∧ y = .ref b ∧ SqL K H a (ns.map V.int) ∧ SqL K H b (ms.map V.int) ∧ Q (.bl (listLt ns ms)) H
theorem item_int {ns : List Int} {its : List Value} (r : Vals (ns.map V.int) its) {j : Nat} (h : j < its.toArray.size) : ∃ t, its.toArray[j] = .int (ns.getD j 0) t := by
  have hl : j < ns.length := by
    have e := r.length
    rw [List.length_map] at e
    rw [List.size_toArray] at h
    omega
  obtain ⟨u, h1, t, h2⟩ := Vals.get r (getV_int hl)
  refine ⟨t, ?_⟩
  have e : its.toArray[j]? = some its.toArray[j] := Array.getElem?_eq_getElem h
  rw [List.getElem?_toArray, h1] at e
  rw [← Option.some.inj e, h2]
theorem op_ltL {X : Cx} (hu : X.A.units < cLine) : OpR X (compareOp .Lt) (rLtL X.K) := by
  intro pins s σ H x y v u Q I rx ry h
  obtain ⟨a, b, ns, ms, rfl, rfl, ha, hb, q⟩ := h
  cases rx
  cases ry
  obtain ⟨is, r1, p1, z1⟩ := I.list ha
  obtain ⟨js, r2, p2, z2⟩ := I.list hb
  have l1 : is.toArray.size = ns.length := by
    have e := r1.length
    rw [List.length_map] at e
    rw [List.size_toArray, e]
  have l2 : js.toArray.size = ms.length := by
    have e := r2.length
    rw [List.length_map] at e
    rw [List.size_toArray, e]
  have z := SeqAt.RcLt.lists (A := X.A) (s := s) (e := fun j => decide (ns.getD j 0 = ms.getD j 0)) (r := fun j => decide (ns.getD j 0 < ms.getD j 0)) p1.isList p2.isList hu (fun j h1 h2 => by
    obtain ⟨t1, e1⟩ := item_int r1 h1
    obtain ⟨t2, e2⟩ := item_int r2 h2
    rw [e1, e2]
    have w := SeqAt.EqAt.int_int (ns.getD j 0) t1 (ms.getD j 0) t2 (A := X.A.in1) (s := s)
    rw [Bool.beq_eq_decide_eq] at w
    exact w) (fun j h1 h2 _ => by
    obtain ⟨t1, e1⟩ := item_int r1 h1
    obtain ⟨t2, e2⟩ := item_int r2 h2
    rw [e1, e2]
    exact fun prog w E Q h => PyProof.Rows.lt_int h)
  rw [l1, l2] at z
  exact z X.prog X.w X.xe _ ⟨.bl (listLt ns ms), H, I, rfl, q⟩
/-! ### which are the free ones -/
/-- from the k-th thing on it fits -/
def okFrom (f : Nat → List (Nat × Nat)) (k : Nat) (x : List Int) : Prop := ∀ i, k ≤ i → i < x.length → fit (x.take i) (f i) (x.getD i 0) = true
def inR (c : Nat) (g : List Int) : Prop := ∀ y ∈ g, 0 ≤ y ∧ y < (c : Int)
variable {f : Nat → List (Nat × Nat)} {c : Nat}
theorem mem_ext : ∀ (k : Nat) (hs x : List Int), x ∈ ext f c k hs ↔ ∃ g, x = hs ++ g ∧ g.length = k ∧ inR c g ∧ okFrom f hs.length x
  | 0, hs, x => by
    rw [ext, List.mem_singleton]
    constructor
    · rintro rfl
      exact ⟨[], (List.append_nil x).symm, rfl, (fun _ z => by cases z), fun i h1 h2 => absurd h2 (by omega)⟩
    · rintro ⟨g, e, l, _, _⟩
      rw [e, List.eq_nil_of_length_eq_zero l, List.append_nil]
  | k + 1, hs, x => by
    rw [ext, List.mem_flatMap]
    constructor
    · rintro ⟨h, hh, hx⟩
      have hh := List.mem_range.mp hh
      split at hx
      · rename_i F
        obtain ⟨g, e, l, r, o⟩ := (mem_ext k (hs ++ [(h : Int)]) x).mp hx
        refine ⟨(h : Int) :: g, by rw [e, List.append_assoc]; rfl, by rw [List.length_cons, l], fun y hy => ?_, fun i h1 h2 => ?_⟩
        · rcases List.mem_cons.mp hy with rfl | hy
          · omega
          · exact r y hy
        · by_cases z : i = hs.length
          · subst z
            have e1 : x.take hs.length = hs := by
              rw [e, List.append_assoc, List.take_left']
              rfl
            have e2 : x.getD hs.length 0 = (h : Int) := by
              rw [e]
              simp [List.getD]
            rw [e1, e2]
            exact F
          · exact o i (by rw [List.length_append, List.length_singleton]; omega) h2
      · cases hx
    · rintro ⟨g, e, l, r, o⟩
      cases g with
      | nil => cases l
      | cons y g =>
        obtain ⟨y0, y1⟩ := r y List.mem_cons_self
        have ey : ((y.toNat : Nat) : Int) = y := Int.toNat_of_nonneg y0
        have F := o hs.length (Nat.le_refl _) (by rw [e, List.length_append, List.length_cons]; omega)
        have e1 : x.take hs.length = hs := by
          rw [e, List.take_left']
          rfl
        have e2 : x.getD hs.length 0 = y := by
          rw [e]
          simp [List.getD]
        rw [e1, e2] at F
        refine ⟨y.toNat, List.mem_range.mpr (by omega), ?_⟩
        rw [ey, if_pos F]
        refine (mem_ext k (hs ++ [y]) x).mpr ⟨g, by rw [e, List.append_assoc]; rfl, by rw [List.length_cons] at l; omega, fun z hz => r z (List.mem_cons_of_mem _ hz), fun i h1 h2 => o i ?_ h2⟩
        rw [List.length_append, List.length_singleton] at h1
        omega
/-- the first is none that the other does not reach or stands ahead of -/
def Ahead (r y : List Int) : Prop := r = y ∨ ∃ i, i < r.length ∧ r.take i = y.take i ∧ r.getD i 0 < y.getD i 0
theorem take_mid (hs g : List Int) (x : Int) : (hs ++ [x] ++ g).take hs.length = hs := by
  rw [List.append_assoc, List.take_left']
  rfl
theorem getD_mid (hs g : List Int) (x : Int) : (hs ++ [x] ++ g).getD hs.length 0 = x := by
  simp [List.getD]
theorem head_ahead : ∀ (k : Nat) (hs r y : List Int), (ext f c k hs).head? = some r → y ∈ ext f c k hs → Ahead r y
  | 0, hs, r, y, h, m => by
    rw [ext] at h m
    rw [List.mem_singleton] at m
    cases h
    exact .inl m.symm
  | k + 1, hs, r, y, h, m => by
    rw [ext] at h m
    rw [List.head?_flatMap, List.findSome?_eq_some_iff] at h
    obtain ⟨l1, a, l2, e, ha, hn⟩ := h
    rw [List.mem_flatMap] at m
    obtain ⟨b, hb, my⟩ := m
    have la : l1.length = a := by
      have this : (List.range c)[l1.length]? = (l1 ++ a :: l2)[l1.length]? := by rw [e]
      rw [List.getElem?_append_right (Nat.le_refl _), Nat.sub_self, List.getElem?_cons_zero] at this
      have h2 := (List.getElem?_eq_some_iff.mp this).1
      rw [List.length_range] at h2
      rw [List.getElem?_range h2] at this
      exact Option.some.inj this
    have mem1 : ∀ x, x < a → x ∈ l1 := by
      intro x hx
      have h2 : (List.range c)[x]? = some x := List.getElem?_range (by
        have h3 := congrArg List.length e
        rw [List.length_range, List.length_append, List.length_cons] at h3
        omega)
      rw [e, List.getElem?_append_left (by omega)] at h2
      exact List.mem_of_getElem? h2
    split at my
    · rename_i F
      split at ha
      · rename_i G
        rcases Nat.lt_trichotomy a b with q | q | q
        · -- r begins with the lesser hue
          obtain ⟨g, er, _, _, _⟩ := (mem_ext k _ r).mp (List.mem_of_mem_head? (by rw [ha]; rfl))
          obtain ⟨g', ey, _, _, _⟩ := (mem_ext k _ y).mp my
          refine .inr ⟨hs.length, by rw [er, List.length_append, List.length_append, List.length_singleton]; omega, ?_, ?_⟩
          · rw [er, ey, take_mid, take_mid]
          · rw [er, ey, getD_mid, getD_mid]
            omega
        · subst q
          exact head_ahead k _ r y ha my
        · have z := hn b (mem1 b q)
          rw [if_pos F] at z
          rw [List.head?_eq_none_iff] at z
          rw [z] at my
          cases my
      · cases ha
    · cases my
/-! ### free, by the triples -/
theorem fre_ok {kd : Kd} {n : Nat} {x : List Int} (hn : n ≤ kd.bd) (hl : x.length = many kd n) : fre kd n x = true ↔ okFrom (blp kd n) 0 x := by
  unfold fre
  rw [List.isEmpty_iff, mono, List.filter_eq_nil_iff]
  have tk : ∀ (i j : Nat), j < i → (x.take i).getD j 0 = x.getD j 0 := by
    intro i j h
    simp [List.getD, List.getElem?_take, h]
  constructor
  · intro h i _ hi
    unfold fit
    rw [List.all_eq_true]
    intro p hp
    obtain ⟨t, ht, rfl⟩ := List.mem_map.mp hp
    obtain ⟨h1, h2⟩ := List.mem_filter.mp ht
    have e := of_decide_eq_true h2
    have l := trs_last hn h1
    rw [e] at l
    have q := h t h1
    unfold fitP
    rw [tk i _ l.1, tk i _ l.2]
    cases z : (decide (x.getD t.1 0 = x.getD i 0) && decide (x.getD t.2.1 0 = x.getD i 0)) with
    | false => rfl
    | true =>
      refine absurd ?_ q
      rw [Bool.and_eq_true, decide_eq_true_eq, decide_eq_true_eq] at z
      unfold mh
      rw [e, decide_eq_true (show x.getD t.1 0 = x.getD t.2.1 0 by rw [z.1, z.2]), decide_eq_true z.2]
      rfl
  · intro h t ht m
    have l := trs_last hn ht
    have b := trs_in hn ht
    have F := h t.2.2 (Nat.zero_le _) (by omega)
    unfold fit at F
    rw [List.all_eq_true] at F
    have q := F (t.1, t.2.1) (List.mem_map.mpr ⟨t, List.mem_filter.mpr ⟨ht, decide_eq_true rfl⟩, rfl⟩)
    unfold fitP at q
    rw [tk _ _ l.1, tk _ _ l.2] at q
    unfold mh at m
    rw [Bool.and_eq_true, decide_eq_true_eq, decide_eq_true_eq] at m
    rw [decide_eq_true (show x.getD t.1 0 = x.getD t.2.2 0 by rw [m.1, m.2]), decide_eq_true m.2] at q
    cases q
theorem mem_free {kd : Kd} {n c : Nat} {x : List Int} (hn : n ≤ kd.bd) : x ∈ ext (blp kd n) c (many kd n) [] ↔ Dy kd n c x ∧ fre kd n x = true := by
  rw [mem_ext]
  constructor
  · rintro ⟨g, e, l, r, o⟩
    rw [List.nil_append] at e
    subst e
    exact ⟨⟨l, r⟩, (fre_ok hn l).mpr o⟩
  · rintro ⟨d, h⟩
    exact ⟨x, rfl, d.len, d.hue, (fre_ok hn d.len).mp h⟩
theorem ffr_head (kd : Kd) (n c : Nat) : ffr kd n c = (ext (blp kd n) c (many kd n) []).head? := ff_ext _ _
theorem ffr_none {kd : Kd} {n c : Nat} {x : List Int} (hn : n ≤ kd.bd) (h : ffr kd n c = none) (d : Dy kd n c x) : fre kd n x = false := by
  rw [ffr_head, List.head?_eq_none_iff] at h
  cases e : fre kd n x with
  | false => rfl
  | true =>
    have m := (mem_free (c := c) hn).mpr ⟨d, e⟩
    rw [h] at m
    cases m
theorem ffr_some {kd : Kd} {n c : Nat} {r : List Int} (hn : n ≤ kd.bd) (h : ffr kd n c = some r) : Dy kd n c r ∧ fre kd n r = true ∧ ∀ y, Dy kd n c y → fre kd n y = true → Ahead r y := by
  rw [ffr_head] at h
  obtain ⟨a, b⟩ := (mem_free hn).mp (List.mem_of_mem_head? (by rw [h]; rfl))
  exact ⟨a, b, fun y d e => head_ahead _ _ r y h ((mem_free hn).mpr ⟨d, e⟩)⟩
/-- a list with the lesser item at i, alike before -/
theorem not_ahead {r y : List Int} {i : Nat} (hi : i < r.length) (ht : y.take i = r.take i) (hl : y.getD i 0 < r.getD i 0) : ¬ Ahead r y := by
  rintro (rfl | ⟨j, hj, tj, lj⟩)
  · omega
  · have at_ : ∀ (a b : List Int) (k m : Nat), a.take m = b.take m → k < m → a.getD k 0 = b.getD k 0 := by
      intro a b k m e h
      have := congrArg (fun l => l[k]?) e
      simp only [List.getElem?_take, h, if_true] at this
      simp only [List.getD, this]
    rcases Nat.lt_trichotomy i j with q | q | q
    · have := at_ r y i j tj q
      omega
    · subst q
      omega
    · have := at_ y r j i ht q
      omega
theorem firstLt_cut {e r : Nat → Bool} : ∀ l : List Nat, SeqAt.firstLt e r false l = true → ∃ l1 j l2, l = l1 ++ j :: l2 ∧ (∀ k ∈ l1, e k = true) ∧ e j = false ∧ r j = true
  | [], h => by cases h
  | j :: t, h => by
    cases z : e j with
    | false =>
      rw [SeqAt.firstLt_no z] at h
      exact ⟨[], j, t, rfl, (fun _ m => by cases m), z, h⟩
    | true =>
      rw [SeqAt.firstLt_yes z] at h
      obtain ⟨l1, k, l2, e1, h1, h2, h3⟩ := firstLt_cut t h
      refine ⟨j :: l1, k, l2, by rw [e1]; rfl, fun m hm => ?_, h2, h3⟩
      rcases List.mem_cons.mp hm with rfl | hm
      · exact z
      · exact h1 m hm
theorem lt_ahead {r y : List Int} (hl : y.length = r.length) (h : Ahead r y) : listLt y r = false := by
  cases z : listLt y r with
  | false => rfl
  | true =>
    exfalso
    unfold listLt at z
    rw [hl, decide_eq_false (Nat.lt_irrefl _), Nat.min_self] at z
    obtain ⟨l1, j, l2, e, h1, h2, h3⟩ := firstLt_cut _ z
    have hj : j < r.length := List.mem_range.mp (by rw [e]; exact List.mem_append_right _ List.mem_cons_self)
    have lj : l1.length = j := by
      have this : (List.range r.length)[l1.length]? = (l1 ++ j :: l2)[l1.length]? := by rw [e]
      rw [List.getElem?_append_right (Nat.le_refl _), Nat.sub_self, List.getElem?_cons_zero] at this
      have h2 := (List.getElem?_eq_some_iff.mp this).1
      rw [List.length_range] at h2
      rw [List.getElem?_range h2] at this
      exact Option.some.inj this
    have al : ∀ k, k < j → y.getD k 0 = r.getD k 0 := by
      intro k hk
      have h2 : (List.range r.length)[k]? = some k := List.getElem?_range (by omega)
      rw [e, List.getElem?_append_left (by omega)] at h2
      exact of_decide_eq_true (h1 k (List.mem_of_getElem? h2))
    refine not_ahead hj ?_ (of_decide_eq_true h3) h
    refine List.ext_getElem? fun k => ?_
    rw [List.getElem?_take, List.getElem?_take]
    by_cases hk : k < j
    · rw [if_pos hk, if_pos hk]
      have a := al k hk
      simp only [List.getD] at a
      rw [List.getElem?_eq_getElem (show k < y.length by omega), List.getElem?_eq_getElem (show k < r.length by omega)] at a ⊢
      exact congrArg some a
    · rw [if_neg hk, if_neg hk]
/-! ### slices -/
theorem cutV_to (xs : List V) (k : Nat) (h : k ≤ xs.length) : cutV xs none (some (k : Int)) = xs.take k := by
  unfold cutV
  rw [HT.sIx_none, HT.sIx_nat, Nat.min_eq_left h]
  simp
theorem cutV_from (xs : List V) (k : Nat) (h : k ≤ xs.length) : cutV xs (some (k : Int)) none = xs.drop k := by
  unfold cutV
  rw [HT.sIx_none, HT.sIx_nat, Nat.min_eq_left h]
  exact List.take_of_length_le (by rw [List.length_drop]; omega)
/-- the first one's beginning, a lesser hue, the drawn one's end -/
def mixd (r d : List Int) (i : Nat) (v : Int) : List Int := r.take i ++ [v] ++ d.drop (i + 1)
theorem mixd_dy {kd : Kd} {n c : Nat} {r d : List Int} (hr : Dy kd n c r) (hd : Dy kd n c d) {i : Nat} (hi : i < many kd n) {v : Int} (h0 : 0 ≤ v) (h1 : v < r.getD i 0) : Dy kd n c (mixd r d i v) := by
  have lr := hr.len
  have ld := hd.len
  have ri : r.getD i 0 < (c : Int) := by
    have e : r.getD i 0 = r[i] := by simp [List.getD, List.getElem?_eq_getElem (show i < r.length by omega)]
    rw [e]
    exact (hr.hue _ (List.getElem_mem _)).2
  refine ⟨?_, fun h hh => ?_⟩
  · unfold mixd
    rw [List.length_append, List.length_append, List.length_take, List.length_drop, List.length_singleton]
    omega
  · unfold mixd at hh
    rcases List.mem_append.mp hh with hh | hh
    · rcases List.mem_append.mp hh with hh | hh
      · exact hr.hue h (List.mem_of_mem_take hh)
      · rw [List.mem_singleton.mp hh]
        omega
    · exact hd.hue h (List.mem_of_mem_drop hh)
theorem mixd_not {kd : Kd} {n c : Nat} {r d : List Int} (hr : Dy kd n c r) {i : Nat} (hi : i < many kd n) {v : Int} (h1 : v < r.getD i 0) : ¬ Ahead r (mixd r d i v) := by
  have lr := hr.len
  have lt : (r.take i).length = i := by
    rw [List.length_take]
    omega
  refine not_ahead (i := i) (by omega) ?_ ?_
  · unfold mixd
    rw [List.append_assoc, List.take_append_of_le_length (by omega), List.take_of_length_le (by omega)]
  · have e : (mixd r d i v).getD i 0 = v := by
      unfold mixd
      have := getD_mid (r.take i) (d.drop (i + 1)) v
      rw [lt] at this
      exact this
    rw [e]
    exact h1
end Oh
/-! Onehue: lesser sizes. -/
namespace Oh
open PySem PySem.Spec PyProof.Rows L2
/-- where the things of the lesser size stand among those of the greater one -/
def pla (kd : Kd) (n l : Nat) : List Nat := match kd with
  | .pairs => (prs l).map fun p => (prs n).idxOf p
  | _ => List.range l
def inPl (pl : List Nat) (t : Tri) : Bool := decide (t.1 ∈ pl) && (decide (t.2.1 ∈ pl) && decide (t.2.2 ∈ pl))
def idx3 (pl : List Nat) (t : Tri) : Tri := (pl.idxOf t.1, pl.idxOf t.2.1, pl.idxOf t.2.2)
def plc3 (pl : List Nat) (t : Tri) : Tri := (pl.getD t.1 0, pl.getD t.2.1 0, pl.getD t.2.2 0)
def ltL (l : Nat) (t : Tri) : Bool := decide (t.1 < l) && (decide (t.2.1 < l) && decide (t.2.2 < l))
theorem less_p : ((List.range 10).all fun n => (List.range (n + 1)).all fun l => decide ((trs .pairs n).filter (inPl (pla .pairs n l)) = (trs .pairs l).map (plc3 (pla .pairs n l)))
    && ((trs .pairs l).all fun t => decide (idx3 (pla .pairs n l) (plc3 (pla .pairs n l) t) = t)) && ((pla .pairs n l).all fun k => decide (k < (prs n).length))) = true := by decide +kernel
theorem less_s : ((List.range 41).all fun n => (List.range (n + 1)).all fun l => decide ((stp .sums n).filter (ltL l) = stp .sums l)) = true := by decide +kernel
theorem less_t : ((List.range 41).all fun n => (List.range (n + 1)).all fun l => decide ((stp .steps n).filter (ltL l) = stp .steps l)) = true := by decide +kernel
theorem range_idx : ∀ (l x : Nat), x < l → (List.range l).idxOf x = x := by
  intro l x h
  have hm : x ∈ List.range l := List.mem_range.mpr h
  have hl : (List.range l).idxOf x < (List.range l).length := List.idxOf_lt_length_of_mem hm
  have e := List.getElem_idxOf hl
  rw [List.getElem_range] at e
  exact e
theorem range_getD {l x : Nat} (h : x < l) : (List.range l).getD x 0 = x := by
  simp [List.getD, List.getElem?_range h]
theorem less_all {kd : Kd} {n l : Nat} (hn : n ≤ kd.bd) (hl : l ≤ n) : (trs kd n).filter (inPl (pla kd n l)) = (trs kd l).map (plc3 (pla kd n l)) ∧ (∀ t ∈ trs kd l, idx3 (pla kd n l) (plc3 (pla kd n l) t) = t) ∧ (∀ k ∈ pla kd n l, k < many kd n) ∧ (pla kd n l).length = many kd l := by
  have gen : ∀ kd : Kd, kd ≠ .pairs → n ≤ kd.bd → (stp kd n).filter (ltL l) = stp kd l → trs kd n = stp kd n → trs kd l = stp kd l → pla kd n l = List.range l → many kd l = l → many kd n = n →
      (trs kd n).filter (inPl (pla kd n l)) = (trs kd l).map (plc3 (pla kd n l)) ∧ (∀ t ∈ trs kd l, idx3 (pla kd n l) (plc3 (pla kd n l) t) = t) ∧ (∀ k ∈ pla kd n l, k < many kd n) ∧ (pla kd n l).length = many kd l := by
    intro kd _ hn e1 e2 e3 e4 e5 e6
    rw [e4, e5, e6]
    have hf : ∀ t ∈ trs kd l, plc3 (List.range l) t = t ∧ idx3 (List.range l) t = t := by
      intro t ht
      obtain ⟨a, b, c⟩ := trs_in (Nat.le_trans hl hn) ht
      rw [e5] at a b c
      unfold plc3 idx3
      rw [range_getD a, range_getD b, range_getD c, range_idx _ _ a, range_idx _ _ b, range_idx _ _ c]
      exact ⟨rfl, rfl⟩
    refine ⟨?_, fun t ht => ?_, fun k hk => ?_, List.length_range⟩
    · have : inPl (List.range l) = ltL l := by
        funext t
        simp only [inPl, ltL, List.mem_range]
      rw [this, e2, e1, ← e3]
      have m : (trs kd l).map (plc3 (List.range l)) = (trs kd l).map id := List.map_congr_left fun t ht => (hf t ht).1
      rw [m, List.map_id]
    · rw [(hf t ht).1, (hf t ht).2]
    · have := List.mem_range.mp hk
      omega
  cases kd with
  | pairs =>
    have n9 : n ≤ 9 := hn
    have h := List.all_eq_true.mp (List.all_eq_true.mp less_p n (List.mem_range.mpr (by omega))) l (List.mem_range.mpr (by omega))
    simp only [Bool.and_eq_true, decide_eq_true_eq] at h
    obtain ⟨⟨h1, h2⟩, h3⟩ := h
    refine ⟨h1, fun t ht => of_decide_eq_true (List.all_eq_true.mp h2 t ht), fun k hk => of_decide_eq_true (List.all_eq_true.mp h3 k hk), ?_⟩
    exact List.length_map _
  | sums =>
    have n4 : n ≤ 40 := hn
    have h := of_decide_eq_true (List.all_eq_true.mp (List.all_eq_true.mp less_s n (List.mem_range.mpr (by omega))) l (List.mem_range.mpr (by omega)))
    exact gen .sums (by decide) hn h rfl rfl rfl rfl rfl
  | steps =>
    have n4 : n ≤ 40 := hn
    have h := of_decide_eq_true (List.all_eq_true.mp (List.all_eq_true.mp less_t n (List.mem_range.mpr (by omega))) l (List.mem_range.mpr (by omega)))
    exact gen .steps (by decide) hn h rfl rfl rfl rfl rfl
/-- the dyeing of the lesser size -/
def part (hs : List Int) (pl : List Nat) : List Int := pl.map fun k => hs.getD k 0
theorem part_getD {hs : List Int} {pl : List Nat} {i : Nat} (h : i < pl.length) : (part hs pl).getD i 0 = hs.getD (pl.getD i 0) 0 := by
  simp [part, List.getD, List.getElem?_eq_getElem h]
theorem part_dy {kd : Kd} {n l c : Nat} {hs : List Int} (hn : n ≤ kd.bd) (hl : l ≤ n) (d : Dy kd n c hs) : Dy kd l c (part hs (pla kd n l)) := by
  obtain ⟨_, _, h3, h4⟩ := less_all hn hl
  refine ⟨by rw [part, List.length_map, h4], fun h hh => ?_⟩
  obtain ⟨k, hk, rfl⟩ := List.mem_map.mp hh
  have := h3 k hk
  rw [← d.len] at this
  have e : hs.getD k 0 = hs[k] := by simp [List.getD, List.getElem?_eq_getElem this]
  rw [e]
  exact d.hue _ (List.getElem_mem this)
theorem less_mono {kd : Kd} {n l c : Nat} {hs : List Int} (hn : n ≤ kd.bd) (hl : l ≤ n) (d : Dy kd n c hs) :
    mono (part hs (pla kd n l)) (trs kd l) = ((mono hs (trs kd n)).filter (inPl (pla kd n l))).map (idx3 (pla kd n l)) := by
  obtain ⟨h1, h2, h3, h4⟩ := less_all hn hl
  unfold mono
  rw [List.filter_filter]
  have sw : (fun a => inPl (pla kd n l) a && mh hs a) = (fun a => mh hs a && inPl (pla kd n l) a) := funext fun a => Bool.and_comm _ _
  rw [sw, ← List.filter_filter, h1, List.filter_map, List.map_map]
  have e1 : (trs kd l).filter (mh hs ∘ plc3 (pla kd n l)) = (trs kd l).filter (mh (part hs (pla kd n l))) := by
    refine List.filter_congr fun t ht => ?_
    obtain ⟨a, b, c⟩ := trs_in (Nat.le_trans hl hn) ht
    rw [← h4] at a b c
    show mh hs (plc3 _ t) = _
    unfold mh plc3
    rw [part_getD a, part_getD b, part_getD c]
  rw [e1]
  have m : ((trs kd l).filter (mh (part hs (pla kd n l)))).map (idx3 (pla kd n l) ∘ plc3 (pla kd n l)) = ((trs kd l).filter (mh (part hs (pla kd n l)))).map id := List.map_congr_left fun t ht => h2 t (List.mem_filter.mp ht).1
  rw [m, List.map_id]
theorem less_free {kd : Kd} {n l c : Nat} {hs : List Int} (hn : n ≤ kd.bd) (hl : l ≤ n) (d : Dy kd n c hs) (f : fre kd n hs = true) : fre kd l (part hs (pla kd n l)) = true := by
  unfold fre at f ⊢
  rw [less_mono hn hl d]
  rw [List.isEmpty_iff] at f
  rw [f]
  rfl
/-! ### in and index of a list of numbers -/
theorem nat_in (pl : List Nat) (x : Nat) : inV (.int (x : Int)) (pl.map fun k : Nat => V.int (k : Int)) = decide (x ∈ pl) := by
  induction pl with
  | nil => rfl
  | cons a pl ih =>
    show (((a : Int) == (x : Int)) || inV (.int (x : Int)) (pl.map fun k : Nat => V.int (k : Int))) = _
    rw [ih]
    by_cases e : a = x
    · subst e
      simp
    · have e1 : ((a : Int) == (x : Int)) = false := by
        rw [beq_eq_false_iff_ne]
        omega
      rw [e1, Bool.false_or]
      have : (x ∈ a :: pl) ↔ x ∈ pl := by
        rw [List.mem_cons]
        exact ⟨fun h => h.resolve_left fun z => e z.symm, Or.inr⟩
      exact decide_eq_decide.mpr this.symm
theorem nat_flat (pl : List Nat) : (pl.map fun k : Nat => V.int (k : Int)).all flatV = true := by
  rw [List.all_map]
  exact List.all_eq_true.mpr fun _ _ => rfl
theorem nat_first : ∀ (l : List Nat) (x m y : Nat), m < l.idxOf x → l[m]? = some y → y ≠ x
  | [], _, _, _, h, e => by simp at e
  | a :: l, x, m, y, h, e => by
    by_cases c : a = x
    · rw [c, List.idxOf_cons_self] at h
      exact absurd h (Nat.not_lt_zero _)
    · rw [List.idxOf_cons, show (a == x) = false from beq_eq_false_iff_ne.mpr c] at h
      cases m with
      | zero => exact (Option.some.inj e) ▸ c
      | succ m => exact nat_first l x m y (Nat.lt_of_succ_lt_succ h) e
theorem nat_at {pl : List Nat} {x : Nat} (h : x ∈ pl) : (pl.map fun k : Nat => V.int (k : Int))[pl.idxOf x]? = some (.int (x : Int)) ∧ eqV (.int (x : Int)) (.int (x : Int)) = true ∧
    ∀ (m : Nat) (z : V), m < pl.idxOf x → (pl.map fun k : Nat => V.int (k : Int))[m]? = some z → eqV z (.int (x : Int)) = false := by
  have hl := List.idxOf_lt_length_of_mem h
  refine ⟨?_, ?_, fun m z hm hz => ?_⟩
  · rw [List.getElem?_map, List.getElem?_eq_getElem hl, List.getElem_idxOf hl]
    rfl
  · show ((x : Int) == (x : Int)) = true
    simp
  · rw [List.getElem?_map, List.getElem?_eq_getElem (by omega)] at hz
    cases hz
    show ((pl[m] : Int) == (x : Int)) = false
    rw [beq_eq_false_iff_ne]
    intro e
    exact nat_first pl x m pl[m] hm (List.getElem?_eq_getElem (by omega)) (by omega)
end Oh
/-! Onehue: the least sizes of which no dyeing is free. -/
namespace Oh
open PySem PySem.Spec PyProof.Rows L2
def fsz : Kd → Nat → Nat
  | .pairs, 1 => 3
  | .pairs, _ => 6
  | .sums, 1 => 2
  | .sums, 2 => 5
  | .sums, _ => 14
  | .steps, 1 => 3
  | .steps, _ => 9
/-- the counts of hues of which a first size is told -/
def Fcs (kd : Kd) (c : Nat) : Prop := c = 1 ∨ c = 2 ∨ (c = 3 ∧ kd = .sums)
def fszOk (kd : Kd) (c : Nat) : Bool := (List.range (fsz kd c)).all (fun i => (ffr kd i c).isSome) && (ffr kd (fsz kd c) c).isNone
theorem fsz_p1 : fszOk .pairs 1 = true := by decide +kernel
theorem fsz_s1 : fszOk .sums 1 = true := by decide +kernel
theorem fsz_t1 : fszOk .steps 1 = true := by decide +kernel
theorem fsz_s2 : fszOk .sums 2 = true := by decide +kernel
theorem fsz_t2 : fszOk .steps 2 = true := by decide +kernel
theorem fsz_p2 : fszOk .pairs 2 = true := by decide +kernel
theorem fsz_s3 : fszOk .sums 3 = true := by decide +kernel
theorem fsz_ok {kd : Kd} {c : Nat} (h : Fcs kd c) : fszOk kd c = true := by
  rcases h with rfl | rfl | ⟨rfl, rfl⟩
  · cases kd
    · exact fsz_p1
    · exact fsz_s1
    · exact fsz_t1
  · cases kd
    · exact fsz_p2
    · exact fsz_s2
    · exact fsz_t2
  · exact fsz_s3
theorem Fcs.cnt {kd : Kd} {c : Nat} (h : Fcs kd c) : Cnt c := by
  rcases h with rfl | rfl | ⟨rfl, rfl⟩ <;> exact ⟨by decide, by decide⟩
theorem fsz_some {kd : Kd} {c i : Nat} (h : Fcs kd c) (hi : i < fsz kd c) : ∃ r, ffr kd i c = some r := by
  have z := fsz_ok h
  unfold fszOk at z
  rw [Bool.and_eq_true] at z
  exact Option.isSome_iff_exists.mp (List.all_eq_true.mp z.1 i (List.mem_range.mpr hi))
theorem fsz_none {kd : Kd} {c : Nat} (h : Fcs kd c) : ffr kd (fsz kd c) c = none := by
  have z := fsz_ok h
  unfold fszOk at z
  rw [Bool.and_eq_true] at z
  exact Option.isNone_iff_eq_none.mp z.2
theorem fsz_bd {kd : Kd} {c i : Nat} (h : Fcs kd c) (hi : i ≤ fsz kd c) : i ≤ kd.bd ∧ many kd i ≤ 15 ∧ 1 ≤ fsz kd c ∧ fsz kd c ≤ kd.bd := by
  have key : ((List.range (fsz kd c + 1)).all fun i => decide (i ≤ kd.bd ∧ many kd i ≤ 15 ∧ 1 ≤ fsz kd c ∧ fsz kd c ≤ kd.bd)) = true := by
    rcases h with rfl | rfl | ⟨rfl, rfl⟩
    · cases kd <;> decide +kernel
    · cases kd <;> decide +kernel
    · decide +kernel
  exact of_decide_eq_true (List.all_eq_true.mp key i (List.mem_range.mpr (by omega)))
/-- of a size not less than the first one none is free -/
theorem fsz_not {kd : Kd} {c n : Nat} {d : List Int} (h : Fcs kd c) (hn : n ≤ kd.bd) (hl : fsz kd c ≤ n) (dd : Dy kd n c d) : fre kd n d = false := by
  cases e : fre kd n d with
  | false => rfl
  | true =>
    have z := less_free hn hl dd e
    rw [ffr_none (fsz_bd h (Nat.le_refl _)).1 (fsz_none h) (part_dy hn hl dd)] at z
    exact z.symm
end Oh
/-! Onehue: two hues exchanged. -/
namespace Oh
open PySem PySem.Spec PyProof.Rows L2
def sw (u v : Nat) (h : Int) : Int := if h = (v : Int) then (u : Int) else if h = (u : Int) then (v : Int) else h
def swp (u v : Nat) (hs : List Int) : List Int := hs.map (sw u v)
theorem sw_sw (u v : Nat) (h : Int) : sw u v (sw u v h) = h := by
  unfold sw
  by_cases a : h = (v : Int)
  · rw [if_pos a]
    by_cases b : (u : Int) = (v : Int)
    · rw [if_pos b, b, a]
    · rw [if_neg b, if_pos rfl, a]
  · rw [if_neg a]
    by_cases b : h = (u : Int)
    · rw [if_pos b, if_pos rfl, b]
    · rw [if_neg b, if_neg a, if_neg b]
theorem sw_inj {u v : Nat} {g h : Int} (e : sw u v g = sw u v h) : g = h := by
  have z := congrArg (sw u v) e
  rw [sw_sw, sw_sw] at z
  exact z
theorem swp_swp (u v : Nat) (hs : List Int) : swp u v (swp u v hs) = hs := by
  unfold swp
  rw [List.map_map]
  have e : (sw u v ∘ sw u v) = id := funext fun x => sw_sw u v x
  rw [e, List.map_id]
theorem swp_len (u v : Nat) (hs : List Int) : (swp u v hs).length = hs.length := List.length_map _
theorem sw_hue {u v c : Nat} {h : Int} (hu : u < c) (hv : v < c) (hh : 0 ≤ h ∧ h < (c : Int)) : 0 ≤ sw u v h ∧ sw u v h < (c : Int) := by
  unfold sw
  split
  · omega
  · split
    · omega
    · exact hh
theorem swp_dy {kd : Kd} {n c u v : Nat} {hs : List Int} (hu : u < c) (hv : v < c) (d : Dy kd n c hs) : Dy kd n c (swp u v hs) := by
  refine ⟨by rw [swp_len, d.len], fun h hh => ?_⟩
  obtain ⟨x, hx, rfl⟩ := List.mem_map.mp hh
  exact sw_hue hu hv (d.hue x hx)
theorem swp_getD {u v i : Nat} {hs : List Int} (hi : i < hs.length) : (swp u v hs).getD i 0 = sw u v (hs.getD i 0) := by
  unfold swp
  simp [List.getD, List.getElem?_map, List.getElem?_eq_getElem hi]
theorem swp_mono {kd : Kd} {n c u v : Nat} {hs : List Int} (hn : n ≤ kd.bd) (d : Dy kd n c hs) : mono (swp u v hs) (trs kd n) = mono hs (trs kd n) := by
  unfold mono
  refine List.filter_congr fun t ht => ?_
  obtain ⟨h1, h2, h3⟩ := trs_in hn ht
  rw [← d.len] at h1 h2 h3
  have key : ∀ g h : Int, decide (sw u v g = sw u v h) = decide (g = h) := fun g h => by
    by_cases z : g = h
    · rw [decide_eq_true z, decide_eq_true (by rw [z])]
    · rw [decide_eq_false z, decide_eq_false fun y => z (sw_inj y)]
  unfold mh
  rw [swp_getD h1, swp_getD h2, swp_getD h3, key, key]
def nm (c : Nat) : List V := (List.range c).map fun k : Nat => V.int (k : Int)
def nms (c u v : Nat) : List V := ((nm c).set u (.int (v : Int))).set v (.int (u : Int))
theorem nm_len (c : Nat) : (nm c).length = c := by simp [nm]
theorem nms_len (c u v : Nat) : (nms c u v).length = c := by simp [nms, nm_len]
theorem nms_get {c u v h : Nat} (hu : u < c) (hv : v < c) (hh : h < c) : (nms c u v)[h]? = some (.int (sw u v (h : Int))) := by
  unfold nms sw
  rw [List.getElem?_set, List.getElem?_set]
  by_cases e1 : v = h
  · rw [if_pos e1, if_pos (by rw [List.length_set, nm_len]; exact hv), if_pos (by rw [e1])]
  · rw [if_neg e1, if_neg (fun z : (h : Int) = (v : Int) => e1 (by omega))]
    by_cases e2 : u = h
    · rw [if_pos e2, if_pos (by rw [nm_len]; exact hu), if_pos (by rw [e2])]
    · rw [if_neg e2, if_neg (fun z : (h : Int) = (u : Int) => e2 (by omega))]
      unfold nm
      rw [List.getElem?_map, List.getElem?_range hh]
      rfl
theorem rgV_nm (c : Nat) : rgV 0 (c : Int) = nm c := by
  unfold nm
  simp [rgV]
theorem ixN_nat {n j : Nat} (h : j < n) : ixN n (j : Int) = some j := by
  unfold ixN
  rw [if_pos (by omega), if_pos (by omega)]
  simp
end Oh
/-! Onehue: refusals: raised, caught by an own class, handed to a def while they are handled; a comprehension over a range there. -/
namespace Oh
open PySem PySem.Spec PyProof.Rows L2 L2H
/-! ### [elt for x in range(e)] while an exception is handled -/
abbrev hblk (X : Cx) (u : Shared) (G : Hp) (sc : Scope) (ce : Env) (fp : List Addr) (p : Addr × Obj) : Cx := { X.blk u G sc ce fp with pn := [p] }
theorem hblk_inv {X : Cx} {u t : Shared} {G K : Hp} {sc : Scope} {ce : Env} {fp : List Addr} {p : Addr × Obj} {τ : L2.St} (J : Inv (X.blk u G sc ce fp) [] τ K t)
    (hp : t.heap.get? p.1 = some p.2 ∧ K p.1 = none ∧ p.1 ≠ ce.locals ∧ p.1 ∉ (X.blk u G sc ce fp).fs ∧ ∀ v, p.2.data ≠ .cell v) : Inv (hblk X u G sc ce fp p) [] τ K t := by
  have o := J.ok
  refine ⟨⟨o.mod, o.kind, o.glob, o.blt, o.above, o.inj, o.has, o.cab, o.hd, o.frames, o.stk, o.exf, o.bs, o.bsz, o.noex, o.exfs, o.funs, o.frf⟩, J.os, J.bare, J.base, J.loc, J.cell, J.free, J.freeC, fun r hr => ?_, J.hok, J.len⟩
  have e : r = p := by simpa using (show r ∈ [p] ++ ([] : List (Addr × Obj)) from hr)
  rw [e]
  exact hp
theorem hblk_out {X : Cx} {u t : Shared} {G K : Hp} {sc : Scope} {ce : Env} {fp : List Addr} {p : Addr × Obj} {τ : L2.St} {pins : List (Addr × Obj)} (J : Inv (hblk X u G sc ce fp p) pins τ K t) : Inv (X.blk u G sc ce fp) [] τ K t := by
  have o := J.ok
  refine ⟨⟨o.mod, o.kind, o.glob, o.blt, o.above, o.inj, o.has, o.cab, o.hd, o.frames, o.stk, o.exf, o.bs, o.bsz, o.noex, o.exfs, o.funs, o.frf⟩, J.os, J.bare, J.base, J.loc, J.cell, J.free, J.freeC, fun r hr => ?_, J.hok, J.len⟩
  exact absurd (show r ∈ ([] : List (Addr × Obj)) ++ [] from hr) (by simp)
section
variable {X : Cx} {elt tg a : Expr} {scope : Scope} {own : List (Str × Nat)} {pr prr pos : Pos} {ta : TA} {g : TG} {te : TE}
theorem pe_lcR (hot : HotC X) (hN : X.N.Nodup) (hg : Gl X "range") (hm : X.mg "range" = none) (ha : PA X [a] ta) (ok : BlkOk X.N X.env.scope scope own)
    (tgt : ∀ (u : Shared) (G : Hp) (C : Addr) (cl : List (Str × Addr)) (fp : List Addr) (p : Addr × Obj), PG (hblk X u G scope (compEnvC scope cl C X.env) fp p) tg g)
    (el : ∀ (u : Shared) (G : Hp) (C : Addr) (cl : List (Str × Addr)) (fp : List Addr) (p : Addr × Obj), PE (hblk X u G scope (compEnvC scope cl C X.env) fp p) elt te)
    (na : starEach [a] X.env = [(false, eval a X.env)] := by rfl) :
    PE X (.ListComp elt [⟨tg, .Call (.Name "range" pr) [a] [] prr, [], 0⟩] scope pos) (tLc (iRng1 ta) g tYes te (own.map (·.2))) := by
  refine ⟨fun pins t0 σ G0 Q J0 want => ?_⟩
  obtain ⟨p, hp1, hpm⟩ := hot
  rw [eval_ListComp]
  have outer : ∀ z ∈ scope.names, z.2 = .free → ∃ c, X.env.cells.lookup z.1 = some c := by
    intro z hz e
    rcases ok.free z hz e with q | q
    · exact J0.ok.has _ (.inl q)
    · exact J0.ok.has _ (.inr q)
  refine wpAny_comprehension_free (use := none) rfl (by intro _; rfl) (closure_ok outer) ok.kind (fun z hz e => by rw [ok.uniq z hz, e])
    (thn ((pi_range1H (tg := tg) hg hm ha na).run pins t0 σ G0 _ J0 want) fun xv t1 h1 => thn h1 fun itv t2 h2 => ?_)
  obtain ⟨it, fp, tn, Y, G2, e, J2, T, at2, fr2, q⟩ := h2
  subst e
  refine wpAny_newObj_type (newEnv_comp ?_) (by show 0 ≤ sizeLine; decide)
  generalize eD : t2.heap.objs.size = D
  have freshD : G2 D = none := J2.hok.fresh (Nat.le_of_eq eD)
  obtain ⟨W, ⟨m0, w0⟩, turn⟩ := q D freshD
  generalize e3 : ({ t2 with heap := t2.heap.push { cls := .type "list", data := .seq ([] : List Value).toArray } } : Shared) = t3
  have J3 : Inv X pins σ (upd G2 D (.lst [])) t3 := by
    rw [← e3]
    refine J2.laid (t' := t2.toks) (fun b o z => Heap.get?_push_of_some _ z) (Nat.le_of_eq eD) ⟨Nat.zero_le _, [], 0, .nil, ?_⟩
    rw [← eD]
    exact Heap.get?_push_size _ rfl
  have hp3 : t3.heap = t2.heap.push { cls := .type "list", data := .seq ([] : List Value).toArray } := by rw [← e3]
  have small : ∀ b ∈ fp, b < t2.heap.objs.size := by
    intro b hb
    obtain ⟨o, z, _⟩ := T.obj _ _ at2 b hb
    exact Heap.lt_size z
  have fr3 : ∀ b ∈ fp, FpOk X pins (upd G2 D (.lst [])) b ∧ b < t3.heap.objs.size := by
    intro b hb
    have hlt := small b hb
    refine ⟨⟨?_, (fr2 b hb).2⟩, by rw [hp3, Heap.size_push]; exact Nat.lt_succ_of_lt hlt⟩
    rw [upd_ne (by rw [← eD]; exact Nat.ne_of_lt hlt)]
    exact (fr2 b hb).1
  have at3 : tn 0 t3.heap := T.keep _ _ _ at2 fun b _ o z => by rw [hp3]; exact Heap.get?_push_of_some _ z
  have J4 := block_start J3 ok hN fr3
  have P3 := J3.pin p (List.mem_append_left _ hpm)
  have tgt4 := tgt t3 (upd G2 D (.lst [])) t3.heap.objs.size (cellsFrom (t3.heap.objs.size + 1) scope.names (cloFrom X.env.cells scope.names [])) fp p
  have el4 := el t3 (upd G2 D (.lst [])) t3.heap.objs.size (cellsFrom (t3.heap.objs.size + 1) scope.names (cloFrom X.env.cells scope.names [])) fp p
  show codeAny _ _ (.compStart (.ListComp elt [⟨tg, .Call (.Name "range" pr) [a] [] prr, [], 0⟩] scope pos) 0 (.ref it) (.ref D) (compEnvC scope (cellsFrom (t3.heap.objs.size + 1) scope.names (cloFrom X.env.cells scope.names [])) t3.heap.objs.size X.env)) (compPost (model X.prog X.w) X.A X.xe none (EP X pins σ Q) (.ref D) t3.heap.objs.size) { t3 with heap := pushCells (t3.heap.push { cls := .type "dict", data := .dict #[] }) scope.names }
  have out : ∀ b ∈ fp, (upd G2 D (.lst [])) b = none := fun b hb => (fr3 b hb).1.1
  generalize ec : compEnvC scope (cellsFrom (t3.heap.objs.size + 1) scope.names (cloFrom X.env.cells scope.names [])) t3.heap.objs.size X.env = ce at J4 tgt4 el4 ⊢
  have locC : ce.locals = t3.heap.objs.size := by subst ec; rfl
  generalize eG : upd G2 D (.lst []) = G3 at J3 J4 tgt4 el4 w0 out fr3 P3
  generalize e4 : ({ t3 with heap := pushCells (t3.heap.push { cls := .type "dict", data := .dict #[] }) scope.names } : Shared) = t4 at J4 ⊢
  have kept4 : ∀ (b : Addr) (o : Obj), t3.heap.get? b = some o → t4.heap.get? b = some o := fun b o z => by rw [← e4]; exact pushCells_keeps _ _ _ _ (Heap.get?_push_of_some _ z)
  have J5 : Inv (hblk X t3 G3 scope ce fp p) [] (wipe σ (own.map (·.2))) G3 t4 :=
    hblk_inv J4 ⟨kept4 _ _ P3.1, P3.2.1, (by rw [locC]; exact Nat.ne_of_lt (Heap.lt_size P3.1)), fun hx => (List.mem_cons.mp (J3.stkSub p.1 hx)).elim P3.2.2.1 P3.2.2.2.1, P3.2.2.2.2⟩
  have at4 : tn 0 t4.heap := T.keep _ _ _ at3 fun b _ o z => kept4 b o z
  have hot' : HotC (hblk X t3 G3 scope ce fp p) := ⟨p, hp1, List.mem_singleton.mpr rfl⟩
  have pinB : ∀ {K : Hp} {t : Shared} {τ : L2.St}, Inv (hblk X t3 G3 scope ce fp p) [] τ K t → (∀ b ∈ fp, ∃ o, t.heap.get? b = some o ∧ ∀ v, o.data ≠ .cell v) → (∀ b ∈ fp, b ≠ p.1) → (∀ b ∈ fp, K b = none) → ∀ b ∈ fp, FpOk (hblk X t3 G3 scope ce fp p) [] K b := by
    intro K t τ J ob np hn b hb
    refine ⟨hn b hb, (J.ok.exf b hb).1, J.ok.exfs b hb, .inl hb, fun x c z => (J.ok.exf b hb).2 x c z, fun r hr => ?_⟩
    have er : r = p := by simpa using (show r ∈ [p] ++ ([] : List (Addr × Obj)) from hr)
    rw [er]
    exact fun z => np b hb z.symm
  have np : ∀ b ∈ fp, b ≠ p.1 := fun b hb z => (fr3 b hb).1.2.2.2.2.2 p (List.mem_append_left _ hpm) z.symm
  have loop : codeAny (model X.prog X.w) X.A (.compLoop (.ListComp elt [⟨tg, .Call (.Name "range" pr) [a] [] prr, [], 0⟩] scope pos) 0 (.ref it) (.ref D) ce) (compPost (model X.prog X.w) X.A X.xe none (EP X pins σ Q) (.ref D) t3.heap.objs.size) t4 := by
    refine compLoop_any (fun n t => ∃ i K, Inv (hblk X t3 G3 scope ce fp p) [] (wipe σ (own.map (·.2))) K t ∧ tn i t.heap ∧ (∀ b ∈ fp, K b = none) ∧ W i n K) ?_ m0 ⟨0, G3, J5, at4, out, w0⟩
    rintro n t5 ⟨i, K5, J6, at5, n5, w5⟩
    have fpk := pinB J6 (T.obj _ _ at5) np n5
    rcases turn i n K5 w5 with ⟨stop, done⟩ | ⟨go, Nx, hNx, step⟩
    · refine thnF (T.done (hblk X t3 G3 scope ce fp p) rfl rfl rfl hot' i [] t5 _ K5 (fun _ _ => False) J6 fpk at5 stop) fun r t6 ⟨hr, J7⟩ => ?_
      subst hr
      have J8 := hblk_out J7
      have J9 : Inv X pins σ K5 t6 := J3.call' (ch := fp) J8.os J8.base J8.hok J8.bare fun b hb => ⟨(fr3 b hb).1.2.2.2.1, (fr3 b hb).1.2.1, (fr3 b hb).1.2.2.2.2.1, (fr3 b hb).1.2.2.2.2.2⟩
      have freeC : K5 t3.heap.objs.size = none := by
        have z : K5 ce.locals = none := J8.free
        rw [locC] at z
        exact z
      obtain ⟨m, hn, _⟩ := J8.loc
      have hn : t6.heap.Ns ce.locals m := hn
      rw [locC] at hn
      obtain ⟨c0, c1, c2, c3, c4, c5⟩ := J3.fpOk (Nat.le_refl _) freeC
      exact ⟨m, hn, fun h'' sb => ⟨.ref D, K5, J9.turned (t' := t6.toks) (fun b o hb z => (sb.2 b hb).trans z) c0 c1 c3 c4 c5, rfl, done⟩⟩
    · refine thnF (T.item (hblk X t3 G3 scope ce fp p) rfl rfl rfl hot' i [] t5 _ K5 (fun _ _ => False) J6 fpk at5 go) fun r t6 ⟨u, hr, h6⟩ => ?_
      subst hr
      refine thnF h6 fun _ t7 ⟨x, K7, J7, r7, y7, at7, n7⟩ => ?_
      have J7' := J7.pinned (pinB J7 (T.obj _ _ at7) np n7) (T.obj _ _ at7)
      refine thnF (tgt4.run _ t7 _ K7 x u _ J7' r7 (step x K7 y7)) fun _ t8 ⟨σ8, K8, J8, hw8, q8⟩ => ?_
      have fin : ∀ {t : Shared} {K : Hp}, Inv (hblk X t3 G3 scope ce fp p) ([] ++ pinsAt fp t7.heap) σ8 K t → Nx K → ∃ m, m < n ∧ ∃ i K, Inv (hblk X t3 G3 scope ce fp p) [] (wipe σ (own.map (·.2))) K t ∧ tn i t.heap ∧ (∀ b ∈ fp, K b = none) ∧ W i m K := by
        intro t K J nx
        obtain ⟨m', hm, w'⟩ := hNx K nx
        have pk : ∀ b ∈ fp, ∀ o, t7.heap.get? b = some o → t.heap.get? b = some o ∧ K b = none := by
          intro b hb o z
          have w := J.pin (b, o) (List.mem_append_right _ (List.mem_append_right _ (mem_pinsAt hb z)))
          exact ⟨w.1, w.2.1⟩
        have sl : (wipe σ (own.map (·.2))).length = σ8.length := by rw [← hw8, wipe_length]
        refine ⟨m', hm, i + 1, K, (J.unpinned (pins := [])).weak sl (fun j v z => ?_), T.keep _ _ _ at7 fun b hb o z => (pk b hb o z).1, fun b hb => ?_, w'⟩
        · rw [← hw8] at z
          exact (wipe_some z).1
        · obtain ⟨o, z, _⟩ := T.obj _ _ at7 b hb
          exact (pk b hb o z).2
      refine thnF ((pts_nil (X := hblk X t3 G3 scope ce fp p)).run _ t8 σ8 K8 (fun b K => b = true ∧ K = K8) J8 ⟨rfl, rfl⟩) fun b t9 ⟨K9, J10, eb, eK⟩ => ?_
      subst eb eK
      have q9 : te σ8 K9 fun y H4 => ∃ acc, H4 D = some (.lst acc) ∧ acc.length < sizeLine ∧ Nx (upd H4 D (.lst (acc ++ [y]))) := q8
      refine thnF (el4.run _ t9 σ8 K9 _ J10 q9) fun z t10 ⟨yv, K10, J11, r10, acc, hD10, hz10, nx⟩ => ?_
      exact app_ok (X := hblk X t3 G3 scope ce fp p) J11 hD10 hz10 r10 fun t11 J12 => fin J12 nx
  exact codeAny_compStart_list loop (T.self X.A 0 _ _ _ at4 loop)
end
end Oh
/-! Onehue: defs that raise; a def that is handed the exception that is handled; the classes of refusals. -/
namespace Oh
open PySem PySem.Spec PyProof.Rows L2 L2H
abbrev CXn (P : Program) (w : World) : CXT := L2N.CX P w
section
variable {P : Program} {w : World} {K : PySem.W.Frag} {mg : Str → Option Value} {base : Heap}
theorem Def.okN {x : Str} {st : Stmt} {N ps : List Str} {k : Nat} {sp : Sp} (D : Def K mg x st ps) (S : FnScope N ps (defScope st)) (len : ∀ vs H Q E, sp vs H Q E → vs.length = ps.length)
    (body : ∀ (f : Addr) (cdv : Value) (A : Around) (outer : List Env) (s : Shared) (H : Hp) (vs : List V) (Q : VK) (E : XK), Room k (A.deeper (envOfC x (defScope st) s.heap.objs.size f cdv)) → sp vs H Q E →
      ∃ t, PSs (cxOf (CXn P w) P w K mg base N x (defScope st) f cdv A outer s H E) (defBody st) t ∧ t { nx := fun _ H' => Q .non H', rt := Q } (L2.start N vs) H) : Has P w K mg base (CXn P w) (k + 1) x ps sp := by
  obtain ⟨f, fd, F, b, g⟩ := D.ex
  have kp := F.kp
  obtain ⟨oc, od, kV, doc, pm, an, cdv, ct, osl, rfl, lk, hcd⟩ := F.ex
  exact ⟨f, _, fn_of lk hcd S len fun A outer s H vs Q E hr hsp => body f cdv A outer s H vs Q E hr hsp, b, g, kp, oc, od, osl, lk⟩
theorem takesN {N : List Str} {x : Str} {sc : Scope} {f : Addr} {cdv : Value} {A : Around} {outer : List Env} {s : Shared} {H : Hp} {E : XK} : L2N.Takes (cxOf (CXn P w) P w K mg base N x sc f cdv A outer s H E) (fun cls d _ H => E cls d H) := L2N.takes_of rfl rfl rfl rfl
end
theorem roomS {A : Around} {k : Nat} {v : Option Value} (hr : Room k A) : RoomH k (A.mark v) := ⟨hr.dp, hr.un⟩
theorem takesN0 {X : Cx} : L2N.Takes X (fun _ _ _ _ => False) := fun _ _ x => by
  obtain ⟨_, _, _, _, _, _, _, _, _, _, _, _, _, _, _, _, z⟩ := x
  exact z.elim
section
variable {X : Cx} {j k : Nat} {x : Str} {ps : List Str} {sp : Sp} {e : Expr} {es : List Expr} {t : TA} {p pos : Pos}
/-- a def that raises, called in a def that lets it out -/
theorem pe_calN {E : XK} (h : Has X.prog X.w X.K X.mg X.base (CXn X.prog X.w) j x ps sp) (hr : Room k X.A) (jk : j ≤ k) (hg : Gl X x) (tk : L2N.Takes X (fun cls d _ H => E cls d H)) (ha : PA X (e :: es) t)
    (hdb : (x == ("__debug__" : Str)) = false := by decide) (he : starEach (e :: es) X.env = (false, eval e X.env) :: starEach es X.env := by rfl) (hpl : (backTo pos (starEach es X.env)).any (·.1) = false := by rfl) :
    PE X (.Call (.Name x p) (e :: es) [] pos) (tCall sp [] E t) := by
  obtain ⟨f, fd, F, b, g, kp, _⟩ := h.ex
  exact pe_call F (hr.mono jk) hg g kp (.all b) .nil (L2N.passes_call tk fun _ _ _ _ h => h) ha hdb he hpl
/-- .. within a try -/
theorem pe_calT {W : WX} (h : Has X.prog X.w X.K X.mg X.base (CXn X.prog X.w) j x ps sp) (hr : Room k X.A) (jk : j ≤ k) (hg : Gl X x) (tk : L2N.Takes X W) (ha : PA X (e :: es) t)
    (hdb : (x == ("__debug__" : Str)) = false := by decide) (he : starEach (e :: es) X.env = (false, eval e X.env) :: starEach es X.env := by rfl) (hpl : (backTo pos (starEach es X.env)).any (·.1) = false := by rfl) :
    PE X (.Call (.Name x p) (e :: es) [] pos) (tCallS sp (WE W) t) := by
  obtain ⟨f, fd, F, b, g, kp, _⟩ := h.ex
  exact pe_callS F (hr.mono jk) hg g kp (.all b) (fun σ => L2N.passAt tk σ) ha hdb he hpl
end

/-! ### a def that is handed the exception that is handled -/
structure FnE (P : Program) (w : World) (K : PySem.W.Frag) (mg : Str → Option Value) (base : Heap) (k : Nat) (f : Addr) (fd : FuncData) (ps : List Str) (sp : Addr → Value → Option Addr → Sp) : Prop where
  len : ∀ a c d vs H Q E, sp a c d vs H Q E → vs.length = ps.length
  run : ∀ (A : Around) (outer : List Env) (s : Shared) (H : Hp) (args : Args) (us : List Value) (vs : List V) (Q : VK) (E : XK) (a : Addr) (oe : Obj) (c : Value) (d : Option Addr), RoomH k A → L2N.Zn c d oe → (∃ ws, oe.data = .fields ws) → Hot1 A (a, oe) → PinOk outer H s (a, oe) →
    Env0 P w K mg base A outer s H → BindsTo s fd args (ps.zip us) → Vals vs us → sp a c d vs H Q E → codeAny (model P w) A (.call (.ref f) args) (CR CX0 outer P w H s Q E) s
theorem fn_ofE {P : Program} {w : World} {K : PySem.W.Frag} {mg : Str → Option Value} {base : Heap} {k : Nat} {f : Addr} {name qual : Str} {params : Arguments} {body : List Stmt} {scope : Scope} {dV kV doc pm cdv ct oc : Value} {an od : Option Addr}
    {osl : Array (Option Value)} {N ps : List Str} {sp : Addr → Value → Option Addr → Sp} (lk : K.lookup f = some ⟨oc, od, .func (PySem.W.fnOf name qual params body scope dV kV doc pm an cdv ct), osl⟩) (hcd : PySem.W.codeIn K cdv qual = true) (S : FnScope N ps scope)
    (len : ∀ a c d vs H Q E, sp a c d vs H Q E → vs.length = ps.length)
    (hbody : ∀ (A : Around) (outer : List Env) (s : Shared) (H : Hp) (vs : List V) (Q : VK) (E : XK) (a : Addr) (oe : Obj) (c : Value) (d : Option Addr), L2N.Zn c d oe → (∃ ws, oe.data = .fields ws) → Hot1 A (a, oe) → RoomH k (A.deeper (envOfC qual scope s.heap.objs.size f cdv)) → sp a c d vs H Q E →
      ∃ t, PSs (cxH CX0 P w K mg base N qual scope f cdv A outer s H E (a, oe)) body t ∧ t { nx := fun _ H' => Q .non H', rt := Q } (L2.start N vs) H) :
    FnE P w K mg base (k + 1) f (PySem.W.fnOf name qual params body scope dV kV doc pm an cdv ct) ps sp := by
  refine ⟨len, fun A outer s H args us vs Q E a oe c d hr hz hf hot hpin e0 hb r hsp => ?_⟩
  have hl := len _ _ _ _ _ _ _ hsp
  have KX : K.In s.heap := e0.mod.kin.keeps fun b o e => (e0.bs b o e).1
  have lim : s.heap.NoLimit := e0.mod.nolimit.keeps fun b o e => (e0.bs b o e).1
  have hkind : ∀ y ∈ ps.zip us, scope.names.lookup y.1 = some .local ∨ (scope.names.lookup y.1 = some .cell ∧ ((cellsFrom (s.heap.objs.size + 1) scope.names []).lookup y.1).isSome = true) := fun ⟨n, v⟩ hy => by
    rcases S.par n (List.of_mem_zip hy).1 with q | q
    · exact .inl q
    · exact .inr ⟨q, PySem.W.cellsFrom_some _ _ _ (.inl q)⟩
  refine codeAny_call_function hr.depth (KX _ _ lk) rfl S.co S.gen rfl (PySem.W.codeRec_of KX hcd) (hb _ _ _ _ ?_)
  refine wpAny_newFunctionEnv_cells S.kind hkind fun env he s1 x => ?_
  subst he
  refine ⟨lim.keeps x.toInCall.keep, codeAny_func ?_⟩
  obtain ⟨t, ht, hq⟩ := hbody A outer s H vs Q E a oe c d hz hf hot (hr.deeper _) hsp
  have I : Inv (cxH CX0 P w K mg base N qual scope f cdv A outer s H E (a, oe)) [] (L2.start N vs) H s1 := inv_startH S hpin e0 hl r x
  refine wpAny_mono (ht.run [] s1 (L2.start N vs) H _ I hq) (fun fl s' hs => ?_) fun e s' hs => hs
  have fin : ∀ {σ' : L2.St} {H' : Hp} {v : V} {u : Value}, Inv (cxH CX0 P w K mg base N qual scope f cdv A outer s H E (a, oe)) [] σ' H' s' → RelV v u → Q v H' → CE outer P w H s Q u s' :=
    fun {σ' H' v u} J rv q => ⟨v, H', J.os, J.bare, J.base, J.hok, rv, q⟩
  cases fl with
  | ret u =>
    obtain ⟨v, σ', H', J, rv, q⟩ := hs
    exact fin J rv q
  | next =>
    obtain ⟨σ', H', J, q⟩ := hs
    exact fin (v := V.non) (u := Value.none) J rfl q
  | brk =>
    obtain ⟨_, _, _, q⟩ := hs
    exact False.elim q
  | cont =>
    obtain ⟨_, _, _, q⟩ := hs
    exact False.elim q
structure HasE (P : Program) (w : World) (K : PySem.W.Frag) (mg : Str → Option Value) (base : Heap) (k : Nat) (x : Str) (ps : List Str) (sp : Addr → Value → Option Addr → Sp) : Prop where
  ex : ∃ (f : Addr) (fd : FuncData), FnE P w K mg base k f fd ps sp ∧ Binds K fd ps [] ∧ mg x = some (.ref f) ∧ PySem.W.keepIn K (.ref f) = true
theorem Def.okE {P : Program} {w : World} {K : PySem.W.Frag} {mg : Str → Option Value} {base : Heap} {x : Str} {st : Stmt} {N ps : List Str} {k : Nat} {sp : Addr → Value → Option Addr → Sp} (D : Def K mg x st ps) (S : FnScope N ps (defScope st)) (len : ∀ a c d vs H Q E, sp a c d vs H Q E → vs.length = ps.length)
    (body : ∀ (f : Addr) (cdv : Value) (A : Around) (outer : List Env) (s : Shared) (H : Hp) (vs : List V) (Q : VK) (E : XK) (a : Addr) (oe : Obj) (c : Value) (d : Option Addr), L2N.Zn c d oe → (∃ ws, oe.data = .fields ws) → Hot1 A (a, oe) → RoomH k (A.deeper (envOfC x (defScope st) s.heap.objs.size f cdv)) → sp a c d vs H Q E →
      ∃ t, PSs (cxH CX0 P w K mg base N x (defScope st) f cdv A outer s H E (a, oe)) (defBody st) t ∧ t { nx := fun _ H' => Q .non H', rt := Q } (L2.start N vs) H) : HasE P w K mg base (k + 1) x ps sp := by
  obtain ⟨f, fd, F, b, g⟩ := D.ex
  have kp := F.kp
  obtain ⟨oc, od, kV, doc, pm, an, cdv, ct, osl, rfl, lk, hcd⟩ := F.ex
  exact ⟨f, _, fn_ofE lk hcd S len fun A outer s H vs Q E a oe c d hz hf hot hr hsp => body f cdv A outer s H vs Q E a oe c d hz hf hot hr hsp, .all b, g, kp⟩
section
variable {X : Cx} {j k : Nat} {x : Str} {ps : List Str} {sp : Addr → Value → Option Addr → Sp} {e : Expr} {es : List Expr} {t : TA} {q pos : Pos}
theorem pe_calE {a : Addr} {oe : Obj} {c : Value} {d : Option Addr} (h : HasE X.prog X.w X.K X.mg X.base j x ps sp) (hr : RoomH k X.A) (jk : j ≤ k) (hz : L2N.Zn c d oe) (hf : ∃ ws, oe.data = .fields ws) (hh : X.A.handled = some (.ref a)) (hp : (a, oe) ∈ X.pn) (hg : Gl X x)
    (ha : PA X (e :: es) t) (hdb : (x == ("__debug__" : Str)) = false := by decide) (he : starEach (e :: es) X.env = (false, eval e X.env) :: starEach es X.env := by rfl) (hpl : (backTo pos (starEach es X.env)).any (·.1) = false := by rfl) :
    PE X (.Call (.Name x q) (e :: es) [] pos) (tCallS (sp a c d) (fun _ => E0) t) := by
  obtain ⟨f, fd, F, hb, hm, hk⟩ := h.ex
  refine ⟨fun pins s σ H Q I h => ?_⟩
  refine wpAny_Call_Name_kw (ld_glob I hg hm ?_ hdb)
  refine PySem.W.callWith_K (h₀ := X.base) I.ok.mod.kin hk (thn (ha.run pos pins s σ H _ I h) fun us s1 ⟨vs, H1, I1, r, q⟩ => ⟨I1.kIn, ?_⟩) he hpl
  have hl : us.length = ps.length := by rw [← r.length]; exact F.len _ _ _ _ _ _ _ q
  have b := hb s1 us I1.kIn (by rw [List.append_nil]; exact hl)
  rw [List.append_nil] at b
  have P1 := I1.pin (a, oe) (List.mem_append_left _ hp)
  have hpin : PinOk X.stack H1 s1 (a, oe) := ⟨P1.1, P1.2.1, fun hm => (List.mem_cons.mp (I1.stkSub a hm)).elim P1.2.2.1 P1.2.2.2.1, P1.2.2.2.2⟩
  obtain ⟨ws, hw⟩ := id hf
  refine wpAny_call (codeAny_mono (F.run X.A X.stack s1 H1 ⟨us, []⟩ us vs Q E0 a oe c d (hr.mono jk) hz hf ⟨hh, ws, hw, hz.2.2 ws hw⟩ hpin I1.env0 b r q) fun r s' hq => ?_)
  cases r with
  | error e => exact False.elim hq
  | ok fl =>
    cases fl with
    | ret u => exact I1.after hq
    | next => exact False.elim hq
    | brk => exact False.elim hq
    | cont => exact False.elim hq
/-- isinstance(e, c), e the exception that is handled -/
theorem call_isP {a D : Addr} {oe : Obj} (C : ExcC X.K D) (hz : L2N.Zn (.ref D) none oe) (hf : ∃ ws, oe.data = .fields ws) (hp : (a, oe) ∈ X.pn) : CallR X (.builtin "isinstance") (rIsE X.K D a) := by
  intro pins s σ H xs us Q I r h
  obtain ⟨c, cv, b, rfl, hcv, e, q⟩ := h
  cases r with
  | cons rx rr =>
    cases rr with
    | cons rt rr =>
      cases rr
      cases rx
      have ec := hcv _ rt
      subst ec
      obtain ⟨hget, _⟩ := I.pin (a, oe) (List.mem_append_left _ hp)
      obtain ⟨vs, hv⟩ := hf
      have J : PySem.W.InstAt s.heap a oe D none := by
        obtain ⟨oc, od, oda, osl⟩ := oe
        obtain ⟨h1, h2, _⟩ := hz
        dsimp only at h1 h2 hv
        subst h1 h2 hv
        exact ⟨hget, rfl, rfl, trivial⟩
      exact PySem.W.kia_one (PySem.W.handS_kitx_exc C.hg C.hk C.hs C.hd C.ha C.hn C.ht C.hm) I.kIn J e (fun z => nomatch z) fun tk => ⟨.bl b, H, I.kept (t' := tk) fun _ _ z => z, rfl, q⟩
end

/-! ### the classes of refusals -/
def kx : Nat → Str
  | 0 => "NoKind"
  | 1 => "NoSize"
  | 2 => "NoHues"
  | 3 => "NoDyeing"
  | _ => "TooMuch"
/-- what is read of one class -/
structure Ec (K : PySem.W.Frag) (D : Addr) : Prop where
  kp : PySem.W.keepIn K (.ref D) = true
  q : PySem.W.excIn K D [.type "ValueError", .type "Exception", .type "BaseException", .type "object"] "ValueError.__new__" = true
  ty : PySem.W.typeIn K (.ref D) = some (.type "type")
  ve : PySem.W.subIn K (.ref D) (.type "ValueError") = some true
  ic : PySem.W.isClsIn K D = true
  hg : PySem.W.findIn K (.ref D) "__getattribute__" = some (some (.builtin "BaseException.__getattribute__"))
  hk : PySem.W.findIn K (.ref D) "__getattr__" = some none
  hs : PySem.W.subIn K (.ref D) (.type "BaseException") = some true
  hd : PySem.W.hasDictIn K D = true
  ha : PySem.W.findIn K (.ref D) "__class__" = some (some (.builtin "object.__class__"))
  hn : PySem.W.specialIn K (.builtin "object.__class__") "__get__" = some (some (.builtin "getset_descriptor.__get__"))
  ht : PySem.W.takesIn K (.builtin "object.__class__") = some true
  hm : PySem.W.mroIn K D (.type "object") = some true
structure Er (K : PySem.W.Frag) (mg : Str → Option Value) : Prop where
  ex : ∃ (c : Nat → Addr) (b : Addr), (∀ i, i < 5 → mg (kx i) = some (.ref (c i)) ∧ Ec K (c i) ∧ PySem.W.exmOne K (.ref (c i)) (.ref b) = some true ∧ PySem.W.kitOne K (.ref (c i)) (.type "ValueError") = some true ∧ ∀ j, j < 5 → PySem.W.kitOne K (.ref (c i)) (.ref (c j)) = some (decide (i = j))) ∧
    mg "HueError" = some (.ref b) ∧ mg "ValueError" = none
/-- what the classes are to each other -/
structure Eb (K : PySem.W.Frag) (b : Addr) (c : Nat → Addr) : Prop where
  ty : PySem.W.typeIn K (.ref b) = some (.type "type")
  hd : PySem.W.hasDictIn K b = true
  hs : PySem.W.subIn K (.ref b) (.type "BaseException") = some true
  up : ∀ i, i < 5 → PySem.W.subIn K (.ref (c i)) (.ref b) = some true
  ats : ∀ i, i < 5 → ∀ j, j < 5 → PySem.W.subIn K (.ref (c i)) (.ref (c j)) = some (decide (i = j))
theorem er_mk {K : PySem.W.Frag} {mg : Str → Option Value} {h : Heap} (X : K.In h) (G : h.Ns mainGlobals mg) {b : Addr} {c : Nat → Addr} (a : ∀ i, i < 5 → PySem.W.nsIn K mainGlobals (kx i) = some (some (.ref (c i)))) (ab : PySem.W.nsIn K mainGlobals "HueError" = some (some (.ref b)))
    (av : PySem.W.nsIn K mainGlobals "ValueError" = some none) (ec : ∀ i, i < 5 → Ec K (c i)) (eb : Eb K b c) : Er K mg := by
  refine ⟨c, b, fun i hi => ⟨PySem.W.mg_of X G (a i hi), ec i hi, PySem.W.exm_ref eb.hs eb.hd eb.ty (eb.up i hi), ?_, fun j hj => ?_⟩, PySem.W.mg_of X G ab, PySem.W.mg_none_of X G av⟩
  · show (if (Value.ref (c i) == Value.type "ValueError") = true then some true else PySem.W.kitCls K (.ref (c i)) (.type "ValueError")) = some true
    split
    · rfl
    · show (if PySem.W.kitMeta "ValueError" = true then PySem.W.subIn K (.ref (c i)) (.type "ValueError") else none) = some true
      rw [if_pos (by decide +kernel)]
      exact (ec i hi).ve
  · show (if (Value.ref (c i) == Value.ref (c j)) = true then some true else PySem.W.kitCls K (.ref (c i)) (.ref (c j))) = some (decide (i = j))
    split
    · rename_i z
      have e : c i = c j := Value.ref.inj (beq_iff_eq.mp z)
      have s1 := eb.ats i hi j hj
      have s2 := eb.ats i hi i hi
      rw [← e, s2] at s1
      exact (Option.some.inj s1) ▸ (by simp)
    · have cl : (PySem.W.clsIn K (c j)).isSome = true := by
        obtain ⟨cd, hc, _⟩ := PySem.W.any_some (ec j hj).hd
        rw [hc]
        rfl
      have e2 : ((PySem.W.clsIn K (c j)).isSome && PySem.W.typeIn K (.ref (c j)) == some (.type "type")) = true := by rw [cl, (ec j hj).ty] <;> rfl
      show (if ((PySem.W.clsIn K (c j)).isSome && PySem.W.typeIn K (.ref (c j)) == some (.type "type")) = true then PySem.W.subIn K (.ref (c i)) (.ref (c j)) else none) = _
      rw [if_pos e2]
      exact eb.ats i hi j hj
theorem Ec.exc {K : PySem.W.Frag} {D : Addr} (e : Ec K D) : ExcC K D := ⟨e.hg, e.hk, e.hs, e.hd, e.ha, e.hn, e.ht, e.hm⟩
/-- the i-th class's address is D -/
def IsK (mg : Str → Option Value) (i : Nat) (cls : Value) : Prop := ∃ D : Addr, cls = .ref D ∧ mg (kx i) = some (.ref D)
/-- raise Kx('..') in a def that lets it out -/
theorem ps_rs {X : Cx} {W : WX} {D : Addr} {x m : Str} {j : Nat} {p p2 pos pos' : Pos} (hc : X.calm = true) (tk : L2N.Takes X W) (e : Ec X.K D) (g : X.mg x = some (.ref D)) (hg : Gl X x) (hdb : (x == ("__debug__" : Str)) = false := by decide) :
    PS X (.Raise (some (.Call (.Name x p) [.Constant (.str m) j p2] [] pos)) none pos') (fun _ σ H => W (.ref D) none σ H) :=
  L2N.ps_raise hc tk (L2N.pmk_own PySem.F.excBase_ValueError e.q g e.kp (raises_own e.hs e.ty) hg hdb)

/-! ### _law_other(e, wanted) -/
def sp_oth (mg : Str → Option Value) : Addr → Value → Option Addr → Sp := fun a c d vs H Q _ => ∃ i j : Nat, i < 5 ∧ j < 5 ∧ IsK mg i c ∧ d = none ∧ vs = [.ref a, .int j] ∧ ∀ H', Same H H' → Q (.bl (decide (i ≠ j))) H'
theorem oth_all : ((List.range 5).all fun i => (List.range 5).all fun j => decide (PyData.eqv (.list ([decide (i = 0), decide (i = 1), decide (i = 2), decide (i = 3), decide (i = 4)].map .bool)) (.list (((List.range 5).map fun x => decide (x = j)).map .bool)) = decide (i = j))) = true := by decide +kernel
theorem oth_eqv (i j : Nat) (hi : i < 5) (hj : j < 5) : PyData.eqv (.list ([decide (i = 0), decide (i = 1), decide (i = 2), decide (i = 3), decide (i = 4)].map .bool)) (.list (((List.range 5).map fun x => decide (x = j)).map .bool)) = decide (i = j) :=
  of_decide_eq_true (List.all_eq_true.mp (List.all_eq_true.mp oth_all i (List.mem_range.mpr hi)) j (List.mem_range.mpr hj))
theorem dpBls {K : PySem.W.Frag} {H : Hp} : ∀ r : List Bool, DpAll K H (r.map V.bl) (r.map .bool)
  | [] => .nil
  | i :: r => .cons (.bl i) (dpBls r)
theorem dpBlL {K : PySem.W.Frag} {H : Hp} {p : Addr} {r : List Bool} (h : SqL K H p (r.map V.bl)) : Dp K H (.ref p) (.list (r.map .bool)) := .lst h (dpBls r)
end Oh
/-! Onehue: which refusal is due. -/
namespace Oh
open PySem PySem.Spec PyProof.Rows L2
theorem hotS {X : Cx} {a : Addr} {oe : Obj} {pn : List (Addr × Obj)} {cls : Value} {d : Option Addr} (hz : L2N.Zn cls d oe) (hf : ∃ vs, oe.data = .fields vs) : L2H.HotC (X.suite a ((a, oe) :: pn)) := by
  obtain ⟨vs, e⟩ := hf
  exact ⟨(a, oe), ⟨rfl, vs, e, hz.2.2 vs e⟩, List.mem_cons_self⟩
def badL : List Str := ["", "pair", "Pairs", "sums ", "step", "stepss", "pairsums"]
/-- a text that tells no kind -/
def BadK (ks : Str) : Prop := ks ∈ badL
theorem inV_bad {ks : Str} (h : BadK ks) : inV (.str ks) [.str "pairs", .str "sums", .str "steps"] = false := by
  unfold BadK badL at h
  rcases List.mem_cons.mp h with rfl | h
  · decide +kernel
  rcases List.mem_cons.mp h with rfl | h
  · decide +kernel
  rcases List.mem_cons.mp h with rfl | h
  · decide +kernel
  rcases List.mem_cons.mp h with rfl | h
  · decide +kernel
  rcases List.mem_cons.mp h with rfl | h
  · decide +kernel
  rcases List.mem_cons.mp h with rfl | h
  · decide +kernel
  rw [List.mem_singleton.mp h]
  decide +kernel
theorem inV_kd (kd : Kd) : inV (.str kd.str) [.str "pairs", .str "sums", .str "steps"] = true := by cases kd <;> decide +kernel
/-- GREATEST has none of them -/
structure GrB (K : PySem.W.Frag) (w : World) (mg : Str → Option Value) : Prop where
  ex : ∃ (g : Addr) (es : Array DictEntry) (n : Nat), mg "GREATEST" = some (.ref g) ∧ KDict K w g es n ∧ ∀ ks, BadK ks → PySem.W.nsIn K g ks = some none
theorem grb_mk {K : PySem.W.Frag} {w : World} {mg : Str → Option Value} {h : Heap} (X : K.In h) (G : h.Ns mainGlobals mg) {g : Addr} {es : Array DictEntry} {n : Nat}
    (a : PySem.W.nsIn K mainGlobals "GREATEST" = some (some (.ref g))) (l : K.lookup g = some ⟨.type "dict", none, .dict es n, #[]⟩) (hk : PySem.W.KeysLit w.params es.toList) (low : (g == sysModules) = false)
    (b0 : PySem.W.nsIn K g "" = some none) (b1 : PySem.W.nsIn K g "pair" = some none) (b2 : PySem.W.nsIn K g "Pairs" = some none) (b3 : PySem.W.nsIn K g "sums " = some none) (b4 : PySem.W.nsIn K g "step" = some none) (b5 : PySem.W.nsIn K g "stepss" = some none) (b6 : PySem.W.nsIn K g "pairsums" = some none) : GrB K w mg :=
  ⟨g, es, n, PySem.W.mg_of X G a, ⟨l, hk, low⟩, fun ks h => by
    unfold BadK badL at h
    rcases List.mem_cons.mp h with rfl | h
    · exact b0
    rcases List.mem_cons.mp h with rfl | h
    · exact b1
    rcases List.mem_cons.mp h with rfl | h
    · exact b2
    rcases List.mem_cons.mp h with rfl | h
    · exact b3
    rcases List.mem_cons.mp h with rfl | h
    · exact b4
    rcases List.mem_cons.mp h with rfl | h
    · exact b5
    rw [List.mem_singleton.mp h]
    exact b6⟩
/-- class i is raised -/
def RefE (mg : Str → Option Value) (H : Hp) (E : XK) (i : Nat) : Prop := ∀ H' D, IsK mg i D → Same H H' → E D none H'
theorem RefE.same {mg : Str → Option Value} {H H1 : Hp} {E : XK} {i : Nat} (q : RefE mg H E i) (s : Same H H1) : RefE mg H1 E i := fun H' D k s' => q H' D k (s.trans s')
theorem RefE.here {mg : Str → Option Value} {H H1 : Hp} {E : XK} {i : Nat} {D : Addr} (q : RefE mg H E i) (s : Same H H1) (g : mg (kx i) = some (.ref D)) : E (.ref D) none H1 := q H1 _ ⟨D, rfl, g⟩ s
def RS (ks : Str) (n : Int) (i : Nat) : Prop := (BadK ks ∧ i = 0) ∨ ∃ kd : Kd, ks = kd.str ∧ ¬ (0 ≤ n ∧ n ≤ (kd.bd : Int)) ∧ i = 1
def RH (ks : Str) (n c : Int) (i : Nat) : Prop := RS ks n i ∨ ∃ (kd : Kd) (m : Nat), ks = kd.str ∧ n = (m : Int) ∧ m ≤ kd.bd ∧ ¬ (1 ≤ c ∧ c ≤ 3) ∧ i = 2
def RD (ks : Str) (n c : Int) (hs : List Int) (i : Nat) : Prop := RH ks n c i ∨ ∃ (kd : Kd) (m ct : Nat), ks = kd.str ∧ n = (m : Int) ∧ m ≤ kd.bd ∧ c = (ct : Int) ∧ Cnt ct ∧ ¬ Dy kd m ct hs ∧ i = 3
def RX (ks : Str) (n c : Int) (hs : List Int) (u v : Int) (i : Nat) : Prop := RD ks n c hs i ∨ ∃ (kd : Kd) (m ct : Nat), ks = kd.str ∧ n = (m : Int) ∧ m ≤ kd.bd ∧ c = (ct : Int) ∧ Cnt ct ∧ Dy kd m ct hs ∧ ¬ ((0 ≤ u ∧ u < (ct : Int)) ∧ (0 ≤ v ∧ v < (ct : Int))) ∧ i = 2
def RQ (ks : Str) (n c : Int) (i : Nat) : Prop := RH ks n c i ∨ ∃ (kd : Kd) (m ct : Nat), ks = kd.str ∧ n = (m : Int) ∧ m ≤ kd.bd ∧ c = (ct : Int) ∧ Cnt ct ∧ 15 < many kd m ∧ i = 4
def RM (ks : Str) (n c : Int) (i : Nat) : Prop := RQ ks n c i ∨ ∃ (kd : Kd) (m : Nat), ks = kd.str ∧ n = (m : Int) ∧ m ≤ kd.bd ∧ c = 3 ∧ many kd m ≤ 15 ∧ 8 < many kd m ∧ i = 4
def RF (ks : Str) (c : Int) (i : Nat) : Prop := (BadK ks ∧ i = 0) ∨ (∃ kd : Kd, ks = kd.str ∧ ¬ (1 ≤ c ∧ c ≤ 3) ∧ i = 2) ∨ ∃ kd : Kd, ks = kd.str ∧ kd ≠ .sums ∧ c = 3 ∧ i = 4
/-- what the w-th function refuses -/
def RW (w : Nat) (ks : Str) (n c : Int) (hs : List Int) (u v : Int) (i : Nat) : Prop := match w with
  | 0 => RS ks n i
  | 1 => RS ks n i
  | 2 => RD ks n c hs i
  | 3 => RD ks n c hs i
  | 4 => RX ks n c hs u v i
  | 5 => RQ ks n c i
  | 6 => RM ks n c i
  | _ => RF ks c i
/-- what it takes -/
def VS (ks : Str) (n : Int) (kd : Kd) (m : Nat) : Prop := ks = kd.str ∧ n = (m : Int) ∧ m ≤ kd.bd
def VW (w : Nat) (ks : Str) (n c : Int) (hs : List Int) (u v : Int) : Prop := match w with
  | 0 => ∃ kd m, VS ks n kd m
  | 1 => ∃ kd m, VS ks n kd m
  | 2 => ∃ kd m ct, VS ks n kd m ∧ c = ((ct : Nat) : Int) ∧ Cnt ct ∧ Dy kd m ct hs
  | 3 => ∃ kd m ct, VS ks n kd m ∧ c = ((ct : Nat) : Int) ∧ Cnt ct ∧ Dy kd m ct hs
  | 4 => ∃ (kd : Kd) (m ct u' v' : Nat), VS ks n kd m ∧ c = ((ct : Nat) : Int) ∧ Cnt ct ∧ Dy kd m ct hs ∧ u = (u' : Int) ∧ v = (v' : Int) ∧ u' < ct ∧ v' < ct
  | 5 => ∃ kd m ct, VS ks n kd m ∧ c = ((ct : Nat) : Int) ∧ Cnt ct ∧ many kd m ≤ 15
  | 6 => ∃ kd m ct, VS ks n kd m ∧ c = ((ct : Nat) : Int) ∧ Cnt ct ∧ many kd m ≤ 15 ∧ (ct = 3 → many kd m ≤ 8)
  | _ => ∃ (kd : Kd) (ct : Nat), ks = kd.str ∧ c = (ct : Int) ∧ (ct = 1 ∨ ct = 2 ∨ (ct = 3 ∧ kd = .sums))
def goodD (kd : Kd) (n c : Int) (hs : List Int) : Bool := decide (hs.length = many kd n.toNat) && hs.all fun h => decide (0 ≤ h ∧ h < c)
def due (w : Nat) (kd : Kd) (n c : Int) (hs : List Int) (u v : Int) : Nat :=
  if w < 7 ∧ ¬ (0 ≤ n ∧ n ≤ (kd.bd : Int)) then 1
  else if 1 < w ∧ ¬ (1 ≤ c ∧ c ≤ 3) then 2
  else if 2 ≤ w ∧ w ≤ 4 then (if goodD kd n c hs = false then 3 else if w < 4 then 5 else if (0 ≤ u ∧ u < c) ∧ (0 ≤ v ∧ v < c) then 5 else 2)
  else if w = 7 ∧ c = 3 ∧ kd ≠ .sums then 4
  else if w = 6 ∧ c = 3 ∧ 8 < many kd n.toNat then 4
  else if (5 ≤ w ∧ w ≤ 6) ∧ 15 < many kd n.toNat then 4
  else 5
theorem goodD_dy {kd : Kd} {m ct : Nat} {hs : List Int} : goodD kd (m : Int) (ct : Int) hs = true ↔ Dy kd m ct hs := by
  unfold goodD
  rw [Bool.and_eq_true, decide_eq_true_eq, List.all_eq_true, Int.toNat_natCast]
  exact ⟨fun h => ⟨h.1, fun x hx => of_decide_eq_true (h.2 x hx)⟩, fun d => ⟨d.len, fun x hx => decide_eq_true (d.hue x hx)⟩⟩
theorem good_e {kd : Kd} {m : Nat} {ct : Int} {hs : List Int} (h : hs.length = many kd m) : decide (V.int (((((hs.filter fun h => !decide (0 ≤ h ∧ h < ct)).map V.int).length : Nat)) : Int) = V.int 0) = goodD kd (m : Int) ct hs := by
  unfold goodD
  rw [Int.toNat_natCast, decide_eq_true h, Bool.true_and, List.length_map]
  cases z : hs.all (fun h => decide (0 ≤ h ∧ h < ct)) with
  | true =>
    have e : hs.filter (fun h => !decide (0 ≤ h ∧ h < ct)) = [] := List.filter_eq_nil_iff.mpr fun x hx => by
      have y := List.all_eq_true.mp z x hx
      rw [y]
      decide
    rw [e]
    exact decide_eq_true rfl
  | false =>
    obtain ⟨x, hx, hb⟩ := List.all_eq_false.mp z
    refine decide_eq_false fun y => ?_
    have y := V.int.inj y
    have l0 : (hs.filter fun h => !decide (0 ≤ h ∧ h < ct)).length = 0 := by omega
    have k := List.filter_eq_nil_iff.mp (List.length_eq_zero_iff.mp l0) x hx
    cases w : decide (0 ≤ x ∧ x < ct) with
    | true => exact hb w
    | false =>
      rw [w] at k
      exact k rfl
theorem good_f {kd : Kd} {m : Nat} {ct : Int} {hs : List Int} (h : ¬ hs.length = many kd m) : goodD kd (m : Int) ct hs = false := by
  unfold goodD
  rw [Int.toNat_natCast, decide_eq_false h, Bool.false_and]
theorem at4 (x0 x1 x2 x3 z : Int) : ∃ w : Int, atI [V.int x0, V.int x1, V.int x2, V.int x3] (z % 4) = some (.int w) := by
  have m0 := Int.emod_nonneg z (show (4 : Int) ≠ 0 by decide)
  have m1 := Int.emod_lt_of_pos z (show (0 : Int) < 4 by decide)
  obtain ⟨j, hj, ej⟩ : ∃ j : Nat, j < 4 ∧ z % 4 = (j : Int) := ⟨(z % 4).toNat, by omega, by omega⟩
  rw [ej]
  match j, hj with
  | 0, _ => exact ⟨x0, rfl⟩
  | 1, _ => exact ⟨x1, rfl⟩
  | 2, _ => exact ⟨x2, rfl⟩
  | 3, _ => exact ⟨x3, rfl⟩
theorem at7 (z : Int) : ∃ ks : Str, BadK ks ∧ atI [V.str "", V.str "pair", V.str "Pairs", V.str "sums ", V.str "step", V.str "stepss", V.str "pairsums"] (z % 7) = some (.str ks) := by
  have m0 := Int.emod_nonneg z (show (7 : Int) ≠ 0 by decide)
  have m1 := Int.emod_lt_of_pos z (show (0 : Int) < 7 by decide)
  obtain ⟨j, hj, ej⟩ : ∃ j : Nat, j < 7 ∧ z % 7 = (j : Int) := ⟨(z % 7).toNat, by omega, by omega⟩
  rw [ej]
  unfold BadK badL
  match j, hj with
  | 0, _ => exact ⟨"", by simp, rfl⟩
  | 1, _ => exact ⟨"pair", by simp, rfl⟩
  | 2, _ => exact ⟨"Pairs", by simp, rfl⟩
  | 3, _ => exact ⟨"sums ", by simp, rfl⟩
  | 4, _ => exact ⟨"step", by simp, rfl⟩
  | 5, _ => exact ⟨"stepss", by simp, rfl⟩
  | 6, _ => exact ⟨"pairsums", by simp, rfl⟩
theorem erase_map : ∀ (l : List Int) (i : Nat), (l.map V.int).eraseIdx i = (l.eraseIdx i).map V.int
  | [], _ => by simp
  | _ :: _, 0 => rfl
  | x :: l, i + 1 => congrArg (V.int x :: ·) (erase_map l i)
theorem due_bad {w : Nat} {ks : Str} {n c : Int} {hs : List Int} {u v : Int} (b : BadK ks) : RW w ks n c hs u v 0 := by
  have s : RS ks n 0 := .inl ⟨b, rfl⟩
  match w with
  | 0 => exact s
  | 1 => exact s
  | 2 => exact .inl (.inl s)
  | 3 => exact .inl (.inl s)
  | 4 => exact .inl (.inl (.inl s))
  | 5 => exact .inl (.inl s)
  | 6 => exact .inl (.inl (.inl s))
  | k + 7 => exact .inl ⟨b, rfl⟩
theorem due_ok {w : Nat} {kd : Kd} {n c : Int} {hs : List Int} {u v : Int} (hw : w < 8) : (due w kd n c hs u v = 5 ∧ VW w kd.str n c hs u v) ∨ ∃ i, i < 5 ∧ due w kd n c hs u v = i ∧ RW w kd.str n c hs u v i := by
  unfold due
  by_cases a : w < 7 ∧ ¬ (0 ≤ n ∧ n ≤ (kd.bd : Int))
  · rw [if_pos a]
    have s : RS kd.str n 1 := .inr ⟨kd, rfl, a.2, rfl⟩
    refine .inr ⟨1, by decide, rfl, ?_⟩
    match w, a.1 with
    | 0, _ => exact s
    | 1, _ => exact s
    | 2, _ => exact .inl (.inl s)
    | 3, _ => exact .inl (.inl s)
    | 4, _ => exact .inl (.inl (.inl s))
    | 5, _ => exact .inl (.inl s)
    | 6, _ => exact .inl (.inl (.inl s))
  rw [if_neg a]
  have sz : w < 7 → ∃ m : Nat, VS kd.str n kd m := fun z => by
    have y : 0 ≤ n ∧ n ≤ (kd.bd : Int) := Classical.byContradiction fun y => a ⟨z, y⟩
    exact ⟨n.toNat, rfl, by omega, by omega⟩
  by_cases b : 1 < w ∧ ¬ (1 ≤ c ∧ c ≤ 3)
  · rw [if_pos b]
    refine .inr ⟨2, by decide, rfl, ?_⟩
    have s : w < 7 → RH kd.str n c 2 := fun z => by
      obtain ⟨m, e1, e2, e3⟩ := sz z
      exact .inr ⟨kd, m, rfl, e2, e3, b.2, rfl⟩
    match w, b.1, s, hw with
    | 2, _, s, _ => exact .inl (s (by decide))
    | 3, _, s, _ => exact .inl (s (by decide))
    | 4, _, s, _ => exact .inl (.inl (s (by decide)))
    | 5, _, s, _ => exact .inl (s (by decide))
    | 6, _, s, _ => exact .inl (.inl (s (by decide)))
    | 7, _, _, _ => exact .inr (.inl ⟨kd, rfl, b.2, rfl⟩)
  rw [if_neg b]
  have ch : 1 < w → ∃ ct : Nat, c = (ct : Int) ∧ Cnt ct := fun z => by
    have y : 1 ≤ c ∧ c ≤ 3 := Classical.byContradiction fun y => b ⟨z, y⟩
    exact ⟨c.toNat, by omega, by omega, by omega⟩
  by_cases g : 2 ≤ w ∧ w ≤ 4
  · rw [if_pos g]
    obtain ⟨m, hv⟩ := sz (by omega)
    obtain ⟨ct, rfl, hct⟩ := ch (by omega)
    obtain ⟨_, rfl, hm⟩ := id hv
    by_cases d : goodD kd (m : Int) (ct : Int) hs = false
    · rw [if_pos d]
      have nd : ¬ Dy kd m ct hs := fun z => by
        rw [goodD_dy.mpr z] at d
        cases d
      have s : RD kd.str (m : Int) (ct : Int) hs 3 := .inr ⟨kd, m, ct, rfl, rfl, hm, rfl, hct, nd, rfl⟩
      refine .inr ⟨3, by decide, rfl, ?_⟩
      match w, g with
      | 2, _ => exact s
      | 3, _ => exact s
      | 4, _ => exact .inl s
    rw [if_neg d]
    have dy : Dy kd m ct hs := goodD_dy.mp (by
      cases e : goodD kd (m : Int) (ct : Int) hs with
      | true => rfl
      | false => exact absurd e d)
    by_cases e : w < 4
    · rw [if_pos e]
      refine .inl ⟨rfl, ?_⟩
      match w, g, e with
      | 2, _, _ => exact ⟨kd, m, ct, hv, rfl, hct, dy⟩
      | 3, _, _ => exact ⟨kd, m, ct, hv, rfl, hct, dy⟩
    rw [if_neg e]
    obtain rfl : w = 4 := by omega
    by_cases f : (0 ≤ u ∧ u < (ct : Int)) ∧ (0 ≤ v ∧ v < (ct : Int))
    · rw [if_pos f]
      exact .inl ⟨rfl, kd, m, ct, u.toNat, v.toNat, hv, rfl, hct, dy, by omega, by omega, by omega, by omega⟩
    · rw [if_neg f]
      exact .inr ⟨2, by decide, rfl, .inr ⟨kd, m, ct, rfl, rfl, hm, rfl, hct, dy, f, rfl⟩⟩
  rw [if_neg g]
  by_cases p : w = 7 ∧ c = 3 ∧ kd ≠ .sums
  · rw [if_pos p]
    obtain ⟨rfl, hc, hk⟩ := p
    exact .inr ⟨4, by decide, rfl, .inr (.inr ⟨kd, rfl, hk, hc, rfl⟩)⟩
  rw [if_neg p]
  by_cases r : w = 6 ∧ c = 3 ∧ 8 < many kd n.toNat
  · rw [if_pos r]
    obtain ⟨rfl, hc, h8⟩ := r
    obtain ⟨m, hv⟩ := sz (by decide)
    obtain ⟨_, rfl, hm⟩ := id hv
    rw [Int.toNat_natCast] at h8
    refine .inr ⟨4, by decide, rfl, ?_⟩
    by_cases h15 : 15 < many kd m
    · exact .inl (.inr ⟨kd, m, 3, rfl, rfl, hm, hc, ⟨by decide, by decide⟩, h15, rfl⟩)
    · exact .inr ⟨kd, m, rfl, rfl, hm, hc, by omega, h8, rfl⟩
  rw [if_neg r]
  by_cases s : (5 ≤ w ∧ w ≤ 6) ∧ 15 < many kd n.toNat
  · rw [if_pos s]
    obtain ⟨m, hv⟩ := sz (by omega)
    obtain ⟨ct, rfl, hct⟩ := ch (by omega)
    obtain ⟨_, rfl, hm⟩ := id hv
    have h15 := s.2
    rw [Int.toNat_natCast] at h15
    have z : RQ kd.str (m : Int) (ct : Int) 4 := .inr ⟨kd, m, ct, rfl, rfl, hm, rfl, hct, h15, rfl⟩
    refine .inr ⟨4, by decide, rfl, ?_⟩
    match w, s.1 with
    | 5, _ => exact z
    | 6, _ => exact .inl z
  rw [if_neg s]
  refine .inl ⟨rfl, ?_⟩
  match w, g, hw, sz, ch, p, r, s with
  | 0, _, _, sz, _, _, _, _ => exact ⟨kd, sz (by decide)⟩
  | 1, _, _, sz, _, _, _, _ => exact ⟨kd, sz (by decide)⟩
  | 5, _, _, sz, ch, _, _, s =>
    obtain ⟨m, hv⟩ := sz (by decide)
    obtain ⟨ct, rfl, hct⟩ := ch (by decide)
    obtain ⟨_, rfl, hm⟩ := id hv
    rw [Int.toNat_natCast] at s
    exact ⟨kd, m, ct, hv, rfl, hct, Nat.le_of_not_lt fun z => s ⟨by decide, z⟩⟩
  | 6, _, _, sz, ch, _, r, s =>
    obtain ⟨m, hv⟩ := sz (by decide)
    obtain ⟨ct, rfl, hct⟩ := ch (by decide)
    obtain ⟨_, rfl, hm⟩ := id hv
    rw [Int.toNat_natCast] at s r
    exact ⟨kd, m, ct, hv, rfl, hct, Nat.le_of_not_lt fun z => s ⟨by decide, z⟩, fun e => Nat.le_of_not_lt fun z => r ⟨rfl, by omega, z⟩⟩
  | 7, _, _, _, ch, p, _, _ =>
    obtain ⟨ct, rfl, c1, c3⟩ := ch (by decide)
    refine ⟨kd, ct, rfl, rfl, ?_⟩
    by_cases e : ct = 3
    · exact .inr (.inr ⟨e, Classical.byContradiction fun z => p ⟨rfl, by omega, z⟩⟩)
    · omega
end Oh
namespace Oh
open PySem PySem.Spec PyProof.Rows L2
def topS (i : Nat) : Stmt := PySem.Challenge.pw_onehue_k10_which_refusal.main.body.getD i (.Pass ⟨0, 0, 0, 0⟩)
abbrev s_asked_kind : Stmt := topS 9
theorem sc_asked_kind : FnScope ["kind"] ["kind"] (defScope s_asked_kind) := ⟨rfl, rfl, rfl, by decide +kernel, rfl, by decide +kernel, by decide +kernel⟩
abbrev s_asked_size : Stmt := topS 10
theorem sc_asked_size : FnScope ["kind", "size"] ["kind", "size"] (defScope s_asked_size) := ⟨rfl, rfl, rfl, by decide +kernel, rfl, by decide +kernel, by decide +kernel⟩
abbrev s_things : Stmt := topS 11
theorem sc_things : FnScope ["kind", "size"] ["kind", "size"] (defScope s_things) := ⟨rfl, rfl, rfl, by decide +kernel, rfl, by decide +kernel, by decide +kernel⟩
abbrev s_pair_numbers : Stmt := topS 12
theorem sc_pair_numbers : FnScope ["size", "found", "low", "high"] ["size"] (defScope s_pair_numbers) := ⟨rfl, rfl, rfl, by decide +kernel, rfl, by decide +kernel, by decide +kernel⟩
abbrev s_pair_triples : Stmt := topS 13
theorem sc_pair_triples : FnScope ["size", "numbers", "found", "low", "middle", "high"] ["size"] (defScope s_pair_triples) := ⟨rfl, rfl, rfl, by decide +kernel, rfl, by decide +kernel, by decide +kernel⟩
abbrev s_triples : Stmt := topS 14
theorem sc_triples : FnScope ["kind", "size", "found", "one", "other"] ["kind", "size"] (defScope s_triples) := ⟨rfl, rfl, rfl, by decide +kernel, rfl, by decide +kernel, by decide +kernel⟩
abbrev s_asked_hues : Stmt := topS 17
theorem sc_asked_hues : FnScope ["kind", "size", "count"] ["kind", "size", "count"] (defScope s_asked_hues) := ⟨rfl, rfl, rfl, by decide +kernel, rfl, by decide +kernel, by decide +kernel⟩
abbrev s_asked_dyeing : Stmt := topS 18
theorem sc_asked_dyeing : FnScope ["kind", "size", "count", "hues", "hue"] ["kind", "size", "count", "hues"] (defScope s_asked_dyeing) := ⟨rfl, rfl, rfl, by decide +kernel, rfl, by decide +kernel, by decide +kernel⟩
abbrev s_one_hued : Stmt := topS 19
theorem sc_one_hued : FnScope ["kind", "size", "count", "hues", "one"] ["kind", "size", "count", "hues"] (defScope s_one_hued) := ⟨rfl, rfl, rfl, by decide +kernel, rfl, by decide +kernel, by decide +kernel⟩
abbrev s_is_free : Stmt := topS 20
theorem sc_is_free : FnScope ["kind", "size", "count", "hues"] ["kind", "size", "count", "hues"] (defScope s_is_free) := ⟨rfl, rfl, rfl, by decide +kernel, rfl, by decide +kernel, by decide +kernel⟩
abbrev s_exchanged : Stmt := topS 21
theorem sc_exchanged : FnScope ["kind", "size", "count", "hues", "one", "other", "hue", "names"] ["kind", "size", "count", "hues", "one", "other"] (defScope s_exchanged) := ⟨rfl, rfl, rfl, by decide +kernel, rfl, by decide +kernel, by decide +kernel⟩
abbrev s_by_last : Stmt := topS 25
theorem sc_by_last : FnScope ["kind", "size", "found", "thing", "one"] ["kind", "size"] (defScope s_by_last) := ⟨rfl, rfl, rfl, by decide +kernel, rfl, by decide +kernel, by decide +kernel⟩
abbrev s_fits : Stmt := topS 26
theorem sc_fits : FnScope ["hues", "others", "hue", "one", "other"] ["hues", "others", "hue"] (defScope s_fits) := ⟨rfl, rfl, rfl, by decide +kernel, rfl, by decide +kernel, by decide +kernel⟩
abbrev s_asked_search : Stmt := topS 27
theorem sc_asked_search : FnScope ["kind", "size", "count"] ["kind", "size", "count"] (defScope s_asked_search) := ⟨rfl, rfl, rfl, by decide +kernel, rfl, by decide +kernel, by decide +kernel⟩
abbrev s_first_from : Stmt := topS 28
theorem sc_first_from : FnScope ["lists", "count", "hues", "hue", "found"] ["lists", "count", "hues"] (defScope s_first_from) := ⟨rfl, rfl, rfl, by decide +kernel, rfl, by decide +kernel, by decide +kernel⟩
abbrev s_first_free : Stmt := topS 29
theorem sc_first_free : FnScope ["kind", "size", "count"] ["kind", "size", "count"] (defScope s_first_free) := ⟨rfl, rfl, rfl, by decide +kernel, rfl, by decide +kernel, by decide +kernel⟩
abbrev s_count_from : Stmt := topS 30
theorem sc_count_from : FnScope ["lists", "count", "hues", "total", "hue"] ["lists", "count", "hues"] (defScope s_count_from) := ⟨rfl, rfl, rfl, by decide +kernel, rfl, by decide +kernel, by decide +kernel⟩
abbrev s_how_many : Stmt := topS 31
theorem sc_how_many : FnScope ["kind", "size", "count"] ["kind", "size", "count"] (defScope s_how_many) := ⟨rfl, rfl, rfl, by decide +kernel, rfl, by decide +kernel, by decide +kernel⟩
abbrev s_first_size : Stmt := topS 32
theorem sc_first_size : FnScope ["kind", "count", "size"] ["kind", "count"] (defScope s_first_size) := ⟨rfl, rfl, rfl, by decide +kernel, rfl, by decide +kernel, by decide +kernel⟩
abbrev s_law_cell_at : Stmt := topS 34
theorem sc_law_cell_at : FnScope ["script", "k"] ["script", "k"] (defScope s_law_cell_at) := ⟨rfl, rfl, rfl, by decide +kernel, rfl, by decide +kernel, by decide +kernel⟩
abbrev s_law_pairs : Stmt := topS 35
theorem sc_law_pairs : FnScope ["size", "found", "low", "high"] ["size"] (defScope s_law_pairs) := ⟨rfl, rfl, rfl, by decide +kernel, rfl, by decide +kernel, by decide +kernel⟩
abbrev s_law_many : Stmt := topS 36
theorem sc_law_many : FnScope ["kind", "size"] ["kind", "size"] (defScope s_law_many) := ⟨rfl, rfl, rfl, by decide +kernel, rfl, by decide +kernel, by decide +kernel⟩
abbrev s_law_triples : Stmt := topS 37
theorem sc_law_triples : FnScope ["kind", "size", "found", "pairs", "low", "middle", "high", "one", "last"] ["kind", "size"] (defScope s_law_triples) := ⟨rfl, rfl, rfl, by decide +kernel, rfl, by decide +kernel, by decide +kernel⟩
abbrev s_law_kind_by : Stmt := topS 38
theorem sc_law_kind_by : FnScope ["script", "at", "bounds", "place"] ["script", "at", "bounds"] (defScope s_law_kind_by) := ⟨rfl, rfl, rfl, by decide +kernel, rfl, by decide +kernel, by decide +kernel⟩
abbrev s_law_stirred : Stmt := topS 39
theorem sc_law_stirred : FnScope ["cell", "k", "number"] ["cell", "k"] (defScope s_law_stirred) := ⟨rfl, rfl, rfl, by decide +kernel, rfl, by decide +kernel, by decide +kernel⟩
abbrev s_law_dyed_by : Stmt := topS 40
theorem sc_law_dyed_by : FnScope ["script", "at", "many", "count", "cell", "way", "hues", "k", "hue"] ["script", "at", "many", "count"] (defScope s_law_dyed_by) := ⟨rfl, rfl, rfl, by decide +kernel, rfl, by decide +kernel, by decide +kernel⟩
abbrev s_law_other : Stmt := topS 41
theorem sc_law_other : FnScope ["e", "wanted", "marks", "k"] ["e", "wanted"] (defScope s_law_other) := ⟨rfl, rfl, rfl, by decide +kernel, rfl, by decide +kernel, by decide +kernel⟩
abbrev s_law_called : Stmt := topS 42
theorem sc_law_called : FnScope ["which", "kind", "size", "count", "hues", "two"] ["which", "kind", "size", "count", "hues", "two"] (defScope s_law_called) := ⟨rfl, rfl, rfl, by decide +kernel, rfl, by decide +kernel, by decide +kernel⟩
abbrev s_law_told : Stmt := topS 43
theorem sc_law_told : FnScope ["which", "kind", "size", "count", "hues", "two", "e", "wanted"] ["which", "kind", "size", "count", "hues", "two"] (defScope s_law_told) := ⟨rfl, rfl, rfl, by decide +kernel, rfl, by decide +kernel, by decide +kernel⟩
abbrev s_law_due : Stmt := topS 44
theorem sc_law_due : FnScope ["which", "kind", "size", "count", "hues", "two", "good", "hue"] ["which", "kind", "size", "count", "hues", "two"] (defScope s_law_due) := ⟨rfl, rfl, rfl, by decide +kernel, rfl, by decide +kernel, by decide +kernel⟩
abbrev s_law : Stmt := topS 45
theorem sc_law : FnScope ["script", "kind", "size", "count", "hues", "at", "how", "which", "handed", "two", "due"] ["script"] (defScope s_law) := ⟨rfl, rfl, rfl, by decide +kernel, rfl, by decide +kernel, by decide +kernel⟩
def sp_law_cell_at (K : PySem.W.Frag) (w : World) : Sp := fun vs H Q _ => ∃ (a : Addr) (ns : List Int) (k : Nat), vs = [.ref a, .int k] ∧ SqL K H a (ns.map V.int) ∧ Q (.int (ns.getD k 0)) H
def sp_law_pairs (K : PySem.W.Frag) (w : World) : Sp := fun vs H Q _ => ∃ n : Nat, vs = [.int n] ∧ n ≤ 40 ∧ ∀ H' p, Same H H' → H p = none → LT H' p ((prs n).map pl) → Q (.ref p) H'
def sp_law_many (K : PySem.W.Frag) (w : World) : Sp := fun vs H Q _ => ∃ (kd : Kd) (n : Nat), vs = [.str kd.str, .int n] ∧ n ≤ kd.bd ∧ ∀ H', Same H H' → Q (.int (many kd n)) H'
def sp_law_kind_by (K : PySem.W.Frag) (w : World) : Sp := fun vs H Q _ => ∃ (a : Addr) (ns : List Int) (k : Nat) (b : Addr) (bs : Kd → Nat), vs = [.ref a, .int k, .ref b] ∧ SqL K H a (ns.map V.int) ∧ SqL K H b [.int (bs .pairs), .int (bs .sums), .int (bs .steps)] ∧ ∀ (kd : Kd) (n : Nat) H' p, n ≤ bs kd → Same H H' → H p = none → H' p = some (.tup [.str kd.str, .int n]) → Q (.ref p) H'
def sp_asked_kind (K : PySem.W.Frag) (w : World) : Sp := fun vs H Q _ => ∃ kd : Kd, vs = [.str kd.str] ∧ Q .non H
def sp_asked_size (K : PySem.W.Frag) (w : World) : Sp := fun vs H Q _ => ∃ (kd : Kd) (n : Nat), vs = [.str kd.str, .int n] ∧ n ≤ kd.bd ∧ Q .non H
def sp_things (K : PySem.W.Frag) (w : World) : Sp := fun vs H Q _ => ∃ (kd : Kd) (n : Nat), vs = [.str kd.str, .int n] ∧ n ≤ kd.bd ∧ Q (.int (many kd n)) H
def sp_pair_numbers (K : PySem.W.Frag) (w : World) : Sp := fun vs H Q _ => ∃ n : Nat, vs = [.int n] ∧ n ≤ 40 ∧ ∀ H' d, Same H H' → H d = none → H' d = some (.dT (numK (prs n))) → Q (.ref d) H'
def sp_pair_triples (K : PySem.W.Frag) (w : World) : Sp := fun vs H Q _ => ∃ n : Nat, vs = [.int n] ∧ n ≤ 9 ∧ ∀ H' p, Same H H' → H p = none → LT H' p ((pt n).map tl) → Q (.ref p) H'
def sp_triples (K : PySem.W.Frag) (w : World) : Sp := fun vs H Q _ => ∃ (kd : Kd) (n : Nat), vs = [.str kd.str, .int n] ∧ n ≤ kd.bd ∧ ∀ H' p, Same H H' → H p = none → LT H' p ((trs kd n).map tl) → Q (.ref p) H'
def sp_asked_hues (K : PySem.W.Frag) (w : World) : Sp := fun vs H Q _ => ∃ (kd : Kd) (n c : Nat), vs = [.str kd.str, .int n, .int c] ∧ n ≤ kd.bd ∧ Cnt c ∧ Q .non H
def sp_asked_dyeing (K : PySem.W.Frag) (w : World) : Sp := fun vs H Q _ => ∃ (kd : Kd) (n c : Nat) (a : Addr) (hs : List Int), vs = [.str kd.str, .int n, .int c, .ref a] ∧ n ≤ kd.bd ∧ Cnt c ∧ SqL K H a (hs.map V.int) ∧ Dy kd n c hs ∧ Q .non H
def sp_one_hued (K : PySem.W.Frag) (w : World) : Sp := fun vs H Q _ => ∃ (kd : Kd) (n c : Nat) (a : Addr) (hs : List Int), vs = [.str kd.str, .int n, .int c, .ref a] ∧ n ≤ kd.bd ∧ Cnt c ∧ SqL K H a (hs.map V.int) ∧ Dy kd n c hs ∧ ∀ H' p, Same H H' → H p = none → LT H' p ((mono hs (trs kd n)).map tl) → Q (.ref p) H'
def sp_is_free (K : PySem.W.Frag) (w : World) : Sp := fun vs H Q _ => ∃ (kd : Kd) (n c : Nat) (a : Addr) (hs : List Int), vs = [.str kd.str, .int n, .int c, .ref a] ∧ n ≤ kd.bd ∧ Cnt c ∧ SqL K H a (hs.map V.int) ∧ Dy kd n c hs ∧ ∀ H', Same H H' → Q (.bl (fre kd n hs)) H'
def sp_law_stirred (K : PySem.W.Frag) (w : World) : Sp := fun vs H Q _ => ∃ (c k : Int), vs = [.int c, .int k] ∧ ∀ r : Int, Q (.int r) H
def sp_law_dyed_by (K : PySem.W.Frag) (w : World) : Sp := fun vs H Q _ => ∃ (a : Addr) (ns : List Int) (k m c : Nat), vs = [.ref a, .int k, .int m, .int c] ∧ SqL K H a (ns.map V.int) ∧ m ≤ 40 ∧ Cnt c ∧ ∀ H' p (hs : List Int), Same H H' → H p = none → H' p = some (.lst (hs.map V.int)) → hs.length = m → (∀ h ∈ hs, 0 ≤ h ∧ h < (c : Int)) → Q (.ref p) H'
def sp_by_last (K : PySem.W.Frag) (w : World) : Sp := fun vs H Q _ => ∃ (kd : Kd) (n : Nat), vs = [.str kd.str, .int n] ∧ n ≤ kd.bd ∧ ∀ H' p, Same H H' → H p = none → LLT H' p (many kd n) (fun i => (blp kd n i).map pl) → Q (.ref p) H'
def sp_fits (K : PySem.W.Frag) (w : World) : Sp := fun vs H Q _ => ∃ (a : Addr) (hs : List Int) (b : Addr) (ps : List (Nat × Nat)) (x : Int), vs = [.ref a, .ref b, .int x] ∧ SqL K H a (hs.map V.int) ∧ LT H b (ps.map pl) ∧ (∀ p ∈ ps, p.1 < hs.length ∧ p.2 < hs.length) ∧ Q (.bl (fit hs ps x)) H
def sp_asked_search (K : PySem.W.Frag) (w : World) : Sp := fun vs H Q _ => ∃ (kd : Kd) (n c : Nat), vs = [.str kd.str, .int n, .int c] ∧ n ≤ kd.bd ∧ Cnt c ∧ many kd n ≤ 15 ∧ Q .non H
def spr_first_from (K : PySem.W.Frag) (w : World) : Nat → Sp
  | 0 => fun _ _ _ _ => False
  | k + 1 => fun vs H Q _ => ∃ (p : Addr) (f : Nat → List (Nat × Nat)) (m c : Nat) (a : Addr) (hs : List Int), vs = [.ref p, .int c, .ref a] ∧ LLT H p m (fun i => (f i).map pl) ∧ (∀ i, ∀ pr ∈ f i, pr.1 < i ∧ pr.2 < i) ∧ c ≤ 3 ∧ m ≤ 40 ∧ H a = some (.lst (hs.map V.int)) ∧ hs.length + k = m ∧ (ff f c k hs = none → ∀ H', Same H H' → Q .non H') ∧ ∀ r, ff f c k hs = some r → ∀ H' x, Same H H' → (x = a ∨ H x = none) → H' x = some (.lst (r.map V.int)) → Q (.ref x) H'
def sp_first_from (K : PySem.W.Frag) (w : World) : Sp := fun vs H Q E => ∃ k, k ≤ 18 ∧ spr_first_from K w k vs H Q E
def sp_first_free (K : PySem.W.Frag) (w : World) : Sp := fun vs H Q _ => ∃ (kd : Kd) (n c : Nat), vs = [.str kd.str, .int n, .int c] ∧ n ≤ kd.bd ∧ Cnt c ∧ many kd n ≤ 15 ∧ (ffr kd n c = none → ∀ H', Same H H' → Q .non H') ∧ ∀ r, ffr kd n c = some r → ∀ H' x, Same H H' → H x = none → H' x = some (.lst (r.map V.int)) → Q (.ref x) H'
def spr_count_from (K : PySem.W.Frag) (w : World) : Nat → Sp
  | 0 => fun _ _ _ _ => False
  | k + 1 => fun vs H Q _ => ∃ (p : Addr) (f : Nat → List (Nat × Nat)) (m c : Nat) (a : Addr) (hs : List Int), vs = [.ref p, .int c, .ref a] ∧ LLT H p m (fun i => (f i).map pl) ∧ (∀ i, ∀ pr ∈ f i, pr.1 < i ∧ pr.2 < i) ∧ c ≤ 3 ∧ m ≤ 40 ∧ H a = some (.lst (hs.map V.int)) ∧ hs.length + k = m ∧ ∀ H', Same H H' → Q (.int (cf f c k hs : Nat)) H'
def sp_count_from (K : PySem.W.Frag) (w : World) : Sp := fun vs H Q E => ∃ k, k ≤ 18 ∧ spr_count_from K w k vs H Q E
def sp_how_many (K : PySem.W.Frag) (w : World) : Sp := fun vs H Q _ => ∃ (kd : Kd) (n c : Nat), vs = [.str kd.str, .int n, .int c] ∧ n ≤ kd.bd ∧ Cnt c ∧ many kd n ≤ 15 ∧ (c = 3 → many kd n ≤ 8) ∧ ∀ H', Same H H' → Q (.int (cfr kd n c : Nat)) H'
def sp_first_size (K : PySem.W.Frag) (w : World) : Sp := fun vs H Q _ => ∃ (kd : Kd) (c : Nat), vs = [.str kd.str, .int c] ∧ Fcs kd c ∧ ∀ H', Same H H' → Q (.int (fsz kd c : Nat)) H'
def sp_exchanged (K : PySem.W.Frag) (w : World) : Sp := fun vs H Q _ => ∃ (kd : Kd) (n c : Nat) (a : Addr) (hs : List Int) (u v : Nat), vs = [.str kd.str, .int n, .int c, .ref a, .int u, .int v] ∧ n ≤ kd.bd ∧ Cnt c ∧ SqL K H a (hs.map V.int) ∧ Dy kd n c hs ∧ u < c ∧ v < c ∧ ∀ H' p, Same H H' → H p = none → H' p = some (.lst ((swp u v hs).map V.int)) → Q (.ref p) H'
def sp_asked_kind_x (K : PySem.W.Frag) (w : World) (mg : Str → Option Value) : Sp := fun vs H _ E => ∃ ks : Str, vs = [.str ks] ∧ BadK ks ∧ RefE mg H E 0
def sp_asked_size_x (K : PySem.W.Frag) (w : World) (mg : Str → Option Value) : Sp := fun vs H _ E => ∃ (ks : Str) (n : Int) (i : Nat), vs = [.str ks, .int n] ∧ RS ks n i ∧ RefE mg H E i
def sp_things_x (K : PySem.W.Frag) (w : World) (mg : Str → Option Value) : Sp := fun vs H _ E => ∃ (ks : Str) (n : Int) (i : Nat), vs = [.str ks, .int n] ∧ RS ks n i ∧ RefE mg H E i
def sp_triples_x (K : PySem.W.Frag) (w : World) (mg : Str → Option Value) : Sp := fun vs H _ E => ∃ (ks : Str) (n : Int) (i : Nat), vs = [.str ks, .int n] ∧ RS ks n i ∧ RefE mg H E i
def sp_asked_hues_x (K : PySem.W.Frag) (w : World) (mg : Str → Option Value) : Sp := fun vs H _ E => ∃ (ks : Str) (n c : Int) (i : Nat), vs = [.str ks, .int n, .int c] ∧ RH ks n c i ∧ RefE mg H E i
def sp_asked_dyeing_x (K : PySem.W.Frag) (w : World) (mg : Str → Option Value) : Sp := fun vs H _ E => ∃ (ks : Str) (n c : Int) (a : Addr) (hs : List Int) (i : Nat), vs = [.str ks, .int n, .int c, .ref a] ∧ SqL K H a (hs.map V.int) ∧ RD ks n c hs i ∧ RefE mg H E i
def sp_one_hued_x (K : PySem.W.Frag) (w : World) (mg : Str → Option Value) : Sp := fun vs H _ E => ∃ (ks : Str) (n c : Int) (a : Addr) (hs : List Int) (i : Nat), vs = [.str ks, .int n, .int c, .ref a] ∧ SqL K H a (hs.map V.int) ∧ RD ks n c hs i ∧ RefE mg H E i
def sp_is_free_x (K : PySem.W.Frag) (w : World) (mg : Str → Option Value) : Sp := fun vs H _ E => ∃ (ks : Str) (n c : Int) (a : Addr) (hs : List Int) (i : Nat), vs = [.str ks, .int n, .int c, .ref a] ∧ SqL K H a (hs.map V.int) ∧ RD ks n c hs i ∧ RefE mg H E i
def sp_exchanged_x (K : PySem.W.Frag) (w : World) (mg : Str → Option Value) : Sp := fun vs H _ E => ∃ (ks : Str) (n c : Int) (a : Addr) (hs : List Int) (u v : Int) (i : Nat), vs = [.str ks, .int n, .int c, .ref a, .int u, .int v] ∧ SqL K H a (hs.map V.int) ∧ RX ks n c hs u v i ∧ RefE mg H E i
def sp_asked_search_x (K : PySem.W.Frag) (w : World) (mg : Str → Option Value) : Sp := fun vs H _ E => ∃ (ks : Str) (n c : Int) (i : Nat), vs = [.str ks, .int n, .int c] ∧ RQ ks n c i ∧ RefE mg H E i
def sp_first_free_x (K : PySem.W.Frag) (w : World) (mg : Str → Option Value) : Sp := fun vs H _ E => ∃ (ks : Str) (n c : Int) (i : Nat), vs = [.str ks, .int n, .int c] ∧ RQ ks n c i ∧ RefE mg H E i
def sp_how_many_x (K : PySem.W.Frag) (w : World) (mg : Str → Option Value) : Sp := fun vs H _ E => ∃ (ks : Str) (n c : Int) (i : Nat), vs = [.str ks, .int n, .int c] ∧ RM ks n c i ∧ RefE mg H E i
def sp_first_size_x (K : PySem.W.Frag) (w : World) (mg : Str → Option Value) : Sp := fun vs H _ E => ∃ (ks : Str) (c : Int) (i : Nat), vs = [.str ks, .int c] ∧ RF ks c i ∧ RefE mg H E i
def sp_law_called (K : PySem.W.Frag) (w : World) : Sp := fun vs H Q _ => ∃ (w : Nat) (ks : Str) (n c : Int) (a : Addr) (hs : List Int) (b : Addr) (u v : Int), vs = [.int w, .str ks, .int n, .int c, .ref a, .ref b] ∧ w < 8 ∧ SqL K H a (hs.map V.int) ∧ SqL K H b [.int u, .int v] ∧ VW w ks n c hs u v ∧ ∀ H', Same H H' → Q .non H'
def sp_law_called_x (K : PySem.W.Frag) (w : World) (mg : Str → Option Value) : Sp := fun vs H _ E => ∃ (w : Nat) (ks : Str) (n c : Int) (a : Addr) (hs : List Int) (b : Addr) (u v : Int) (i : Nat), vs = [.int w, .str ks, .int n, .int c, .ref a, .ref b] ∧ w < 8 ∧ SqL K H a (hs.map V.int) ∧ SqL K H b [.int u, .int v] ∧ RW w ks n c hs u v i ∧ RefE mg H E i
def sp_law_told (K : PySem.W.Frag) (w : World) : Sp := fun vs H Q _ => ∃ (w : Nat) (ks : Str) (n c : Int) (a : Addr) (hs : List Int) (b : Addr) (u v : Int) (r : Nat), vs = [.int w, .str ks, .int n, .int c, .ref a, .ref b] ∧ w < 8 ∧ SqL K H a (hs.map V.int) ∧ SqL K H b [.int u, .int v] ∧ ((r = 5 ∧ VW w ks n c hs u v) ∨ (r < 5 ∧ RW w ks n c hs u v r)) ∧ ∀ H', Same H H' → Q (.int r) H'
def sp_law_due (K : PySem.W.Frag) (w : World) : Sp := fun vs H Q _ => ∃ (w : Nat) (ks : Str) (n c : Int) (a : Addr) (hs : List Int) (b : Addr) (u v : Int), vs = [.int w, .str ks, .int n, .int c, .ref a, .ref b] ∧ w < 8 ∧ SqL K H a (hs.map V.int) ∧ hs.length ≤ 100 ∧ SqL K H b [.int u, .int v] ∧ (BadK ks ∨ ∃ kd : Kd, ks = kd.str) ∧ ∀ (r : Nat) H', ((r = 5 ∧ VW w ks n c hs u v) ∨ (r < 5 ∧ RW w ks n c hs u v r)) → Same H H' → Q (.int r) H'
def sp_law (K : PySem.W.Frag) (w : World) : Sp := fun vs H Q _ => ∃ (a : Addr) (ns : List Int), vs = [.ref a] ∧ SqL K H a (ns.map V.int) ∧ ns.length ≤ 63 ∧ ∀ H', Q (.bl true) H'
section
variable {P : Program} {w : World} {K : PySem.W.Frag} {mg : Str → Option Value} {base : Heap}
theorem ok_law_cell_at (D : Def K mg "_law_cell_at" s_law_cell_at ["script", "k"]) (mz : Bl mg)  : Has P w K mg base CX0 1 "_law_cell_at" ["script", "k"] (sp_law_cell_at K w) := by
  refine D.ok sc_law_cell_at (fun vs H Q E h => ?_) (fun f cdv A outer s H vs Q E hr h => ?_)
  · obtain ⟨a, ns, k, rfl, _⟩ := h
    rfl
  have hu := hu_of hr
  obtain ⟨a, ns, k, rfl, hS, q⟩ := h
  refine ⟨_, (pss_cons (ps_if (pt_cmpR op_lt (pv 1) (pe_callB call_len_seq (by rfl) mz.len PySem.boot_len (pa_cons (pv 0) pa_nil)) (nomark _)) (pss_one (ps_ret (pe_ix ix_list (pv 0) (pv 1) (fun _ _ => rfl)))) pss_nil)
  (pss_one (ps_ret pe_int))), ?_⟩
  refine ⟨_, rfl, _, rfl, a, _, rfl, .inl hS, _, _, rfl, rfl, _, rfl, ite2 (fun c => ?_) (fun c => ?_)⟩
  · have c' : k < ns.length := by
      have c1 := of_decide_eq_true c
      rw [List.length_map] at c1
      omega
    refine ⟨_, rfl, _, rfl, a, _, k, .int ns[k], rfl, rfl, hS, atI_nat (by rw [List.getElem?_map, List.getElem?_eq_getElem c']; rfl), ?_⟩
    have e : ns.getD k 0 = ns[k] := by simp [List.getD, List.getElem?_eq_getElem c']
    rw [e] at q
    exact q
  · have c' : ¬ k < ns.length := fun z => c (decide_eq_true (by rw [List.length_map]; omega))
    have e : ns.getD k 0 = 0 := by simp [List.getD, List.getElem?_eq_none (Nat.le_of_not_lt c')]
    rw [e] at q
    exact q
theorem ok_law_pairs (D : Def K mg "_law_pairs" s_law_pairs ["size"]) (mz : Bl mg)  : Has P w K mg base CX0 1 "_law_pairs" ["size"] (sp_law_pairs K w) := by
  refine D.ok sc_law_pairs (fun vs H Q E h => ?_) (fun f cdv A outer s H vs Q E hr h => ?_)
  · obtain ⟨n, rfl, _⟩ := h
    rfl
  have hu := hu_of hr
  obtain ⟨n, rfl, hn, q⟩ := h
  refine ⟨_, (pss_cons (ps_set (i := 1) sc_law_pairs.nd rfl (.inl rfl) (pe_lst pa_nil))
  (pss_cons (ps_for PassesOwn.never rfl (pi_range1 rfl mz.range (pa_cons (pv 0) pa_nil)) (pg_name (i := 2) sc_law_pairs.nd rfl (.inl rfl)) (pss_one (ps_for PassesOwn.never rfl (pi_range2 rfl mz.range (pa_cons (pe_op op_add (pv 2) pe_int) (pa_cons (pv 0) pa_nil))) (pg_name (i := 3) sc_law_pairs.nd rfl (.inl rfl)) (pss_one (ps_expr (pe_bm PySem.F.plainAttrs_list PySem.F.slot_list_append PySem.F.type_list_append mt_append (pv 1) (pa_cons (pe_tup (pa_cons (pv 2) (pa_cons (pv 3) pa_nil))) pa_nil)))))))
  (pss_one (ps_ret (pv 1))))), ?_⟩
  refine ⟨sl0, fun p hp => ?_⟩
  refine ⟨_, rfl, n, rfl, by omega, by omega, for_range (lo := 0) (n := ((n : Nat) : Int).toNat) (fun i σ H' => ∃ l m, σ = [some (.int n), some (.ref p), l, m] ∧ Same H H' ∧ LT H' p (((List.range i).flatMap (rowP n)).map pl)) ⟨none, none, rfl, same_new hp _, LT.nil upd_same⟩ (fun i σ H1 hi hW => ?_) (fun σ H1 hW => ?_)⟩
  · obtain ⟨l, m, rfl, s1, L1⟩ := hW
    have hi' : i < n := by omega
    refine ⟨_, rfl, _, _, rfl, rfl, _, rfl, _, _, rfl, ⟨by omega, by omega, by omega, by omega⟩, ?_⟩
    refine for_range (lo := 0 + (i : Int) + 1) (n := ((n : Int) - (0 + (i : Int) + 1)).toNat) (fun j σ H' => ∃ m, σ = [some (.int n), some (.ref p), some (.int (0 + (i : Int))), m] ∧ Same H H' ∧ LT H' p (((List.range i).flatMap (rowP n) ++ (List.range j).map (fun j => (i, i + 1 + j))).map pl)) ⟨m, rfl, s1, by simpa using L1⟩ (fun j σ H2 hj hW => ?_) (fun σ H2 hW => ?_)
    · obtain ⟨m, rfl, s2, L2⟩ := hW
      obtain ⟨xs, e2, l2⟩ := L2.len
      refine ⟨_, rfl, .inl ⟨rfl, _, SqL.of e2⟩, _, rfl, _, rfl, sl2, fun T hT => ?_⟩
      have hpT : p ≠ T := ne_of_none e2 hT
      refine ⟨p, xs, _, rfl, rfl, by rw [upd_ne hpT]; exact e2, ?_, ?_⟩
      · rw [l2, List.length_map]
        have z := prs_upto (n := n) (i := i) (j := j) (by omega) (by omega)
        have z2 : n * n ≤ 40 * 40 := Nat.mul_le_mul hn hn
        exact sl_lt (by omega)
      · have L3 := L2.push (t := pl (i, i + 1 + j)) e2 hT
        refine ⟨_, rfl, same_upd (same_upd s2 (s2.free hT) _) hp _, ?_⟩
        rw [mp_succ, ← List.append_assoc, List.map_append]
        have e : ([.int (0 + (i : Int)), .int (0 + (i : Int) + 1 + (j : Int))] : List V) = rv (pl (i, i + 1 + j)) := by
          show _ = [V.int ((i : Nat) : Int), V.int ((i + 1 + j : Nat) : Int)]
          congr 2
          · omega
          · congr 1
            omega
        rw [e]
        exact L3
    · obtain ⟨m, rfl, s2, L2⟩ := hW
      have e : ((n : Int) - (0 + (i : Int) + 1)).toNat = n - (i + 1) := by omega
      rw [e] at L2
      exact ⟨_, _, rfl, s2, by rw [fm_succ]; exact L2⟩
  · obtain ⟨l, m, rfl, s1, L1⟩ := hW
    rw [Int.toNat_natCast] at L1
    exact ⟨_, rfl, q H1 p s1 hp L1⟩
theorem ok_law_many (D : Def K mg "_law_many" s_law_many ["kind", "size"]) (mz : Bl mg) (h_law_pairs : Has P w K mg base CX0 1 "_law_pairs" ["size"] (sp_law_pairs K w)) : Has P w K mg base CX0 2 "_law_many" ["kind", "size"] (sp_law_many K w) := by
  refine D.ok sc_law_many (fun vs H Q E h => ?_) (fun f cdv A outer s H vs Q E hr h => ?_)
  · obtain ⟨kd, n, rfl, _⟩ := h
    rfl
  have hu := hu_of hr
  obtain ⟨kd, n, rfl, hn, q⟩ := h
  refine ⟨_, (pss_cons (ps_if (pt_cmpR op_eq (pv 0) pe_str (nomark _)) (pss_one (ps_ret (pe_callB call_len_seq (by rfl) mz.len PySem.boot_len (pa_cons (pe_cal h_law_pairs hr (by decide) rfl (pa_cons (pv 1) pa_nil)) pa_nil)))) pss_nil)
  (pss_one (ps_ret (pv 1)))), ?_⟩
  refine ⟨_, rfl, rfl, _, rfl, kd_if (kd' := .pairs) (fun c => ?_) (fun c => ?_)⟩
  · subst c
    refine ⟨_, rfl, n, rfl, Nat.le_trans hn (Kd.bd40 _), fun H1 p s1 hp L1 => ?_⟩
    obtain ⟨xs, e, l⟩ := L1.len
    refine ⟨p, xs, rfl, .inl (SqL.of e), ?_⟩
    rw [l, List.length_map]
    exact q H1 s1
  · have e : many kd n = n := by
      cases kd with
      | pairs => exact absurd rfl c
      | sums => rfl
      | steps => rfl
    rw [e] at q
    exact ⟨_, rfl, q H (Same.refl H)⟩
theorem ok_law_kind_by (D : Def K mg "_law_kind_by" s_law_kind_by ["script", "at", "bounds"]) (mz : Bl mg) (h_law_cell_at : Has P w K mg base CX0 1 "_law_cell_at" ["script", "k"] (sp_law_cell_at K w)) : Has P w K mg base CX0 2 "_law_kind_by" ["script", "at", "bounds"] (sp_law_kind_by K w) := by
  refine D.ok sc_law_kind_by (fun vs H Q E h => ?_) (fun f cdv A outer s H vs Q E hr h => ?_)
  · obtain ⟨a, ns, k, b, bs, rfl, _⟩ := h
    rfl
  have hu := hu_of hr
  obtain ⟨a, ns, k, b, bs, rfl, hS, hB, q⟩ := h
  refine ⟨_, (pss_cons (ps_set (i := 3) sc_law_kind_by.nd rfl (.inl rfl) (pe_op op_mod (pe_cal h_law_cell_at hr (by decide) rfl (pa_cons (pv 0) (pa_cons (pv 1) pa_nil))) pe_int))
  (pss_one (ps_ret (pe_tup (pa_cons (pe_ix ix_list (pe_lst (pa_cons pe_str (pa_cons pe_str (pa_cons pe_str pa_nil)))) (pv 3) (fun _ _ => rfl)) (pa_cons (pe_op op_mod (pe_op op_fdiv (pe_cal h_law_cell_at hr (by decide) rfl (pa_cons (pv 0) (pa_cons (pv 1) pa_nil))) pe_int) (pe_op op_add (pe_ix ix_list (pv 2) (pv 3) (fun _ _ => rfl)) pe_int)) pa_nil)))))), ?_⟩
  refine ⟨_, rfl, _, rfl, a, ns, k, rfl, hS, _, _, rfl, rfl, (by show (0 : Int) < 3; decide), ?_⟩
  obtain ⟨kd, ek⟩ := kd_of_mod (ns.getD k 0)
  dsimp only
  rw [ek]
  refine ⟨sl3, fun l hl => ?_⟩
  have s1 := same_new (H := H) hl (.lst [.str "pairs", .str "sums", .str "steps"])
  refine ⟨_, rfl, l, _, _, .str kd.str, rfl, rfl, SqL.of upd_same, (by cases kd <;> rfl), ?_⟩
  refine ⟨_, rfl, _, rfl, a, ns, k, rfl, s1.seq hS, _, _, rfl, rfl, ⟨by decide, by decide⟩, ?_⟩
  refine ⟨_, rfl, _, rfl, b, _, _, .int (bs kd), rfl, rfl, s1.seq hB, (by cases kd <;> rfl), _, _, rfl, rfl, _, _, rfl, rfl, (by omega), sl2, fun p hp => ?_⟩
  have z1 := Int.emod_nonneg (ns.getD k 0 / 3) (show ((bs kd : Nat) : Int) + 1 ≠ 0 by omega)
  have z2 := Int.emod_lt_of_pos (ns.getD k 0 / 3) (show (0 : Int) < ((bs kd : Nat) : Int) + 1 by omega)
  refine q kd ((ns.getD k 0 / 3) % (((bs kd : Nat) : Int) + 1)).toNat _ p (by omega) (s1.trans (same_new hp _)) (s1.free hp) ?_
  rw [Int.toNat_of_nonneg z1]
  exact upd_same
theorem ok_asked_kind (D : Def K mg "asked_kind" s_asked_kind ["kind"]) (mz : Bl mg) (gr : Gr K w mg)  : Has P w K mg base CX0 1 "asked_kind" ["kind"] (sp_asked_kind K w) := by
  refine D.ok sc_asked_kind (fun vs H Q E h => ?_) (fun f cdv A outer s H vs Q E hr h => ?_)
  · obtain ⟨kd, rfl, _⟩ := h
    rfl
  have hu := hu_of hr
  obtain ⟨kd, rfl, q⟩ := h
  obtain ⟨g, es, n, hg, hd, hk⟩ := gr.ex
  refine ⟨_, (pss_one (ps_if (pt_cmpR (op_notIn_kd hd) (pv 0) (pe_glob (v := .ref g) rfl hg rfl) (by rfl)) (pss_one ps_never) pss_nil)), ?_⟩
  obtain ⟨t, ht⟩ := hk kd
  exact ⟨_, rfl, _, _, rfl, rfl, ht, _, rfl, iteF q⟩
theorem ok_asked_size (D : Def K mg "asked_size" s_asked_size ["kind", "size"]) (mz : Bl mg) (gr : Gr K w mg) (h_asked_kind : Has P w K mg base CX0 1 "asked_kind" ["kind"] (sp_asked_kind K w)) : Has P w K mg base CX0 2 "asked_size" ["kind", "size"] (sp_asked_size K w) := by
  refine D.ok sc_asked_size (fun vs H Q E h => ?_) (fun f cdv A outer s H vs Q E hr h => ?_)
  · obtain ⟨kd, n, rfl, _⟩ := h
    rfl
  have hu := hu_of hr
  obtain ⟨kd, n, rfl, hn, q⟩ := h
  obtain ⟨g, es, n', hg, hd, hk⟩ := gr.ex
  refine ⟨_, (pss_cons (ps_expr (pe_cal h_asked_kind hr (by decide) rfl (pa_cons (pv 0) pa_nil)))
  (pss_one (ps_if (pt_not (pt_chain op_le op_le pe_int (pv 1) (pe_ix ix_kdict (pe_glob (v := .ref g) rfl hg rfl) (pv 0) (fun _ _ => rfl)))) (pss_one ps_never) pss_nil))), ?_⟩
  obtain ⟨t, ht⟩ := hk kd
  refine ⟨_, rfl, kd, rfl, ?_⟩
  refine ⟨_, rfl, _, _, rfl, rfl, _, rfl, iteC (decide_eq_true (Int.natCast_nonneg n)) ?_⟩
  exact ⟨_, rfl, g, _, .int kd.bd, rfl, rfl, ⟨es, n', _, hd.at_, hd.lit, ht, ⟨t, rfl⟩⟩, _, _, rfl, rfl, _, rfl, iteNS (by omega) q⟩
theorem ok_things (D : Def K mg "things" s_things ["kind", "size"]) (mz : Bl mg) (gr : Gr K w mg) (h_asked_size : Has P w K mg base CX0 2 "asked_size" ["kind", "size"] (sp_asked_size K w)) : Has P w K mg base CX0 3 "things" ["kind", "size"] (sp_things K w) := by
  refine D.ok sc_things (fun vs H Q E h => ?_) (fun f cdv A outer s H vs Q E hr h => ?_)
  · obtain ⟨kd, n, rfl, _⟩ := h
    rfl
  have hu := hu_of hr
  obtain ⟨kd, n, rfl, hn, q⟩ := h
  refine ⟨_, (pss_cons (ps_expr (pe_cal h_asked_size hr (by decide) rfl (pa_cons (pv 0) (pa_cons (pv 1) pa_nil))))
  (pss_cons (ps_if (pt_cmpR op_eq (pv 0) pe_str (nomark _)) (pss_one (ps_ret (pe_op op_fdiv (pe_op op_mul (pv 1) (pe_op op_sub (pv 1) pe_int)) pe_int))) pss_nil)
  (pss_one (ps_ret (pv 1))))), ?_⟩
  refine ⟨_, rfl, _, rfl, kd, n, rfl, hn, ?_⟩
  refine ⟨_, rfl, rfl, _, rfl, kd_if (kd' := .pairs) (fun c => ?_) (fun c => ?_)⟩
  · subst c
    refine ⟨_, rfl, _, rfl, _, _, rfl, rfl, _, _, rfl, rfl, .inl ⟨by omega, by have := Kd.bd40 .pairs; omega⟩, _, _, rfl, rfl, ⟨by decide, by decide⟩, ?_⟩
    show Q (.int ((n : Int) * ((n : Int) - 1) / 2)) H
    rw [prs_int hn]
    exact q
  · have e : many kd n = n := by
      cases kd with
      | pairs => exact absurd rfl c
      | sums => rfl
      | steps => rfl
    rw [e] at q
    exact ⟨_, rfl, q⟩
theorem ok_pair_numbers (D : Def K mg "pair_numbers" s_pair_numbers ["size"]) (mz : Bl mg)  : Has P w K mg base CX0 1 "pair_numbers" ["size"] (sp_pair_numbers K w) := by
  refine D.ok sc_pair_numbers (fun vs H Q E h => ?_) (fun f cdv A outer s H vs Q E hr h => ?_)
  · obtain ⟨n, rfl, _⟩ := h
    rfl
  have hu := hu_of hr
  obtain ⟨n, rfl, hn, q⟩ := h
  refine ⟨_, (pss_cons (ps_set (i := 1) sc_pair_numbers.nd rfl (.inl rfl) pe_dnewT)
  (pss_cons (ps_for PassesOwn.never rfl (pi_range1 rfl mz.range (pa_cons (pv 0) pa_nil)) (pg_name (i := 2) sc_pair_numbers.nd rfl (.inl rfl)) (pss_one (ps_for PassesOwn.never rfl (pi_range2 rfl mz.range (pa_cons (pe_op op_add (pv 2) pe_int) (pa_cons (pv 0) pa_nil))) (pg_name (i := 3) sc_pair_numbers.nd rfl (.inl rfl)) (pss_one (ps_dput hu (pv 1) (pe_tup (pa_cons (pv 2) (pa_cons (pv 3) pa_nil))) (pe_callB call_len_dT (by rfl) mz.len PySem.boot_len (pa_cons (pv 1) pa_nil)) rfl)))))
  (pss_one (ps_ret (pv 1))))), ?_⟩
  intro d hd
  refine ⟨_, rfl, n, rfl, by omega, by omega, for_range (lo := 0) (n := ((n : Nat) : Int).toNat) (fun i σ H' => ∃ l m, σ = [some (.int n), some (.ref d), l, m] ∧ Same H H' ∧ H' d = some (.dT (numK ((List.range i).flatMap (rowP n))))) ⟨none, none, rfl, same_new hd _, upd_same⟩ (fun i σ H1 hi hW => ?_) (fun σ H1 hW => ?_)⟩
  · obtain ⟨l, m, rfl, s1, L1⟩ := hW
    have hi' : i < n := by omega
    refine ⟨_, rfl, _, _, rfl, rfl, _, rfl, _, _, rfl, ⟨by omega, by omega, by omega, by omega⟩, ?_⟩
    refine for_range (lo := 0 + (i : Int) + 1) (n := ((n : Int) - (0 + (i : Int) + 1)).toNat) (fun j σ H' => ∃ m, σ = [some (.int n), some (.ref d), some (.int (0 + (i : Int))), m] ∧ Same H H' ∧ H' d = some (.dT (numK ((List.range i).flatMap (rowP n) ++ (List.range j).map (fun j => (i, i + 1 + j)))))) ⟨m, rfl, s1, by simpa using L1⟩ (fun j σ H2 hj hW => ?_) (fun σ H2 hW => ?_)
    · obtain ⟨m, rfl, s2, L2⟩ := hW
      have e : ([.int (0 + (i : Int)), .int (0 + (i : Int) + 1 + (j : Int))] : List V) = (pk (i, i + 1 + j)).map kV := by
        show _ = [V.int ((i : Nat) : Int), V.int ((i + 1 + j : Nat) : Int)]
        congr 2
        · omega
        · congr 1
          omega
      refine ⟨_, rfl, d, _, rfl, L2, _, rfl, _, rfl, _, rfl, sl2, fun T hT => ?_⟩
      have hdT : d ≠ T := ne_of_none L2 hT
      refine ⟨d, _, rfl, DPut.t (k := pk (i, i + 1 + j)) ((upd_ne hdT).trans L2) (by rw [upd_same, e]) ?_, ?_⟩
      · rw [numK_len]
        have z := prs_upto (n := n) (i := i) (j := j) (by omega) (by omega)
        have z2 : n * n ≤ 40 * 40 := Nat.mul_le_mul hn hn
        exact sl_lt (by omega)
      · refine ⟨_, rfl, same_upd (same_upd s2 (s2.free hT) _) hd _, ?_⟩
        rw [upd_same, putK_new _ (numK_none prs_new), mp_succ, ← List.append_assoc, numK_snoc, numK_len]
    · obtain ⟨m, rfl, s2, L2⟩ := hW
      have e : ((n : Int) - (0 + (i : Int) + 1)).toNat = n - (i + 1) := by omega
      rw [e] at L2
      exact ⟨_, _, rfl, s2, by rw [fm_succ]; exact L2⟩
  · obtain ⟨l, m, rfl, s1, L1⟩ := hW
    rw [Int.toNat_natCast] at L1
    exact ⟨_, rfl, q H1 d s1 hd L1⟩
theorem ok_pair_triples (D : Def K mg "pair_triples" s_pair_triples ["size"]) (mz : Bl mg) (h_pair_numbers : Has P w K mg base CX0 1 "pair_numbers" ["size"] (sp_pair_numbers K w)) : Has P w K mg base CX0 2 "pair_triples" ["size"] (sp_pair_triples K w) := by
  refine D.ok sc_pair_triples (fun vs H Q E h => ?_) (fun f cdv A outer s H vs Q E hr h => ?_)
  · obtain ⟨n, rfl, _⟩ := h
    rfl
  have hu := hu_of hr
  obtain ⟨n, rfl, hn, q⟩ := h
  refine ⟨_, (pss_cons (ps_set (i := 1) sc_pair_triples.nd rfl (.inl rfl) (pe_cal h_pair_numbers hr (by decide) rfl (pa_cons (pv 0) pa_nil)))
  (pss_cons (ps_set (i := 2) sc_pair_triples.nd rfl (.inl rfl) (pe_lst pa_nil))
  (pss_cons (ps_for PassesOwn.never rfl (pi_range1 rfl mz.range (pa_cons (pv 0) pa_nil)) (pg_name (i := 3) sc_pair_triples.nd rfl (.inl rfl)) (pss_one (ps_for PassesOwn.never rfl (pi_range2 rfl mz.range (pa_cons (pe_op op_add (pv 3) pe_int) (pa_cons (pv 0) pa_nil))) (pg_name (i := 4) sc_pair_triples.nd rfl (.inl rfl)) (pss_one (ps_for PassesOwn.never rfl (pi_range2 rfl mz.range (pa_cons (pe_op op_add (pv 4) pe_int) (pa_cons (pv 0) pa_nil))) (pg_name (i := 5) sc_pair_triples.nd rfl (.inl rfl)) (pss_one (ps_expr (pe_bm PySem.F.plainAttrs_list PySem.F.slot_list_append PySem.F.type_list_append mt_append (pv 2) (pa_cons (pe_tup (pa_cons (pe_dget hu (pv 1) (pe_tup (pa_cons (pv 3) (pa_cons (pv 4) pa_nil))) (fun _ _ => rfl)) (pa_cons (pe_dget hu (pv 1) (pe_tup (pa_cons (pv 3) (pa_cons (pv 5) pa_nil))) (fun _ _ => rfl)) (pa_cons (pe_dget hu (pv 1) (pe_tup (pa_cons (pv 4) (pa_cons (pv 5) pa_nil))) (fun _ _ => rfl)) pa_nil)))) pa_nil)))))))))
  (pss_one (ps_ret (pv 2)))))), ?_⟩
  refine ⟨_, rfl, n, rfl, by omega, fun H1 d s1 hd1 e1 => ?_⟩
  refine ⟨sl0, fun p hp => ?_⟩
  have hpH : H p = none := s1.free hp
  have bound : ∀ (x : Nat), x ≤ 9 * 9 * 9 + 200 → x < sizeLine := fun x h => sl_lt (by omega)
  refine ⟨_, rfl, n, rfl, by omega, by omega, for_range (lo := 0) (n := ((n : Nat) : Int).toNat) (fun i σ H' => ∃ l m h, σ = [some (.int n), some (.ref d), some (.ref p), l, m, h] ∧ Same H1 H' ∧ LT H' p (((List.range i).flatMap (rowT n)).map tl)) ⟨none, none, none, rfl, same_new hp _, LT.nil upd_same⟩ (fun i σ H2 hi hW => ?_) (fun σ H2 hW => ?_)⟩
  · obtain ⟨l, m, h, rfl, s2, L2⟩ := hW
    refine ⟨_, rfl, _, _, rfl, rfl, _, rfl, _, _, rfl, ⟨by omega, by omega, by omega, by omega⟩, ?_⟩
    refine for_range (lo := 0 + (i : Int) + 1) (n := ((n : Int) - (0 + (i : Int) + 1)).toNat) (fun j σ H' => ∃ m h, σ = [some (.int n), some (.ref d), some (.ref p), some (.int (0 + (i : Int))), m, h] ∧ Same H1 H' ∧ LT H' p (((List.range i).flatMap (rowT n) ++ (List.range j).flatMap (fun j => rowT2 n i (i + 1 + j))).map tl)) ⟨m, h, rfl, s2, by simpa using L2⟩ (fun j σ H3 hj hW => ?_) (fun σ H3 hW => ?_)
    · obtain ⟨m, h, rfl, s3, L3⟩ := hW
      refine ⟨_, rfl, _, _, rfl, rfl, _, rfl, _, _, rfl, ⟨by omega, by omega, by omega, by omega⟩, ?_⟩
      refine for_range (lo := 0 + (i : Int) + 1 + (j : Int) + 1) (n := ((n : Int) - (0 + (i : Int) + 1 + (j : Int) + 1)).toNat) (fun k σ H' => ∃ h, σ = [some (.int n), some (.ref d), some (.ref p), some (.int (0 + (i : Int))), some (.int (0 + (i : Int) + 1 + (j : Int))), h] ∧ Same H1 H' ∧ LT H' p ((((List.range i).flatMap (rowT n) ++ (List.range j).flatMap (fun j => rowT2 n i (i + 1 + j))) ++ (List.range k).map (cellT n i (i + 1 + j))).map tl)) ⟨h, rfl, s3, by simpa using L3⟩ (fun k σ H4 hk hW => ?_) (fun σ H4 hW => ?_)
      · obtain ⟨h, rfl, s4, L4⟩ := hW
        obtain ⟨xs, e4, l4⟩ := L4.len
        have d4 := s4 _ _ e1
        refine ⟨_, rfl, .inl ⟨rfl, _, SqL.of e4⟩, ?_⟩
        refine ⟨_, rfl, _, rfl, _, rfl, sl2, fun T1 h1 => ⟨d, _, rfl, dget_pair (n := n) (a := i) (b := i + 1 + j) ((upd_ne (ne_of_none d4 h1)).trans d4) upd_same (by omega) (by omega) (by omega), ?_⟩⟩
        generalize hG1 : upd H4 T1 (.tup [.int (0 + (i : Int)), .int (0 + (i : Int) + 1 + (j : Int))]) = G1
        have g1 : Same H4 G1 := by rw [← hG1]; exact same_new h1 _
        have d5 := g1 _ _ d4
        refine ⟨_, rfl, _, rfl, _, rfl, sl2, fun T2 h2 => ⟨d, _, rfl, dget_pair (n := n) (a := i) (b := i + 1 + j + 1 + k) ((upd_ne (ne_of_none d5 h2)).trans d5) upd_same (by omega) (by omega) (by omega), ?_⟩⟩
        generalize hG2 : upd G1 T2 _ = G2
        have g2 : Same H4 G2 := by rw [← hG2]; exact g1.trans (same_new h2 _)
        have d6 := g2 _ _ d4
        refine ⟨_, rfl, _, rfl, _, rfl, sl2, fun T3 h3 => ⟨d, _, rfl, dget_pair (n := n) (a := i + 1 + j) (b := i + 1 + j + 1 + k) ((upd_ne (ne_of_none d6 h3)).trans d6) upd_same (by omega) (by omega) (by omega), ?_⟩⟩
        generalize hG3 : upd G2 T3 _ = G3
        have g3 : Same H4 G3 := by rw [← hG3]; exact g2.trans (same_new h3 _)
        have e7 := g3 _ _ e4
        have s7 := s4.trans g3
        refine ⟨sl3, fun T hT => ⟨p, xs, _, rfl, rfl, (upd_ne (ne_of_none e7 hT)).trans e7, ?_, ?_⟩⟩
        · rw [l4, List.length_map]
          exact bound _ (pt_upto hn (by omega) (by omega) (by omega))
        · refine ⟨_, rfl, same_upd (same_upd s7 (s7.free hT) _) hp _, ?_⟩
          rw [mp_succ, ← List.append_assoc, List.map_append]
          exact (L4.same g3).push (t := tl (cellT n i (i + 1 + j) k)) e7 hT
      · obtain ⟨h, rfl, s4, L4⟩ := hW
        refine ⟨_, _, rfl, s4, ?_⟩
        rw [fm_succ, ← List.append_assoc]
        have e : ((n : Int) - (0 + (i : Int) + 1 + (j : Int) + 1)).toNat = n - (i + 1 + j + 1) := by omega
        rw [e] at L4
        exact L4
    · obtain ⟨m, h, rfl, s3, L3⟩ := hW
      refine ⟨_, _, _, rfl, s3, ?_⟩
      rw [fm_succ]
      have e : ((n : Int) - (0 + (i : Int) + 1)).toNat = n - (i + 1) := by omega
      rw [e] at L3
      exact L3
  · obtain ⟨l, m, h, rfl, s2, L2⟩ := hW
    rw [Int.toNat_natCast] at L2
    exact ⟨_, rfl, q H2 p (s1.trans s2) hpH L2⟩
theorem ok_triples (D : Def K mg "triples" s_triples ["kind", "size"]) (mz : Bl mg) (h_asked_size : Has P w K mg base CX0 2 "asked_size" ["kind", "size"] (sp_asked_size K w)) (h_pair_triples : Has P w K mg base CX0 2 "pair_triples" ["size"] (sp_pair_triples K w)) : Has P w K mg base CX0 3 "triples" ["kind", "size"] (sp_triples K w) := by
  refine D.ok sc_triples (fun vs H Q E h => ?_) (fun f cdv A outer s H vs Q E hr h => ?_)
  · obtain ⟨kd, n, rfl, _⟩ := h
    rfl
  have hu := hu_of hr
  obtain ⟨kd, n, rfl, hn, q⟩ := h
  refine ⟨_, (pss_cons (ps_expr (pe_cal h_asked_size hr (by decide) rfl (pa_cons (pv 0) (pa_cons (pv 1) pa_nil))))
  (pss_cons (ps_if (pt_cmpR op_eq (pv 0) pe_str (nomark _)) (pss_one (ps_ret (pe_callB (cr_sortR (d := 3) (by decide)) (by rfl) mz.sorted (by decide +kernel) (pa_cons (pe_cal h_pair_triples hr (by decide) rfl (pa_cons (pv 1) pa_nil)) pa_nil)))) pss_nil)
  (pss_cons (ps_set (i := 2) sc_triples.nd rfl (.inl rfl) (pe_lst pa_nil))
  (pss_cons (ps_for PassesOwn.never rfl (pi_range2 rfl mz.range (pa_cons pe_int (pa_cons (pe_op op_add (pv 1) pe_int) pa_nil))) (pg_name (i := 3) sc_triples.nd rfl (.inl rfl)) (pss_one (ps_for PassesOwn.never rfl (pi_range2 rfl mz.range (pa_cons (pv 3) (pa_cons (pe_op op_add (pv 1) pe_int) pa_nil))) (pg_name (i := 4) sc_triples.nd rfl (.inl rfl)) (pss_cons (ps_if (PW.pt (pw_and (pt_cmpR op_eq (pv 0) pe_str (nomark _)) (pw_and1 (pt_cmpR op_le (pe_op op_add (pv 3) (pv 4)) (pv 1) (nomark _))))) (pss_one (ps_expr (pe_bm PySem.F.plainAttrs_list PySem.F.slot_list_append PySem.F.type_list_append mt_append (pv 2) (pa_cons (pe_tup (pa_cons (pe_op op_sub (pv 3) pe_int) (pa_cons (pe_op op_sub (pv 4) pe_int) (pa_cons (pe_op op_sub (pe_op op_add (pv 3) (pv 4)) pe_int) pa_nil)))) pa_nil)))) pss_nil)
  (pss_one (ps_if (PW.pt (pw_and (pt_cmpR op_eq (pv 0) pe_str (nomark _)) (pw_and (pt_cmpR op_gt (pv 4) (pv 3) (nomark _)) (pw_and1 (pt_cmpR op_le (pe_op op_sub (pe_op op_mul pe_int (pv 4)) (pv 3)) (pv 1) (nomark _)))))) (pss_one (ps_expr (pe_bm PySem.F.plainAttrs_list PySem.F.slot_list_append PySem.F.type_list_append mt_append (pv 2) (pa_cons (pe_tup (pa_cons (pe_op op_sub (pv 3) pe_int) (pa_cons (pe_op op_sub (pv 4) pe_int) (pa_cons (pe_op op_sub (pe_op op_sub (pe_op op_mul pe_int (pv 4)) (pv 3)) pe_int) pa_nil)))) pa_nil)))) pss_nil))))))
  (pss_one (ps_ret (pe_callB (cr_sortR (d := 3) (by decide)) (by rfl) mz.sorted (by decide +kernel) (pa_cons (pv 2) pa_nil)))))))), ?_⟩
  refine ⟨_, rfl, _, rfl, kd, n, rfl, hn, ?_⟩
  have n40 := Nat.le_trans hn (Kd.bd40 kd)
  refine ⟨_, rfl, rfl, _, rfl, kd_if (kd' := .pairs) (fun c => ?_) (fun c => ?_)⟩
  · subst c
    refine ⟨_, rfl, n, rfl, hn, fun H1 p s1 hp L1 => ?_⟩
    obtain ⟨rs, e1, t1⟩ := L1
    refine ⟨p, rs, _, rfl, SqL.of e1, t1, trs_bd (kd := .pairs) hn, trs_rise (kd := .pairs) hn, fun p2 hp2 => ?_⟩
    exact q _ p2 (s1.trans (same_new hp2 _)) (s1.free hp2) ⟨rs, upd_same, t1.same (same_new hp2 _)⟩
  · have et : trs kd n = stp kd n := by
      cases kd with
      | pairs => exact absurd rfl c
      | sums => rfl
      | steps => rfl
    refine ⟨sl0, fun p hp => ?_⟩
    refine ⟨_, rfl, _, _, rfl, rfl, _, _, rfl, ⟨by decide, by decide, by omega, by omega⟩, ?_⟩
    refine for_range (lo := 1) (n := ((n : Int) + 1 - 1).toNat) (fun i σ H' => ∃ l m, σ = [some (.str kd.str), some (.int n), some (.ref p), l, m] ∧ Same H H' ∧ LT H' p (((List.range i).flatMap (rowS kd n)).map tl)) ⟨none, none, rfl, same_new hp _, LT.nil upd_same⟩ (fun i σ H2 hi hW => ?_) (fun σ H2 hW => ?_)
    · obtain ⟨l, m, rfl, s2, L2⟩ := hW
      refine ⟨_, rfl, _, rfl, _, _, rfl, rfl, _, _, rfl, ⟨by omega, by omega, by omega, by omega⟩, ?_⟩
      refine for_range (lo := 1 + (i : Int)) (n := ((n : Int) + 1 - (1 + (i : Int))).toNat) (fun j σ H' => ∃ m, σ = [some (.str kd.str), some (.int n), some (.ref p), some (.int (1 + (i : Int))), m] ∧ Same H H' ∧ LT H' p (((List.range i).flatMap (rowS kd n) ++ (List.range j).flatMap (cellS kd n i)).map tl)) ⟨m, rfl, s2, by simpa using L2⟩ (fun j σ H3 hj hW => ?_) (fun σ H3 hW => ?_)
      · obtain ⟨m, rfl, s3, L3⟩ := hW
        obtain ⟨xs, e3, l3⟩ := L3.len
        have room : xs.length < sizeLine := by
          rw [l3, List.length_map]
          exact sl_lt (stp_upto n40 (by omega) (by omega))
        -- what an append leaves
        have app : ∀ (t : Tri) (x y z : Int) (T : Addr), x = (t.1 : Int) → y = (t.2.1 : Int) → z = (t.2.2 : Int) → cellS kd n i j = [t] → H3 T = none →
            LT (upd (upd H3 T (.tup [.int x, .int y, .int z])) p (.lst (xs ++ [.ref T]))) p (((List.range i).flatMap (rowS kd n) ++ (List.range (j + 1)).flatMap (cellS kd n i)).map tl) := by
          intro t x y z T hx hy hz ec hT
          subst hx hy hz
          rw [fm_succ, ← List.append_assoc, ec, List.map_append]
          exact L3.push (t := tl t) e3 hT
        have stay : cellS kd n i j = [] → LT H3 p (((List.range i).flatMap (rowS kd n) ++ (List.range (j + 1)).flatMap (cellS kd n i)).map tl) := by
          intro ec
          rw [fm_succ, ec, List.append_nil]
          exact L3
        cases kd with
        | pairs => exact absurd rfl c
        | sums =>
          refine ⟨_, rfl, rfl, _, rfl, kd_if (kd := .sums) (kd' := .sums) (fun _ => ?_) (fun z => absurd rfl z)⟩
          refine ⟨_, rfl, _, rfl, _, _, rfl, rfl, _, rfl, _, _, rfl, rfl, _, rfl, ite2 (fun b => ?_) (fun b => ?_)⟩
          · have b' := of_decide_eq_true b
            refine ⟨_, rfl, .inl ⟨rfl, _, SqL.of e3⟩, _, rfl, _, _, rfl, rfl, _, rfl, _, _, rfl, rfl, _, rfl, _, rfl, _, _, rfl, rfl, _, _, rfl, rfl, sl3, fun T hT => ?_⟩
            refine ⟨p, xs, _, rfl, rfl, (upd_ne (ne_of_none e3 hT)).trans e3, room, ?_⟩
            refine ⟨_, rfl, rfl, _, rfl, kd_if (kd := .sums) (kd' := .steps) (fun z => by cases z) (fun _ => ?_)⟩
            exact iteF ⟨_, rfl, same_upd (same_upd s3 (s3.free hT) _) hp _, app (i, i + j, 2 * i + j + 1) _ _ _ T (by show (1 : Int) + (i : Int) - 1 = ((i : Nat) : Int); omega) (by show (1 : Int) + (i : Int) + (j : Int) - 1 = ((i + j : Nat) : Int); omega) (by show (1 : Int) + (i : Int) + (1 + (i : Int) + (j : Int)) - 1 = ((2 * i + j + 1 : Nat) : Int); omega) (if_pos (by omega)) hT⟩
          · have b' := nd b
            refine ⟨_, rfl, rfl, _, rfl, kd_if (kd := .sums) (kd' := .steps) (fun z => by cases z) (fun _ => ?_)⟩
            exact iteF ⟨_, rfl, s3, stay (if_neg (by omega))⟩
        | steps =>
          refine ⟨_, rfl, rfl, _, rfl, kd_if (kd := .steps) (kd' := .sums) (fun z => by cases z) (fun _ => iteF ?_)⟩
          refine ⟨_, rfl, rfl, _, rfl, kd_if (kd := .steps) (kd' := .steps) (fun _ => ?_) (fun z => absurd rfl z)⟩
          refine ⟨_, rfl, _, rfl, _, _, rfl, rfl, _, rfl, ite2 (fun a => ?_) (fun a => ?_)⟩
          · have a' := of_decide_eq_true a
            refine ⟨_, rfl, _, _, rfl, rfl, .inl ⟨by decide, by decide⟩, _, rfl, _, _, rfl, rfl, _, rfl, _, _, rfl, rfl, _, rfl, ite2 (fun b => ?_) (fun b => ?_)⟩
            · have b' := of_decide_eq_true b
              refine ⟨_, rfl, .inl ⟨rfl, _, SqL.of e3⟩, _, rfl, _, _, rfl, rfl, _, rfl, _, _, rfl, rfl, _, rfl, _, _, rfl, rfl, .inl ⟨by decide, by decide⟩, _, rfl, _, _, rfl, rfl, _, _, rfl, rfl, sl3, fun T hT => ?_⟩
              refine ⟨p, xs, _, rfl, rfl, (upd_ne (ne_of_none e3 hT)).trans e3, room, ?_⟩
              exact ⟨_, rfl, same_upd (same_upd s3 (s3.free hT) _) hp _, app (i, i + j, i + 2 * j) _ _ _ T (by show (1 : Int) + (i : Int) - 1 = ((i : Nat) : Int); omega) (by show (1 : Int) + (i : Int) + (j : Int) - 1 = ((i + j : Nat) : Int); omega) (by show 2 * (1 + (i : Int) + (j : Int)) - (1 + (i : Int)) - 1 = ((i + 2 * j : Nat) : Int); omega) (if_pos (by omega)) hT⟩
            · have b' := nd b
              exact ⟨_, rfl, s3, stay (if_neg (by omega))⟩
          · have a' := nd a
            exact iteF ⟨_, rfl, s3, stay (if_neg (by omega))⟩
      · obtain ⟨m, rfl, s3, L3⟩ := hW
        refine ⟨_, _, rfl, s3, ?_⟩
        rw [fm_succ]
        have e : ((n : Int) + 1 - (1 + (i : Int))).toNat = n - i := by omega
        rw [e] at L3
        exact L3
    · obtain ⟨l, m, rfl, s2, L2⟩ := hW
      have e : ((n : Int) + 1 - 1).toNat = n := by omega
      rw [e] at L2
      have L2 : LT H2 p ((trs kd n).map tl) := by rw [et]; exact L2
      obtain ⟨rs, e2, t2⟩ := L2
      refine ⟨_, rfl, p, rs, _, rfl, SqL.of e2, t2, trs_bd hn, trs_rise hn, fun p2 hp2 => ?_⟩
      exact q _ p2 (s2.trans (same_new hp2 _)) (s2.free hp2) ⟨rs, upd_same, t2.same (same_new hp2 _)⟩
theorem ok_asked_hues (D : Def K mg "asked_hues" s_asked_hues ["kind", "size", "count"]) (mz : Bl mg) (mh : Cn mg "MOST_HUES" 3) (h_asked_size : Has P w K mg base CX0 2 "asked_size" ["kind", "size"] (sp_asked_size K w)) : Has P w K mg base CX0 3 "asked_hues" ["kind", "size", "count"] (sp_asked_hues K w) := by
  refine D.ok sc_asked_hues (fun vs H Q E h => ?_) (fun f cdv A outer s H vs Q E hr h => ?_)
  · obtain ⟨kd, n, c, rfl, _⟩ := h
    rfl
  have hu := hu_of hr
  obtain ⟨kd, n, c, rfl, hn, hc, q⟩ := h
  obtain ⟨t, ht⟩ := mh
  refine ⟨_, (pss_cons (ps_expr (pe_cal h_asked_size hr (by decide) rfl (pa_cons (pv 0) (pa_cons (pv 1) pa_nil))))
  (pss_one (ps_if (pt_not (pt_chain op_le op_le pe_int (pv 2) (pe_glob (v := .int 3) rfl ht ⟨t, rfl⟩))) (pss_one ps_never) pss_nil))), ?_⟩
  refine ⟨_, rfl, _, rfl, kd, n, rfl, hn, ?_⟩
  obtain ⟨c1, c3⟩ := hc
  refine ⟨_, rfl, _, _, rfl, rfl, _, rfl, iteC (decide_eq_true (by omega)) ?_⟩
  exact ⟨_, _, rfl, rfl, _, rfl, iteNS (by omega) q⟩
theorem ok_asked_dyeing (D : Def K mg "asked_dyeing" s_asked_dyeing ["kind", "size", "count", "hues"]) (mz : Bl mg) (h_asked_hues : Has P w K mg base CX0 3 "asked_hues" ["kind", "size", "count"] (sp_asked_hues K w)) (h_things : Has P w K mg base CX0 3 "things" ["kind", "size"] (sp_things K w)) : Has P w K mg base CX0 4 "asked_dyeing" ["kind", "size", "count", "hues"] (sp_asked_dyeing K w) := by
  refine D.ok sc_asked_dyeing (fun vs H Q E h => ?_) (fun f cdv A outer s H vs Q E hr h => ?_)
  · obtain ⟨kd, n, c, a, hs, rfl, _⟩ := h
    rfl
  have hu := hu_of hr
  obtain ⟨kd, n, c, a, hs, rfl, hn, hc, hS, dy, q⟩ := h
  refine ⟨_, (pss_cons (ps_expr (pe_cal h_asked_hues hr (by decide) rfl (pa_cons (pv 0) (pa_cons (pv 1) (pa_cons (pv 2) pa_nil)))))
  (pss_cons (ps_if (pt_cmpR op_ne (pe_callB call_len_seq (by rfl) mz.len PySem.boot_len (pa_cons (pv 3) pa_nil)) (pe_cal h_things hr (by decide) rfl (pa_cons (pv 0) (pa_cons (pv 1) pa_nil))) (nomark _)) (pss_one ps_never) pss_nil)
  (pss_one (ps_for PassesOwn.never rfl (pi_list (pv 3)) (pg_name (i := 4) sc_asked_dyeing.nd rfl (.inl rfl)) (pss_one (ps_if (pt_not (pt_chain op_le op_lt pe_int (pv 4) (pv 2))) (pss_one ps_never) pss_nil)))))), ?_⟩
  refine ⟨_, rfl, _, rfl, _, rfl, kd, n, c, rfl, hn, hc, ?_⟩
  refine ⟨_, rfl, a, _, rfl, .inl hS, _, rfl, _, rfl, kd, n, rfl, hn, rfl, _, rfl, ?_⟩
  refine iteNS (by rw [List.length_map, dy.len]) ?_
  refine ⟨_, rfl, a, rfl, ⟨_, hS⟩, ?_⟩
  refine for_list (K := K) (a := a) (xs := hs.map V.int) (fun i σ H' => ∃ u, σ = [some (.str kd.str), some (.int n), some (.int c), some (.ref a), u] ∧ H' = H) ⟨none, rfl, rfl⟩ (fun i σ H' hi hW => by
    obtain ⟨u, rfl, rfl⟩ := hW
    exact hS) (fun i x σ H' hx hW => ?_) (fun σ H' hW => ?_)
  · obtain ⟨u, rfl, rfl⟩ := hW
    obtain ⟨y, hy, rfl⟩ : ∃ y, y ∈ hs ∧ x = V.int y := by
      rw [List.getElem?_map] at hx
      cases e : hs[i]? with
      | none => rw [e] at hx; cases hx
      | some y => rw [e] at hx; exact ⟨y, List.mem_of_getElem? e, (Option.some.inj hx).symm⟩
    obtain ⟨y0, y1⟩ := dy.hue y hy
    refine ⟨_, rfl, _, _, rfl, rfl, _, rfl, iteC (decide_eq_true y0) ?_⟩
    exact ⟨_, rfl, _, _, rfl, rfl, _, rfl, iteNS y1 ⟨_, rfl, rfl⟩⟩
  · obtain ⟨u, rfl, rfl⟩ := hW
    exact q
theorem ok_one_hued (D : Def K mg "one_hued" s_one_hued ["kind", "size", "count", "hues"]) (mz : Bl mg) (h_asked_dyeing : Has P w K mg base CX0 4 "asked_dyeing" ["kind", "size", "count", "hues"] (sp_asked_dyeing K w)) (h_triples : Has P w K mg base CX0 3 "triples" ["kind", "size"] (sp_triples K w)) : Has P w K mg base CX0 5 "one_hued" ["kind", "size", "count", "hues"] (sp_one_hued K w) := by
  refine D.ok sc_one_hued (fun vs H Q E h => ?_) (fun f cdv A outer s H vs Q E hr h => ?_)
  · obtain ⟨kd, n, c, a, hs, rfl, _⟩ := h
    rfl
  have hu := hu_of hr
  obtain ⟨kd, n, c, a, hs, rfl, hn, hc, hS, dy, q⟩ := h
  refine ⟨_, (pss_cons (ps_expr (pe_cal h_asked_dyeing hr (by decide) rfl (pa_cons (pv 0) (pa_cons (pv 1) (pa_cons (pv 2) (pa_cons (pv 3) pa_nil))))))
  (pss_one (ps_ret (pe_lc (own := [("one", 4)]) rfl sc_one_hued.nd (pi_list (pe_cal h_triples hr (by decide) rfl (pa_cons (pv 0) (pa_cons (pv 1) pa_nil)))) (blkOk_by (own := [("one", 4)]) (N := ["kind", "size", "count", "hues", "one"]) (sc := defScope s_one_hued) (by decide +kernel)) (fun _ _ _ _ _ => pg_name (i := 4) sc_one_hued.nd rfl (Or.inl rfl)) (fun _ _ _ _ _ => (pts_one (PW.pt (pw_and (pt_cmpR op_eq (pe_ix (show IxR _ (rIxL K) from ix_list) (pv 3) (pe_ix (show IxR _ (rIxT K) from ix_tup) (pv 4) pe_int (fun _ _ => rfl)) (fun _ _ => rfl)) (pe_ix (show IxR _ (rIxL K) from ix_list) (pv 3) (pe_ix (show IxR _ (rIxT K) from ix_tup) (pv 4) pe_int (fun _ _ => rfl)) (fun _ _ => rfl)) (nomark _)) (pw_and1 (pt_cmpR op_eq (pe_ix (show IxR _ (rIxL K) from ix_list) (pv 3) (pe_ix (show IxR _ (rIxT K) from ix_tup) (pv 4) pe_int (fun _ _ => rfl)) (fun _ _ => rfl)) (pe_ix (show IxR _ (rIxL K) from ix_list) (pv 3) (pe_ix (show IxR _ (rIxT K) from ix_tup) (pv 4) pe_int (fun _ _ => rfl)) (fun _ _ => rfl)) (nomark _))))))) (fun _ _ _ _ _ => (pv 4)))))), ?_⟩
  refine ⟨_, rfl, _, rfl, _, rfl, _, rfl, kd, n, c, a, hs, rfl, hn, hc, hS, dy, ?_⟩
  refine ⟨_, rfl, _, rfl, kd, n, rfl, hn, fun H1 p s1 hp L1 => ?_⟩
  obtain ⟨rs, e1, t1⟩ := L1
  refine ⟨p, rfl, ⟨_, SqL.of e1⟩, fun D hD => ?_⟩
  refine lc_list (K := K) (a := p) (xs := rs.map V.ref) (fun i H' => ∃ rs', H' = upd H1 D (.lst (rs'.map V.ref)) ∧ Tups H1 rs' ((mono hs ((trs kd n).take i)).map tl)) ⟨[], rfl, .nil⟩ (fun i H' hi hW => ?_) (fun i x H' hx hW => ?_) (fun H' hW => ?_)
  · obtain ⟨rs', rfl, t'⟩ := hW
    exact SqL.of ((same_new hD _) _ _ e1)
  · obtain ⟨rs', rfl, t'⟩ := hW
    obtain ⟨r, t0, rfl, hr', ht, hrt⟩ := t1.getV hx
    rw [List.getElem?_map] at ht
    obtain ⟨t, htr, rfl⟩ : ∃ t, (trs kd n)[i]? = some t ∧ tl t = t0 := by
      cases e : (trs kd n)[i]? with
      | none => rw [e] at ht; cases ht
      | some t => rw [e] at ht; exact ⟨t, rfl, Option.some.inj ht⟩
    obtain ⟨i1, i2, i3⟩ := trs_in hn (List.mem_of_getElem? htr)
    rw [← dy.len] at i1 i2 i3
    have sD := same_new hD (.lst (rs'.map V.ref))
    have hS' := (s1.trans sD).seq hS
    have hT' : SqT K (upd H1 D (.lst (rs'.map V.ref))) r (rv (tl t)) := SqT.of (sD _ _ hrt)
    have one := fun (A B : Prop) (h1 : mh hs t = true → A) (h2 : mh hs t = false → B) => ite_mh h1 h2
    refine ⟨rfl, ?_⟩
    refine ⟨_, rfl, _, rfl, r, _, 0, .int t.1, rfl, rfl, hT', atI_nat (j := 0) rfl, a, _, t.1, _, rfl, rfl, hS', atI_nat (getV_int i1), ?_⟩
    refine ⟨_, rfl, _, rfl, r, _, 1, .int t.2.1, rfl, rfl, hT', atI_nat (j := 1) rfl, a, _, t.2.1, _, rfl, rfl, hS', atI_nat (getV_int i2), rfl, _, rfl, ?_⟩
    refine ite2 (fun A => ?_) (fun A => ?_)
    · have A := V.int.inj (of_decide_eq_true A)
      refine ⟨_, rfl, _, rfl, r, _, 1, .int t.2.1, rfl, rfl, hT', atI_nat (j := 1) rfl, a, _, t.2.1, _, rfl, rfl, hS', atI_nat (getV_int i2), ?_⟩
      refine ⟨_, rfl, _, rfl, r, _, 2, .int t.2.2, rfl, rfl, hT', atI_nat (j := 2) rfl, a, _, t.2.2, _, rfl, rfl, hS', atI_nat (getV_int i3), rfl, _, rfl, ?_⟩
      refine ite2 (fun B => ?_) (fun B => ?_)
      · have B := V.int.inj (of_decide_eq_true B)
        have m : mh hs t = true := by
          unfold mh
          rw [decide_eq_true A, decide_eq_true B]
          rfl
        refine ⟨_, rfl, rs'.map V.ref, upd_same, ?_, rs' ++ [r], ?_, ?_⟩
        · rw [List.length_map, t'.length, List.length_map]
          exact sl_lt (Nat.le_trans (mono_le _ _) (Nat.le_trans (List.length_take_le' i _) (Nat.le_trans (trs_le hn) (by decide))))
        · rw [upd_upd, List.map_append]
          rfl
        · rw [mono_snoc htr, if_pos m, List.map_append]
          exact t'.snoc hrt
      · have B : ¬ hs.getD t.2.1 0 = hs.getD t.2.2 0 := fun z => B (decide_eq_true (congrArg V.int z))
        have m : ¬ mh hs t = true := by
          unfold mh
          rw [decide_eq_false B, Bool.and_false]
          decide
        refine ⟨rs', rfl, ?_⟩
        rw [mono_snoc htr, if_neg m, List.append_nil]
        exact t'
    · have A : ¬ hs.getD t.1 0 = hs.getD t.2.1 0 := fun z => A (decide_eq_true (congrArg V.int z))
      have m : ¬ mh hs t = true := by
        unfold mh
        rw [decide_eq_false A, Bool.false_and]
        decide
      refine ⟨rs', rfl, ?_⟩
      rw [mono_snoc htr, if_neg m, List.append_nil]
      exact t'
  · obtain ⟨rs', rfl, t'⟩ := hW
    have e : (rs.map V.ref).length = (trs kd n).length := by rw [List.length_map, t1.length, List.length_map]
    rw [e, List.take_length] at t'
    exact q _ D (s1.trans (same_new hD _)) (s1.free hD) ⟨rs', upd_same, t'.same (same_new hD _)⟩
theorem ok_is_free (D : Def K mg "is_free" s_is_free ["kind", "size", "count", "hues"]) (mz : Bl mg) (h_one_hued : Has P w K mg base CX0 5 "one_hued" ["kind", "size", "count", "hues"] (sp_one_hued K w)) : Has P w K mg base CX0 6 "is_free" ["kind", "size", "count", "hues"] (sp_is_free K w) := by
  refine D.ok sc_is_free (fun vs H Q E h => ?_) (fun f cdv A outer s H vs Q E hr h => ?_)
  · obtain ⟨kd, n, c, a, hs, rfl, _⟩ := h
    rfl
  have hu := hu_of hr
  obtain ⟨kd, n, c, a, hs, rfl, hn, hc, hS, dy, q⟩ := h
  refine ⟨_, (pss_one (ps_ret (pe_cmpR op_eq (pe_callB call_len_seq (by rfl) mz.len PySem.boot_len (pa_cons (pe_cal h_one_hued hr (by decide) rfl (pa_cons (pv 0) (pa_cons (pv 1) (pa_cons (pv 2) (pa_cons (pv 3) pa_nil))))) pa_nil)) pe_int (nomark _)))), ?_⟩
  refine ⟨_, rfl, _, rfl, _, rfl, _, rfl, kd, n, c, a, hs, rfl, hn, hc, hS, dy, fun H1 p s1 hp L1 => ?_⟩
  obtain ⟨xs, e1, l1⟩ := L1.len
  refine ⟨p, xs, rfl, .inl (SqL.of e1), rfl, ?_⟩
  show Q (.bl (decide (V.int ((xs.length : Nat) : Int) = V.int 0))) H1
  rw [l1, List.length_map, fre_len]
  exact q H1 s1
theorem ok_law_stirred (D : Def K mg "_law_stirred" s_law_stirred ["cell", "k"]) (mz : Bl mg)  : Has P w K mg base CX0 1 "_law_stirred" ["cell", "k"] (sp_law_stirred K w) := by
  refine D.ok sc_law_stirred (fun vs H Q E h => ?_) (fun f cdv A outer s H vs Q E hr h => ?_)
  · obtain ⟨c, k, rfl, _⟩ := h
    rfl
  have hu := hu_of hr
  obtain ⟨c, k, rfl, q⟩ := h
  refine ⟨_, (pss_cons (ps_set (i := 2) sc_law_stirred.nd rfl (.inl rfl) (pe_op op_mod (pe_op op_mul (pe_op op_add (pe_op op_add (pv 0) (pe_op op_mul pe_int (pv 1))) pe_int) pe_int) pe_int))
  (pss_cons (ps_set (i := 2) sc_law_stirred.nd rfl (.inl rfl) (pe_op op_mod (pe_op op_mul (pv 2) (pv 2)) pe_int))
  (pss_one (ps_ret (pe_op op_fdiv (pe_op op_mod (pe_op op_mul (pv 2) pe_int) pe_int) pe_int))))), ?_⟩
  refine ⟨_, rfl, _, rfl, _, _, rfl, rfl, .inl ⟨by decide, by decide⟩, _, _, rfl, rfl, _, _, rfl, rfl, _, _, rfl, rfl, .inr ⟨by decide, by decide⟩, _, _, rfl, rfl, (by show (0 : Int) < 2147483647; decide), ?_⟩
  generalize hx : (c + 7919 * k + 17) * 48271 % 2147483647 = x
  have x0 : 0 ≤ x := by rw [← hx]; exact Int.emod_nonneg _ (by decide)
  have x1 : x < 2147483647 := by rw [← hx]; exact Int.emod_lt_of_pos _ (by decide)
  refine ⟨_, rfl, _, rfl, _, _, rfl, rfl, .inl ⟨by omega, by omega⟩, _, _, rfl, rfl, (by show (0 : Int) < 2147483647; decide), ?_⟩
  exact ⟨_, rfl, _, _, rfl, rfl, .inr ⟨by decide, by decide⟩, _, _, rfl, rfl, (by show (0 : Int) < 2147483647; decide), _, _, rfl, rfl, ⟨by decide, by decide⟩, q _⟩
theorem ok_law_dyed_by (D : Def K mg "_law_dyed_by" s_law_dyed_by ["script", "at", "many", "count"]) (mz : Bl mg) (h_law_cell_at : Has P w K mg base CX0 1 "_law_cell_at" ["script", "k"] (sp_law_cell_at K w)) (h_law_stirred : Has P w K mg base CX0 1 "_law_stirred" ["cell", "k"] (sp_law_stirred K w)) : Has P w K mg base CX0 2 "_law_dyed_by" ["script", "at", "many", "count"] (sp_law_dyed_by K w) := by
  refine D.ok sc_law_dyed_by (fun vs H Q E h => ?_) (fun f cdv A outer s H vs Q E hr h => ?_)
  · obtain ⟨a, ns, k, m, c, rfl, _⟩ := h
    rfl
  have hu := hu_of hr
  obtain ⟨a, ns, k, m, c, rfl, hS, hm, hc, q⟩ := h
  refine ⟨_, (pss_cons (ps_set (i := 4) sc_law_dyed_by.nd rfl (.inl rfl) (pe_cal h_law_cell_at hr (by decide) rfl (pa_cons (pv 0) (pa_cons (pv 1) pa_nil))))
  (pss_cons (ps_set (i := 5) sc_law_dyed_by.nd rfl (.inl rfl) (pe_op op_mod (pe_cal h_law_cell_at hr (by decide) rfl (pa_cons (pv 0) (pa_cons (pe_op op_add (pv 1) pe_int) pa_nil))) pe_int))
  (pss_cons (ps_set (i := 6) sc_law_dyed_by.nd rfl (.inl rfl) (pe_lst pa_nil))
  (pss_cons (ps_for PassesOwn.never rfl (pi_range1 rfl mz.range (pa_cons (pv 2) pa_nil)) (pg_name (i := 7) sc_law_dyed_by.nd rfl (.inl rfl)) (pss_cons (ps_set (i := 8) sc_law_dyed_by.nd rfl (.inl rfl) (pe_op op_mod (pv 4) (pv 3)))
  (pss_cons (ps_if (pt_cmpR op_eq (pv 5) pe_int (nomark _)) (pss_one (ps_set (i := 8) sc_law_dyed_by.nd rfl (.inl rfl) (pe_op op_mod (pe_cal h_law_stirred hr (by decide) rfl (pa_cons (pe_cal h_law_cell_at hr (by decide) rfl (pa_cons (pv 0) (pa_cons (pv 1) pa_nil))) (pa_cons (pv 7) pa_nil))) (pv 3)))) pss_nil)
  (pss_cons (ps_if (pt_cmpR op_eq (pv 5) pe_int (nomark _)) (pss_one (ps_set (i := 8) sc_law_dyed_by.nd rfl (.inl rfl) (pe_op op_mod (pe_op op_fdiv (pe_op op_add (pv 7) pe_int) (pe_op op_add pe_int (pe_op op_mod (pe_cal h_law_cell_at hr (by decide) rfl (pa_cons (pv 0) (pa_cons (pe_op op_add (pv 1) pe_int) pa_nil))) pe_int))) (pv 3)))) pss_nil)
  (pss_cons (ps_expr (pe_bm PySem.F.plainAttrs_list PySem.F.slot_list_append PySem.F.type_list_append mt_append (pv 6) (pa_cons (pv 8) pa_nil)))
  (pss_one (ps_set (i := 4) sc_law_dyed_by.nd rfl (.inl rfl) (pe_op op_fdiv (pv 4) (pv 3)))))))))
  (pss_one (ps_ret (pv 6))))))), ?_⟩
  refine ⟨_, rfl, _, rfl, a, ns, k, rfl, hS, ?_⟩
  refine ⟨_, rfl, _, rfl, _, _, rfl, rfl, a, ns, k + 1, rfl, hS, _, _, rfl, rfl, (by show (0 : Int) < 3; decide), ?_⟩
  refine ⟨sl0, fun p hp => ?_⟩
  obtain ⟨c1, c3⟩ := hc
  have hcp : (0 : Int) < (c : Int) := by omega
  have hc3 : (c : Int) < 1073741824 := by omega
  have hmod : ∀ x : Int, 0 ≤ x % (c : Int) ∧ x % (c : Int) < (c : Int) := fun x => ⟨Int.emod_nonneg x (by omega), Int.emod_lt_of_pos x hcp⟩
  refine ⟨_, rfl, m, rfl, by omega, by omega, ?_⟩
  refine for_range (lo := 0) (n := ((m : Nat) : Int).toNat) (fun i σ H' => ∃ (cell : Int) (u v : Option V) (hs : List Int), σ = [some (.ref a), some (.int k), some (.int m), some (.int c), some (.int cell), some (.int (ns.getD (k + 1) 0 % 3)), some (.ref p), u, v] ∧ Same H H' ∧ H' p = some (.lst (hs.map V.int)) ∧ hs.length = i ∧ ∀ h ∈ hs, 0 ≤ h ∧ h < (c : Int)) ⟨_, none, none, [], rfl, same_new hp _, upd_same, rfl, fun _ z => by cases z⟩ (fun i σ H1 hi hW => ?_) (fun σ H1 hW => ?_)
  · obtain ⟨cell, u, v, hs, rfl, s1, e1, l1, b1⟩ := hW
    have hS1 := s1.seq hS
    refine ⟨_, rfl, _, rfl, _, _, rfl, rfl, hcp, ?_⟩
    have last : ∀ x : Int, 0 ≤ x ∧ x < (c : Int) → ∃ (cell' : Int) (u v : Option V) (hs' : List Int), [some (.ref a), some (.int k), some (.int m), some (.int c), some (.int (cell / (c : Int))), some (.int (ns.getD (k + 1) 0 % 3)), some (.ref p), some (V.int (0 + (i : Int))), some (.int x)] = [some (.ref a), some (.int k), some (.int m), some (.int c), some (.int cell'), some (.int (ns.getD (k + 1) 0 % 3)), some (.ref p), u, v] ∧ Same H (upd H1 p (.lst (hs.map V.int ++ [.int x]))) ∧ (upd H1 p (.lst (hs.map V.int ++ [.int x]))) p = some (.lst (hs'.map V.int)) ∧ hs'.length = i + 1 ∧ ∀ h ∈ hs', 0 ≤ h ∧ h < (c : Int) := by
      intro x hx
      refine ⟨_, _, _, hs ++ [x], rfl, same_upd s1 hp _, by rw [upd_same, List.map_append]; rfl, by rw [List.length_append, l1]; rfl, fun h hh => ?_⟩
      rcases List.mem_append.mp hh with z | z
      · exact b1 h z
      · rw [List.mem_singleton.mp z]
        exact hx
    have room : (hs.map V.int).length < sizeLine := by
      rw [List.length_map, l1]
      exact sl_lt (by omega)
    have w1 : ∀ x : Int, 0 ≤ 1 + x % 7 ∧ 0 < 1 + x % 7 ∧ 1 + x % 7 < 1073741824 := fun x => by omega
    refine ⟨_, rfl, rfl, _, rfl, ite2 (fun _ => ?_) (fun _ => ?_)⟩
    · refine ⟨_, rfl, _, rfl, a, ns, k, rfl, hS1, _, rfl, _, _, rfl, fun r => ⟨_, rfl, _, _, rfl, rfl, hcp, ?_⟩⟩
      refine ⟨_, rfl, rfl, _, rfl, ite2 (fun _ => ?_) (fun _ => ?_)⟩
      · refine ⟨_, rfl, _, _, rfl, rfl, _, rfl, _, rfl, _, _, rfl, rfl, a, ns, k + 2, rfl, hS1, _, _, rfl, rfl, (by show (0 : Int) < 7; decide), _, _, rfl, rfl, _, _, rfl, rfl, ⟨(w1 _).2.1, (w1 _).2.2⟩, _, rfl, _, _, rfl, rfl, hcp, ?_⟩
        exact ⟨_, rfl, .inl ⟨rfl, _, SqL.of e1⟩, _, rfl, p, _, _, rfl, rfl, e1, room, _, rfl, _, rfl, _, _, rfl, rfl, ⟨hcp, hc3⟩, last _ (hmod _)⟩
      · exact ⟨_, rfl, .inl ⟨rfl, _, SqL.of e1⟩, _, rfl, p, _, _, rfl, rfl, e1, room, _, rfl, _, rfl, _, _, rfl, rfl, ⟨hcp, hc3⟩, last _ (hmod _)⟩
    · refine ⟨_, rfl, rfl, _, rfl, ite2 (fun _ => ?_) (fun _ => ?_)⟩
      · refine ⟨_, rfl, _, _, rfl, rfl, _, rfl, _, rfl, _, _, rfl, rfl, a, ns, k + 2, rfl, hS1, _, _, rfl, rfl, (by show (0 : Int) < 7; decide), _, _, rfl, rfl, _, _, rfl, rfl, ⟨(w1 _).2.1, (w1 _).2.2⟩, _, rfl, _, _, rfl, rfl, hcp, ?_⟩
        exact ⟨_, rfl, .inl ⟨rfl, _, SqL.of e1⟩, _, rfl, p, _, _, rfl, rfl, e1, room, _, rfl, _, rfl, _, _, rfl, rfl, ⟨hcp, hc3⟩, last _ (hmod _)⟩
      · exact ⟨_, rfl, .inl ⟨rfl, _, SqL.of e1⟩, _, rfl, p, _, _, rfl, rfl, e1, room, _, rfl, _, rfl, _, _, rfl, rfl, ⟨hcp, hc3⟩, last _ (hmod _)⟩
  · obtain ⟨cell, u, v, hs, rfl, s1, e1, l1, b1⟩ := hW
    exact ⟨_, rfl, q H1 p hs s1 hp e1 (by omega) b1⟩
theorem ok_by_last (D : Def K mg "by_last" s_by_last ["kind", "size"]) (mz : Bl mg) (h_triples : Has P w K mg base CX0 3 "triples" ["kind", "size"] (sp_triples K w)) (h_things : Has P w K mg base CX0 3 "things" ["kind", "size"] (sp_things K w)) : Has P w K mg base CX0 4 "by_last" ["kind", "size"] (sp_by_last K w) := by
  refine D.ok sc_by_last (fun vs H Q E h => ?_) (fun f cdv A outer s H vs Q E hr h => ?_)
  · obtain ⟨kd, n, rfl, _⟩ := h
    rfl
  have hu := hu_of hr
  obtain ⟨kd, n, rfl, hn, q⟩ := h
  refine ⟨_, (pss_cons (ps_setLc (i := 2) (own := [("thing", 3)]) rfl sc_by_last.nd rfl rfl (sw_true rfl rfl rfl (by decide +kernel)) (pi_range1 rfl mz.range (pa_cons (pe_cal h_things hr (by decide) rfl (pa_cons (pv 0) (pa_cons (pv 1) pa_nil))) pa_nil)) (blkOk_by (own := [("thing", 3)]) (N := ["kind", "size", "found", "thing", "one"]) (sc := defScope s_by_last) (by decide +kernel)) (fun _ _ _ _ _ => pg_name (i := 3) sc_by_last.nd rfl (Or.inl rfl)) (fun _ _ _ _ _ => pts_nil) (fun _ _ _ _ _ => (pe_lst pa_nil)))
  (pss_cons (ps_for PassesOwn.never rfl (pi_list (pe_cal h_triples hr (by decide) rfl (pa_cons (pv 0) (pa_cons (pv 1) pa_nil)))) (pg_name (i := 4) sc_by_last.nd rfl (.inl rfl)) (pss_one (ps_expr (pe_bm PySem.F.plainAttrs_list PySem.F.slot_list_append PySem.F.type_list_append mt_append (pe_ix ix_list (pv 2) (pe_ix ix_tup (pv 4) pe_int (fun _ _ => rfl)) (fun _ _ => rfl)) (pa_cons (pe_tup (pa_cons (pe_ix ix_tup (pv 4) pe_int (fun _ _ => rfl)) (pa_cons (pe_ix ix_tup (pv 4) pe_int (fun _ _ => rfl)) pa_nil))) pa_nil)))))
  (pss_one (ps_ret (pv 2))))), ?_⟩
  have mn := many_le hn
  refine ⟨_, rfl, _, rfl, kd, n, rfl, hn, many kd n, rfl, by omega, by omega, fun D hD => ?_⟩
  refine lc_range (lo := 0) (n := ((many kd n : Nat) : Int).toNat) (fun i H' => ∃ ls : List Addr, ls.length = i ∧ ls.Nodup ∧ D ∉ ls ∧ Same H H' ∧ H' D = some (.lst (ls.map V.ref)) ∧ (∀ l ∈ ls, H l = none) ∧ ∀ l ∈ ls, H' l = some (.lst [])) ⟨[], rfl, List.nodup_nil, by simp, same_new hD _, upd_same, by simp, by simp⟩ (fun i H1 hi hW => ?_) (fun H1 hW => ?_)
  · obtain ⟨ls, l1, nd1, nD, s1, e1, w1, k1⟩ := hW
    refine ⟨rfl, sl0, fun l hl => ?_⟩
    have hlD : D ≠ l := ne_of_none e1 hl
    refine ⟨_, (upd_ne hlD).trans e1, by rw [List.length_map, l1]; exact sl_lt (by omega), ls ++ [l], by rw [List.length_append, l1]; rfl, ?_, ?_, ?_, ?_, ?_, ?_⟩
    · refine nd_snoc nd1 fun m => ?_
      rw [k1 l m] at hl
      cases hl
    · intro m
      rcases List.mem_append.mp m with m | m
      · exact nD m
      · exact hlD (List.mem_singleton.mp m)
    · exact same_upd (same_upd s1 (s1.free hl) _) hD _
    · rw [upd_same, List.map_append]
      rfl
    · intro x hx
      rcases List.mem_append.mp hx with m | m
      · exact w1 x m
      · rw [List.mem_singleton.mp m]
        exact s1.free hl
    · intro x hx
      rcases List.mem_append.mp hx with m | m
      · have xD : x ≠ D := fun e => nD (e ▸ m)
        have xl : x ≠ l := fun e => by
          rw [e] at m
          rw [k1 l m] at hl
          cases hl
        rw [upd_ne xD, upd_ne xl]
        exact k1 x m
      · rw [List.mem_singleton.mp m, upd_ne hlD.symm, upd_same]
  obtain ⟨ls, l1, nd1, nD, s1, e1, hnew, k1⟩ := hW
  rw [Int.toNat_natCast] at l1
  refine ⟨_, rfl, _, rfl, kd, n, rfl, hn, fun H2 p s2 hp L2 => ?_⟩
  obtain ⟨rs, e2, t2⟩ := L2
  have pls : p ∉ ls := fun m => by
    rw [k1 p m] at hp
    cases hp
  refine ⟨p, rfl, ⟨_, SqL.of e2⟩, ?_⟩
  refine for_list (K := K) (a := p) (xs := rs.map V.ref) (fun i σ H' => ∃ o x, σ = [some (.str kd.str), some (.int n), some (.ref D), o, x] ∧ Same H H' ∧ H' p = some (.lst (rs.map V.ref)) ∧ Tups H' rs ((trs kd n).map tl) ∧ H' D = some (.lst (ls.map V.ref)) ∧
    ∀ (k : Nat) (l : Addr), ls[k]? = some l → LT H' l (((((trs kd n).take i).filter fun t => decide (t.2.2 = k)).map fun t => (t.1, t.2.1)).map pl)) ⟨none, none, rfl, s1.trans s2, e2, t2, s2 _ _ e1, fun k l e => LT.nil (s2 _ _ (k1 l (List.mem_of_getElem? e)))⟩ (fun i σ H' hi hW => by
    obtain ⟨o, x, rfl, _, e, _⟩ := hW
    exact SqL.of e) (fun i x' σ H3 hx hW => ?_) (fun σ H3 hW => ?_)
  · obtain ⟨o, x, rfl, s3, e3, t3, d3, k3⟩ := hW
    obtain ⟨r, t0, rfl, hr', ht, hrt⟩ := t3.getV hx
    rw [List.getElem?_map] at ht
    obtain ⟨t, htr, rfl⟩ : ∃ t, (trs kd n)[i]? = some t ∧ tl t = t0 := by
      cases e : (trs kd n)[i]? with
      | none => rw [e] at ht; cases ht
      | some t => rw [e] at ht; exact ⟨t, rfl, Option.some.inj ht⟩
    obtain ⟨i1, i2, i3⟩ := trs_in hn (List.mem_of_getElem? htr)
    have hT : SqT K H3 r (rv (tl t)) := SqT.of hrt
    have hk : t.2.2 < ls.length := by omega
    have el : ls[t.2.2]? = some ls[t.2.2] := List.getElem?_eq_getElem hk
    generalize ls[t.2.2] = l at el
    have ml := List.mem_of_getElem? el
    have Ll := k3 _ _ el
    obtain ⟨xs, exs, lxs⟩ := Ll.len
    refine ⟨_, rfl, _, rfl, r, _, 2, .int t.2.2, rfl, rfl, hT, atI_nat (j := 2) rfl, D, _, t.2.2, .ref l, rfl, rfl, SqL.of d3, atI_nat (by rw [List.getElem?_map, el]; rfl), .inl ⟨rfl, _, SqL.of exs⟩, ?_⟩
    refine ⟨_, rfl, r, _, 0, .int t.1, rfl, rfl, hT, atI_nat (j := 0) rfl, _, rfl, r, _, 1, .int t.2.1, rfl, rfl, hT, atI_nat (j := 1) rfl, sl2, fun T hT' => ?_⟩
    have sT := same_new (H := H3) hT' (.tup [.int t.1, .int t.2.1])
    have exT := sT _ _ exs
    refine ⟨l, xs, _, rfl, rfl, exT, ?_, ?_⟩
    · rw [lxs, List.length_map, List.length_map]
      have z1 := List.length_filter_le (fun u : Tri => decide (u.2.2 = t.2.2)) ((trs kd n).take i)
      have z2 := List.length_take_le' i (trs kd n)
      have z3 := trs_le hn
      exact sl_lt (by omega)
    · have pl' : p ≠ l := fun e => pls (e ▸ ml)
      have Dl : D ≠ l := fun e => nD (e ▸ ml)
      refine ⟨_, _, rfl, same_upd (s3.trans sT) (hnew l ml) _, (upd_ne pl').trans (sT _ _ e3), Tups.upd_lst exT (t3.same sT), (upd_ne Dl).trans (sT _ _ d3), fun k l' el' => ?_⟩
      by_cases c : k = t.2.2
      · subst c
        rw [el] at el'
        cases el'
        have e5 : ((((trs kd n).take (i + 1)).filter fun u => decide (u.2.2 = t.2.2)).map fun t => (t.1, t.2.1)).map pl = ((((trs kd n).take i).filter fun u => decide (u.2.2 = t.2.2)).map fun t => (t.1, t.2.1)).map pl ++ [pl (t.1, t.2.1)] := by
          rw [List.take_add_one, htr, List.filter_append, List.map_append, List.map_append]
          simp
        rw [e5]
        exact Ll.push (t := pl (t.1, t.2.1)) exs hT'
      · have nl : l' ≠ l := fun e => c (nd_ix nd1 (e ▸ el') el)
        have e5 : ((((trs kd n).take (i + 1)).filter fun u => decide (u.2.2 = k)).map fun t => (t.1, t.2.1)).map pl = ((((trs kd n).take i).filter fun u => decide (u.2.2 = k)).map fun t => (t.1, t.2.1)).map pl := by
          rw [List.take_add_one, htr, List.filter_append, List.map_append, List.map_append]
          simp [Ne.symm c]
        rw [e5]
        exact ((k3 k l' el').same sT).keep exT nl
  · obtain ⟨o, x, rfl, s3, e3, t3, d3, k3⟩ := hW
    have e : (rs.map V.ref).length = (trs kd n).length := by rw [List.length_map, t2.length, List.length_map]
    rw [e, List.take_length] at k3
    exact ⟨_, rfl, q H3 D s3 hD ⟨ls, d3, l1, k3⟩⟩
theorem ok_fits (D : Def K mg "fits" s_fits ["hues", "others", "hue"]) (mz : Bl mg)  : Has P w K mg base CX0 1 "fits" ["hues", "others", "hue"] (sp_fits K w) := by
  refine D.ok sc_fits (fun vs H Q E h => ?_) (fun f cdv A outer s H vs Q E hr h => ?_)
  · obtain ⟨a, hs, b, ps, x, rfl, _⟩ := h
    rfl
  have hu := hu_of hr
  obtain ⟨a, hs, b, ps, x, rfl, hS, hL, hin, q⟩ := h
  refine ⟨_, (pss_cons (ps_for PassesOwn.never rfl (pi_list (pv 1)) (pg_tup rfl (pgs_cons (pg_name (i := 3) sc_fits.nd rfl (.inl rfl)) (pgs_cons (pg_name (i := 4) sc_fits.nd rfl (.inl rfl)) pgs_nil))) (pss_one (ps_if (PW.pt (pw_and (pt_cmpR op_eq (pe_ix ix_list (pv 0) (pv 3) (fun _ _ => rfl)) (pv 2) (nomark _)) (pw_and1 (pt_cmpR op_eq (pe_ix ix_list (pv 0) (pv 4) (fun _ _ => rfl)) (pv 2) (nomark _))))) (pss_one (ps_ret pe_bl)) pss_nil)))
  (pss_one (ps_ret pe_bl))), ?_⟩
  obtain ⟨rs, e1, t1⟩ := hL
  refine ⟨_, rfl, b, rfl, ⟨_, SqL.of e1⟩, ?_⟩
  refine for_list (K := K) (a := b) (xs := rs.map V.ref) (fun i σ H' => ∃ y z, σ = [some (.ref a), some (.ref b), some (.int x), y, z] ∧ H' = H ∧ (ps.take i).all (fitP hs x) = true) ⟨none, none, rfl, rfl, rfl⟩ (fun i σ H' hi hW => by
    obtain ⟨y, z, rfl, rfl, _⟩ := hW
    exact SqL.of e1) (fun i x' σ H' hx hW => ?_) (fun σ H' hW => ?_)
  · obtain ⟨y, z, rfl, rfl, g⟩ := hW
    obtain ⟨r, t0, rfl, hr', ht, hrt⟩ := t1.getV hx
    rw [List.getElem?_map] at ht
    obtain ⟨p, hp, rfl⟩ : ∃ p, ps[i]? = some p ∧ pl p = t0 := by
      cases e : ps[i]? with
      | none => rw [e] at ht; cases ht
      | some p => rw [e] at ht; exact ⟨p, rfl, Option.some.inj ht⟩
    obtain ⟨i1, i2⟩ := hin p (List.mem_of_getElem? hp)
    refine ⟨r, _, rfl, SqT.of hrt, rfl, _, _, rfl, _, _, rfl, rfl, ?_⟩
    refine ⟨_, rfl, _, rfl, a, _, p.1, _, rfl, rfl, hS, atI_nat (getV_int i1), _, rfl, rfl, _, rfl, ?_⟩
    refine ite2 (fun A => ?_) (fun A => ?_)
    · have A := V.int.inj (of_decide_eq_true A)
      refine ⟨_, rfl, _, rfl, a, _, p.2, _, rfl, rfl, hS, atI_nat (getV_int i2), _, rfl, rfl, _, rfl, ?_⟩
      refine ite2 (fun B => ?_) (fun B => ?_)
      · have B := V.int.inj (of_decide_eq_true B)
        have f : fit hs ps x = false := fit_all hp (by unfold fitP; rw [decide_eq_true A, decide_eq_true B]; rfl)
        rw [f] at q
        exact q
      · have B : ¬ hs.getD p.2 0 = x := fun z => B (decide_eq_true (congrArg V.int z))
        have fp : fitP hs x p = true := by
          unfold fitP
          rw [decide_eq_false B, Bool.and_false]
          rfl
        refine ⟨_, _, rfl, rfl, ?_⟩
        rw [List.take_add_one, hp, List.all_append, g]
        simp [fp]
    · have A : ¬ hs.getD p.1 0 = x := fun z => A (decide_eq_true (congrArg V.int z))
      have fp : fitP hs x p = true := by
        unfold fitP
        rw [decide_eq_false A, Bool.false_and]
        rfl
      refine iteF ⟨_, _, rfl, rfl, ?_⟩
      rw [List.take_add_one, hp, List.all_append, g]
      simp [fp]
  · obtain ⟨y, z, rfl, rfl, g⟩ := hW
    have e : (rs.map V.ref).length = ps.length := by rw [List.length_map, t1.length, List.length_map]
    rw [e, List.take_length] at g
    have g : fit hs ps x = true := g
    rw [g] at q
    exact q
theorem ok_asked_search (D : Def K mg "asked_search" s_asked_search ["kind", "size", "count"]) (mz : Bl mg) (ms : Cn mg "MOST_SEARCHED" 15) (h_asked_hues : Has P w K mg base CX0 3 "asked_hues" ["kind", "size", "count"] (sp_asked_hues K w)) (h_things : Has P w K mg base CX0 3 "things" ["kind", "size"] (sp_things K w)) : Has P w K mg base CX0 4 "asked_search" ["kind", "size", "count"] (sp_asked_search K w) := by
  refine D.ok sc_asked_search (fun vs H Q E h => ?_) (fun f cdv A outer s H vs Q E hr h => ?_)
  · obtain ⟨kd, n, c, rfl, _⟩ := h
    rfl
  have hu := hu_of hr
  obtain ⟨kd, n, c, rfl, hn, hc, hm, q⟩ := h
  obtain ⟨t, ht⟩ := ms
  refine ⟨_, (pss_cons (ps_expr (pe_cal h_asked_hues hr (by decide) rfl (pa_cons (pv 0) (pa_cons (pv 1) (pa_cons (pv 2) pa_nil)))))
  (pss_one (ps_if (pt_cmpR op_gt (pe_cal h_things hr (by decide) rfl (pa_cons (pv 0) (pa_cons (pv 1) pa_nil))) (pe_glob (v := .int 15) rfl ht ⟨t, rfl⟩) (nomark _)) (pss_one ps_never) pss_nil))), ?_⟩
  refine ⟨_, rfl, _, rfl, _, rfl, kd, n, c, rfl, hn, hc, ?_⟩
  exact ⟨_, rfl, _, rfl, kd, n, rfl, hn, _, _, rfl, rfl, _, rfl, iteD (decide_eq_false (by omega)) q⟩
theorem okr_first_from {j : Nat} (D : Def K mg "first_from" s_first_from ["lists", "count", "hues"]) (mz : Bl mg) (h_fits : Has P w K mg base CX0 1 "fits" ["hues", "others", "hue"] (sp_fits K w)) (h_first_from : Has P w K mg base CX0 (j + 1) "first_from" ["lists", "count", "hues"] (spr_first_from K w j)) : Has P w K mg base CX0 (j + 1 + 1) "first_from" ["lists", "count", "hues"] (spr_first_from K w (j + 1)) := by
  refine D.ok sc_first_from (fun vs H Q E h => ?_) (fun f cdv A outer s H vs Q E hr h => ?_)
  · obtain ⟨p, f, m, c, a, hs, rfl, _⟩ := h
    rfl
  have hu := hu_of hr
  obtain ⟨p, f, m, c, a, hs, rfl, hL, hf, hc, hm, ha, hk, qn, qs⟩ := h
  refine ⟨_, (pss_cons (ps_if (pt_cmpR op_eq (pe_callB call_len_seq (by rfl) mz.len PySem.boot_len (pa_cons (pv 2) pa_nil)) (pe_callB call_len_seq (by rfl) mz.len PySem.boot_len (pa_cons (pv 0) pa_nil)) (nomark _)) (pss_one (ps_ret (pv 2))) pss_nil)
  (pss_cons (ps_for PassesOwn.never rfl (pi_range1 rfl mz.range (pa_cons (pv 1) pa_nil)) (pg_name (i := 3) sc_first_from.nd rfl (.inl rfl)) (pss_one (ps_if (pt_val (pe_cal h_fits hr (by omega) rfl (pa_cons (pv 2) (pa_cons (pe_ix ix_list (pv 0) (pe_callB call_len_seq (by rfl) mz.len PySem.boot_len (pa_cons (pv 2) pa_nil)) (fun _ _ => rfl)) (pa_cons (pv 3) pa_nil))))) (pss_cons (ps_set (i := 4) sc_first_from.nd rfl (.inl rfl) (pe_cal h_first_from hr (by omega) rfl (pa_cons (pv 0) (pa_cons (pv 1) (pa_cons (pe_op op_cat (pv 2) (pe_lst (pa_cons (pv 3) pa_nil))) pa_nil)))))
  (pss_one (ps_if (pt_cmpR op_notN (pv 4) pe_non (nomark _)) (pss_one (ps_ret (pv 4))) pss_nil))) pss_nil)))
  (pss_one (ps_ret pe_non)))), ?_⟩
  obtain ⟨ls, el, ll, kl⟩ := id hL
  refine ⟨_, rfl, a, _, rfl, .inl (SqL.of ha), _, rfl, p, _, rfl, .inl (SqL.of el), rfl, _, rfl, ?_⟩
  rw [List.length_map, List.length_map, ll]
  cases j with
  | zero => exact iteC (decide_eq_true (congrArg V.int (by omega))) ⟨_, rfl, qs hs rfl H a (Same.refl _) (.inl rfl) ha⟩
  | succ k =>
    refine iteD (decide_eq_false fun z => by have := V.int.inj z; omega) ?_
    have hd : hs.length < ls.length := by omega
    have ed : ls[hs.length]? = some ls[hs.length] := List.getElem?_eq_getElem hd
    generalize ls[hs.length] = l at ed
    refine ⟨_, rfl, c, rfl, by omega, by omega, ?_⟩
    refine for_range (lo := 0) (n := ((c : Nat) : Int).toNat) (fun i σ H' => ∃ x y, σ = [some (.ref p), some (.int c), some (.ref a), x, y] ∧ Same H H' ∧ (List.range i).findSome? (fun h : Nat => if fit hs (f hs.length) h = true then ff f c k (hs ++ [(h : Int)]) else none) = none) ⟨none, none, rfl, Same.refl _, rfl⟩ (fun i σ H1 hi hW => ?_) (fun σ H1 hW => ?_)
    · obtain ⟨x, y, rfl, s1, g⟩ := hW
      have ha1 := s1 _ _ ha
      have L1 := hL.same s1
      have el1 := s1 _ _ el
      have Ll := (kl _ _ ed).same s1
      refine ⟨_, rfl, _, rfl, _, rfl, a, _, rfl, .inl (SqL.of ha1), p, _, _, .ref l, rfl, rfl, SqL.of el1, atI_nat (j := (hs.map V.int).length) (by rw [List.length_map, List.getElem?_map, ed]; rfl), _, rfl, a, hs, l, f hs.length, _, rfl, SqL.of ha1, Ll, fun p hp => hf _ _ hp, _, rfl, ?_⟩
      rw [Int.zero_add]
      refine ite2 (fun F => ?_) (fun F => ?_)
      · refine ⟨_, rfl, _, rfl, _, rfl, _, rfl, sl1, fun b hb => ?_⟩
        have sb := same_new (H := H1) hb (.lst [.int (i : Int)])
        refine ⟨a, b, _, _, rfl, rfl, sb _ _ ha1, upd_same, by rw [List.length_map]; exact sl_le (by simp only [List.length_singleton]; omega), fun t ht => ?_⟩
        have st := sb.trans (same_new ht (.lst (hs.map V.int ++ [.int (i : Int)])))
        refine ⟨p, f, m, c, t, hs ++ [(i : Int)], rfl, L1.same st, hf, hc, hm, by rw [upd_same, List.map_append]; rfl, by rw [List.length_append, List.length_singleton]; omega, fun e H2 s2 => ?_, fun r e H2 x s2 hx ex => ?_⟩
        · refine ⟨_, rfl, rfl, _, rfl, iteNS rfl ⟨_, _, rfl, s1.trans (st.trans s2), ?_⟩⟩
          rw [fs_succ _ _ g, if_pos F]
          exact e
        · refine ⟨_, rfl, rfl, _, rfl, iteNF (decide_eq_false (fun z => by cases z)) ⟨_, rfl, ?_⟩⟩
          refine qs r (fs_found _ (i := i) (by omega) g (by rw [if_pos F]; exact e)) H2 x (s1.trans (st.trans s2)) (.inr ?_) ex
          rcases hx with rfl | hx
          · exact (s1.trans sb).free ht
          · exact (s1.trans st).free hx
      · refine ⟨_, _, rfl, s1, ?_⟩
        rw [fs_succ _ _ g, if_neg F]
    · obtain ⟨x, y, rfl, s1, g⟩ := hW
      rw [Int.toNat_natCast] at g
      exact qn g H1 s1
theorem ok_first_from (D : Def K mg "first_from" s_first_from ["lists", "count", "hues"]) (mz : Bl mg) (h_fits : Has P w K mg base CX0 1 "fits" ["hues", "others", "hue"] (sp_fits K w)) : Has P w K mg base CX0 19 "first_from" ["lists", "count", "hues"] (sp_first_from K w) := Has.deep D (fun _ _ _ _ z => z) (fun j h => okr_first_from D mz h_fits h) 18
theorem ok_first_free (D : Def K mg "first_free" s_first_free ["kind", "size", "count"]) (mz : Bl mg) (h_asked_search : Has P w K mg base CX0 4 "asked_search" ["kind", "size", "count"] (sp_asked_search K w)) (h_first_from : Has P w K mg base CX0 19 "first_from" ["lists", "count", "hues"] (sp_first_from K w)) (h_by_last : Has P w K mg base CX0 4 "by_last" ["kind", "size"] (sp_by_last K w)) : Has P w K mg base CX0 20 "first_free" ["kind", "size", "count"] (sp_first_free K w) := by
  refine D.ok sc_first_free (fun vs H Q E h => ?_) (fun f cdv A outer s H vs Q E hr h => ?_)
  · obtain ⟨kd, n, c, rfl, _⟩ := h
    rfl
  have hu := hu_of hr
  obtain ⟨kd, n, c, rfl, hn, hc, hm, qn, qs⟩ := h
  refine ⟨_, (pss_cons (ps_expr (pe_cal h_asked_search hr (by decide) rfl (pa_cons (pv 0) (pa_cons (pv 1) (pa_cons (pv 2) pa_nil)))))
  (pss_one (ps_ret (pe_cal h_first_from hr (by decide) rfl (pa_cons (pe_cal h_by_last hr (by decide) rfl (pa_cons (pv 0) (pa_cons (pv 1) pa_nil))) (pa_cons (pv 2) (pa_cons (pe_lst pa_nil) pa_nil))))))), ?_⟩
  refine ⟨_, rfl, _, rfl, _, rfl, kd, n, c, rfl, hn, hc, hm, ?_⟩
  refine ⟨_, rfl, _, rfl, kd, n, rfl, hn, fun H1 p s1 hp L1 => ?_⟩
  refine ⟨_, rfl, sl0, fun a ha => ?_⟩
  have s2 := s1.trans (same_new ha (.lst []))
  refine ⟨many kd n + 1, by omega, p, blp kd n, many kd n, c, a, [], rfl, L1.same (same_new ha _), fun i pr h => blp_lt hn h, hc.2, by omega, upd_same, by simp, fun e H' s3 => qn e H' (s2.trans s3), fun r e H' x s3 hx ex => qs r e H' x (s2.trans s3) ?_ ex⟩
  rcases hx with rfl | hx
  · exact s1.free ha
  · exact s2.free hx
theorem okr_count_from {j : Nat} (D : Def K mg "count_from" s_count_from ["lists", "count", "hues"]) (mz : Bl mg) (h_fits : Has P w K mg base CX0 1 "fits" ["hues", "others", "hue"] (sp_fits K w)) (h_count_from : Has P w K mg base CX0 (j + 1) "count_from" ["lists", "count", "hues"] (spr_count_from K w j)) : Has P w K mg base CX0 (j + 1 + 1) "count_from" ["lists", "count", "hues"] (spr_count_from K w (j + 1)) := by
  refine D.ok sc_count_from (fun vs H Q E h => ?_) (fun f cdv A outer s H vs Q E hr h => ?_)
  · obtain ⟨p, f, m, c, a, hs, rfl, _⟩ := h
    rfl
  have hu := hu_of hr
  obtain ⟨p, f, m, c, a, hs, rfl, hL, hf, hc, hm, ha, hk, q⟩ := h
  refine ⟨_, (pss_cons (ps_if (pt_cmpR op_eq (pe_callB call_len_seq (by rfl) mz.len PySem.boot_len (pa_cons (pv 2) pa_nil)) (pe_callB call_len_seq (by rfl) mz.len PySem.boot_len (pa_cons (pv 0) pa_nil)) (nomark _)) (pss_one (ps_ret pe_int)) pss_nil)
  (pss_cons (ps_set (i := 3) sc_count_from.nd rfl (.inl rfl) pe_int)
  (pss_cons (ps_for PassesOwn.never rfl (pi_range1 rfl mz.range (pa_cons (pv 1) pa_nil)) (pg_name (i := 4) sc_count_from.nd rfl (.inl rfl)) (pss_one (ps_if (pt_val (pe_cal h_fits hr (by omega) rfl (pa_cons (pv 2) (pa_cons (pe_ix ix_list (pv 0) (pe_callB call_len_seq (by rfl) mz.len PySem.boot_len (pa_cons (pv 2) pa_nil)) (fun _ _ => rfl)) (pa_cons (pv 4) pa_nil))))) (pss_one (ps_set (i := 3) sc_count_from.nd rfl (.inl rfl) (pe_op op_add (pv 3) (pe_cal h_count_from hr (by omega) rfl (pa_cons (pv 0) (pa_cons (pv 1) (pa_cons (pe_op op_cat (pv 2) (pe_lst (pa_cons (pv 4) pa_nil))) pa_nil))))))) pss_nil)))
  (pss_one (ps_ret (pv 3)))))), ?_⟩
  obtain ⟨ls, el, ll, kl⟩ := id hL
  refine ⟨_, rfl, a, _, rfl, .inl (SqL.of ha), _, rfl, p, _, rfl, .inl (SqL.of el), rfl, _, rfl, ?_⟩
  rw [List.length_map, List.length_map, ll]
  cases j with
  | zero => exact iteC (decide_eq_true (congrArg V.int (by omega))) (q H (Same.refl _))
  | succ k =>
    refine iteD (decide_eq_false fun z => by have := V.int.inj z; omega) ?_
    have hd : hs.length < ls.length := by omega
    have ed : ls[hs.length]? = some ls[hs.length] := List.getElem?_eq_getElem hd
    generalize ls[hs.length] = l at ed
    refine ⟨_, rfl, c, rfl, by omega, by omega, ?_⟩
    refine for_range (lo := 0) (n := ((c : Nat) : Int).toNat) (fun i σ H' => ∃ x, σ = [some (.ref p), some (.int c), some (.ref a), some (.int (((List.range i).map (fun h : Nat => if fit hs (f hs.length) h = true then cf f c k (hs ++ [(h : Int)]) else 0)).sum : Nat)), x] ∧ Same H H') ⟨none, rfl, Same.refl _⟩ (fun i σ H1 hi hW => ?_) (fun σ H1 hW => ?_)
    · obtain ⟨x, rfl, s1⟩ := hW
      have ha1 := s1 _ _ ha
      have L1 := hL.same s1
      have el1 := s1 _ _ el
      have Ll := (kl _ _ ed).same s1
      refine ⟨_, rfl, _, rfl, _, rfl, a, _, rfl, .inl (SqL.of ha1), p, _, _, .ref l, rfl, rfl, SqL.of el1, atI_nat (j := (hs.map V.int).length) (by rw [List.length_map, List.getElem?_map, ed]; rfl), _, rfl, a, hs, l, f hs.length, _, rfl, SqL.of ha1, Ll, fun p hp => hf _ _ hp, _, rfl, ?_⟩
      rw [Int.zero_add]
      refine ite2 (fun F => ?_) (fun F => ?_)
      · refine ⟨_, rfl, _, rfl, _, rfl, _, rfl, _, rfl, sl1, fun b hb => ?_⟩
        have sb := same_new (H := H1) hb (.lst [.int (i : Int)])
        refine ⟨a, b, _, _, rfl, rfl, sb _ _ ha1, upd_same, by rw [List.length_map]; exact sl_le (by simp only [List.length_singleton]; omega), fun t ht => ?_⟩
        have st := sb.trans (same_new ht (.lst (hs.map V.int ++ [.int (i : Int)])))
        refine ⟨p, f, m, c, t, hs ++ [(i : Int)], rfl, L1.same st, hf, hc, hm, by rw [upd_same, List.map_append]; rfl, by rw [List.length_append, List.length_singleton]; omega, fun H2 s2 => ?_⟩
        refine ⟨_, _, rfl, rfl, some (.int (i : Int)), ?_, s1.trans (st.trans s2)⟩
        rw [mp_succ, List.sum_append, if_pos F, List.sum_singleton, Int.natCast_add]
        rfl
      · refine ⟨some (.int (i : Int)), ?_, s1⟩
        rw [mp_succ, List.sum_append, if_neg F, List.sum_singleton, Nat.add_zero]
        rfl
    · obtain ⟨x, rfl, s1⟩ := hW
      rw [Int.toNat_natCast]
      exact ⟨_, rfl, q H1 s1⟩
theorem ok_count_from (D : Def K mg "count_from" s_count_from ["lists", "count", "hues"]) (mz : Bl mg) (h_fits : Has P w K mg base CX0 1 "fits" ["hues", "others", "hue"] (sp_fits K w)) : Has P w K mg base CX0 19 "count_from" ["lists", "count", "hues"] (sp_count_from K w) := Has.deep D (fun _ _ _ _ z => z) (fun j h => okr_count_from D mz h_fits h) 18
theorem ok_how_many (D : Def K mg "how_many" s_how_many ["kind", "size", "count"]) (mz : Bl mg) (mc : Cn mg "MOST_COUNTED" 8) (h_asked_search : Has P w K mg base CX0 4 "asked_search" ["kind", "size", "count"] (sp_asked_search K w)) (h_count_from : Has P w K mg base CX0 19 "count_from" ["lists", "count", "hues"] (sp_count_from K w)) (h_by_last : Has P w K mg base CX0 4 "by_last" ["kind", "size"] (sp_by_last K w)) (h_things : Has P w K mg base CX0 3 "things" ["kind", "size"] (sp_things K w)) : Has P w K mg base CX0 20 "how_many" ["kind", "size", "count"] (sp_how_many K w) := by
  refine D.ok sc_how_many (fun vs H Q E h => ?_) (fun f cdv A outer s H vs Q E hr h => ?_)
  · obtain ⟨kd, n, c, rfl, _⟩ := h
    rfl
  have hu := hu_of hr
  obtain ⟨kd, n, c, rfl, hn, hc, hm, h8, q⟩ := h
  obtain ⟨t, ht⟩ := mc
  refine ⟨_, (pss_cons (ps_expr (pe_cal h_asked_search hr (by decide) rfl (pa_cons (pv 0) (pa_cons (pv 1) (pa_cons (pv 2) pa_nil)))))
  (C8.pss_cut (ps_if (PW.pt (pw_and (pt_cmpR op_eq (pv 2) pe_int (nomark _)) (pw_and1 (pt_cmpR op_gt (pe_cal h_things hr (by decide) rfl (pa_cons (pv 0) (pa_cons (pv 1) pa_nil))) (pe_glob (v := .int 8) rfl ht ⟨t, rfl⟩) (nomark _))))) (pss_one ps_never) pss_nil)
  (pss_one (ps_ret (pe_cal h_count_from hr (by decide) rfl (pa_cons (pe_cal h_by_last hr (by decide) rfl (pa_cons (pv 0) (pa_cons (pv 1) pa_nil))) (pa_cons (pv 2) (pa_cons (pe_lst pa_nil) pa_nil)))))))), ?_⟩
  refine ⟨_, rfl, _, rfl, _, rfl, kd, n, c, rfl, hn, hc, hm, ?_⟩
  refine ⟨fun σ H' => σ = [some (.str kd.str), some (.int n), some (.int c)] ∧ H' = H, ?_, ?_⟩
  · refine ⟨_, rfl, rfl, _, rfl, ite2 (fun e => ?_) (fun e => ?_)⟩
    · have e := V.int.inj (of_decide_eq_true e)
      have m8 := h8 (by omega)
      exact ⟨_, rfl, _, rfl, kd, n, rfl, hn, _, _, rfl, rfl, _, rfl, iteD (decide_eq_false (by omega)) ⟨rfl, rfl⟩⟩
    · exact iteF ⟨rfl, rfl⟩
  · rintro σ H' ⟨rfl, rfl⟩
    refine ⟨_, rfl, _, rfl, kd, n, rfl, hn, fun H1 p s1 hp L1 => ?_⟩
    refine ⟨_, rfl, sl0, fun a ha => ?_⟩
    have s2 := s1.trans (same_new ha (.lst []))
    exact ⟨many kd n + 1, by omega, p, blp kd n, many kd n, c, a, [], rfl, L1.same (same_new ha _), fun i pr h => blp_lt hn h, hc.2, by omega, upd_same, by simp, fun H' s3 => q H' (s2.trans s3)⟩
theorem ok_law_other (D : Def K mg "_law_other" s_law_other ["e", "wanted"]) (mz : Bl mg) (er : Er K mg)  : HasE P w K mg base 1 "_law_other" ["e", "wanted"] (sp_oth mg) := by
  obtain ⟨c, hb, hc, he, hv⟩ := er.ex
  have hTT : ∀ (i j : Nat), i < 5 → j < 5 → PySem.W.kitOne K (.ref (c i)) (.ref (c j)) = some (decide (i = j)) := fun i j hi hj => (hc i hi).2.2.2.2 j hj
  refine D.okE sc_law_other (fun a cl d vs H Q E h => ?_) (fun f cdv A outer s H vs Q E a oe cl d hz hf hot hr h => ?_)
  · obtain ⟨i, j, _, _, _, _, rfl, _⟩ := h
    rfl
  obtain ⟨i, j, hi, hj, ⟨D0, rfl, gD⟩, rfl, rfl, q⟩ := h
  obtain rfl : D0 = c i := by
    have z := (hc i hi).1
    rw [gD] at z
    exact Value.ref.inj (Option.some.inj z)
  have ci := call_isP (X := L2H.cxH CX0 P w K mg base ["e", "wanted", "marks", "k"] "_law_other" (defScope s_law_other) f cdv A outer s H E (a, oe)) (hc i hi).2.1.exc hz hf (List.mem_singleton.mpr rfl)
  have hot' : L2H.HotC (L2H.cxH CX0 P w K mg base ["e", "wanted", "marks", "k"] "_law_other" (defScope s_law_other) f cdv A outer s H E (a, oe)) := ⟨(a, oe), hot, List.mem_singleton.mpr rfl⟩
  have hu : (L2H.cxH CX0 P w K mg base ["e", "wanted", "marks", "k"] "_law_other" (defScope s_law_other) f cdv A outer s H E (a, oe)).A.units + 64 < cLine := by
    have := hr.un
    show (A.deeper _).units + 64 < cLine
    omega
  refine ⟨_, (pss_cons (ps_set (i := 2) sc_law_other.nd rfl (.inl rfl) (pe_lst (pa_cons (pe_callB ci (by rfl) mz.isinstance (by decide +kernel) (pa_cons (pv 0) (pa_cons (pe_glob (v := .ref (c 0)) rfl (hc 0 (by decide)).1 rfl) pa_nil)))
      (pa_cons (pe_callB ci (by rfl) mz.isinstance (by decide +kernel) (pa_cons (pv 0) (pa_cons (pe_glob (v := .ref (c 1)) rfl (hc 1 (by decide)).1 rfl) pa_nil)))
      (pa_cons (pe_callB ci (by rfl) mz.isinstance (by decide +kernel) (pa_cons (pv 0) (pa_cons (pe_glob (v := .ref (c 2)) rfl (hc 2 (by decide)).1 rfl) pa_nil)))
      (pa_cons (pe_callB ci (by rfl) mz.isinstance (by decide +kernel) (pa_cons (pv 0) (pa_cons (pe_glob (v := .ref (c 3)) rfl (hc 3 (by decide)).1 rfl) pa_nil))) pa_nil))))))
    (pss_cons (ps_expr (pe_bm PySem.F.plainAttrs_list PySem.F.slot_list_append PySem.F.type_list_append mt_append (pv 2) (pa_cons (pe_callB ci (by rfl) mz.isinstance (by decide +kernel) (pa_cons (pv 0) (pa_cons (pe_glob (v := .ref (c 4)) rfl (hc 4 (by decide)).1 rfl) pa_nil))) pa_nil)))
    (pss_one (ps_ret (pe_or (pe_cmpR (op_neD hu) (pv 2) (pe_lcR (own := [("k", 3)]) hot' sc_law_other.nd rfl mz.range (pa_cons pe_int pa_nil) (blkOk_by (own := [("k", 3)]) (N := ["e", "wanted", "marks", "k"]) (sc := defScope s_law_other) (by decide +kernel))
        (fun u G C cl fp p => pg_name (i := 3) sc_law_other.nd rfl (Or.inl rfl)) (fun u G C cl fp p => pe_cmpR op_eq (pv 3) (pv 1) (nomark _))) (nomark _))
      (pe_one (pe_not (pe_callB ci (by rfl) mz.isinstance (by decide +kernel) (pa_cons (pv 0) (pa_cons (pe_bltn (v := .ty "ValueError") (by rfl) hv (by decide +kernel) rfl) pa_nil)))))))))), ?_⟩
  refine ⟨_, rfl, .ref (c 0), .ref (c 0), _, rfl, fun u r => r, hTT i 0 hi (by decide), ?_⟩
  refine ⟨_, rfl, .ref (c 1), .ref (c 1), _, rfl, fun u r => r, hTT i 1 hi (by decide), ?_⟩
  refine ⟨_, rfl, .ref (c 2), .ref (c 2), _, rfl, fun u r => r, hTT i 2 hi (by decide), ?_⟩
  refine ⟨_, rfl, .ref (c 3), .ref (c 3), _, rfl, fun u r => r, hTT i 3 hi (by decide), ?_⟩
  refine ⟨sl4, fun l hl => ?_⟩
  have s1 := same_new (H := H) hl (.lst [.bl (decide (i = 0)), .bl (decide (i = 1)), .bl (decide (i = 2)), .bl (decide (i = 3))])
  refine ⟨_, rfl, .inl ⟨rfl, _, SqL.of upd_same⟩, _, rfl, .ref (c 4), .ref (c 4), _, rfl, fun u r => r, hTT i 4 hi (by decide), l, _, _, rfl, rfl, upd_same, sl_lt (n := 4) (by decide), ?_⟩
  refine ⟨_, rfl, 5, rfl, by decide, by decide, fun D hD => ?_⟩
  have lD : l ≠ D := ne_of_none upd_same hD
  have hD0 : H D = none := s1.free ((upd_ne lD.symm).symm.trans hD)
  have s2 := same_upd s1 hl (.lst ([.bl (decide (i = 0)), .bl (decide (i = 1)), .bl (decide (i = 2)), .bl (decide (i = 3))] ++ [.bl (decide (i = 4))]))
  refine lc_range (lo := 0) (n := 5) (fun k H' => H' D = some (.lst ((List.range k).map fun x : Nat => V.bl (decide (x = j)))) ∧ H' l = some (.lst [.bl (decide (i = 0)), .bl (decide (i = 1)), .bl (decide (i = 2)), .bl (decide (i = 3)), .bl (decide (i = 4))]) ∧ Same H H') ⟨upd_same, (upd_ne lD).trans upd_same, s2.trans (same_new hD _)⟩ (fun k H1 hk hW => ?_) (fun H1 hW => ?_)
  · obtain ⟨eD, eL, s3⟩ := hW
    refine ⟨rfl, _, rfl, _, rfl, rfl, _, eD, ?_, ?_⟩
    · rw [List.length_map, List.length_range]
      exact sl_lt (by omega)
    · have Dl : l ≠ D := fun z => by
        rw [z, eD] at eL
        exact absurd (congrArg (fun o => match o with | some (HO.lst ys) => ys.length | _ => 0) eL) (by
          show (List.map (fun x : Nat => V.bl (decide (x = j))) (List.range k)).length ≠ 5
          rw [List.length_map, List.length_range]
          omega)
      refine ⟨?_, (upd_ne Dl).trans eL, same_upd s3 hD0 _⟩
      rw [upd_same, mp_succ, Int.zero_add]
      have e0 : decide (V.int (k : Int) = V.int (j : Int)) = decide (k = j) := by
        by_cases z : k = j
        · rw [decide_eq_true z, decide_eq_true (by rw [z])]
        · rw [decide_eq_false z, decide_eq_false (fun y => z (by have := V.int.inj y; omega))]
      rw [e0]
  obtain ⟨eD, eL, s3⟩ := hW
  refine ⟨_, _, dpBlL (r := [decide (i = 0), decide (i = 1), decide (i = 2), decide (i = 3), decide (i = 4)]) (SqL.of eL), dpBlL (r := (List.range 5).map fun x => decide (x = j)) (SqL.of (by rw [List.map_map]; exact eD)), rfl, rfl, ?_⟩
  refine ⟨_, rfl, ?_⟩
  rw [oth_eqv i j hi hj]
  by_cases e : i = j
  · rw [decide_eq_true e]
    refine ⟨_, rfl, .ty "ValueError", .type "ValueError", _, rfl, fun u r => r, (hc i hi).2.2.2.1, _, rfl, ?_⟩
    have z := q H1 s3
    rw [decide_eq_false (fun z => z e)] at z
    exact z
  · rw [decide_eq_false e]
    have z := q H1 s3
    rw [decide_eq_true e] at z
    exact z
theorem ok_first_size (D : Def K mg "first_size" s_first_size ["kind", "count"]) (mz : Bl mg) (h_asked_kind : Has P w K mg base CX0 1 "asked_kind" ["kind"] (sp_asked_kind K w)) (h_by_last : Has P w K mg base CX0 4 "by_last" ["kind", "size"] (sp_by_last K w)) (h_first_from : Has P w K mg base CX0 19 "first_from" ["lists", "count", "hues"] (sp_first_from K w)) : Has P w K mg base CX0 20 "first_size" ["kind", "count"] (sp_first_size K w) := by
  refine D.ok sc_first_size (fun vs H Q E h => ?_) (fun f cdv A outer s H vs Q E hr h => ?_)
  · obtain ⟨kd, c, rfl, _⟩ := h
    rfl
  have hu := hu_of hr
  obtain ⟨kd, c, rfl, hc, q⟩ := h
  refine ⟨_, (pss_cons (ps_expr (pe_cal h_asked_kind hr (by decide) rfl (pa_cons (pv 0) pa_nil)))
  (pss_cons (ps_if (pt_not (pt_chain op_le op_le pe_int (pv 1) pe_int)) (pss_one ps_never) pss_nil)
  (C8.pss_cut (ps_if (PW.pt (pw_and (pt_cmpR op_eq (pv 1) pe_int (nomark _)) (pw_and1 (pt_cmpR op_ne (pv 0) pe_str (nomark _))))) (pss_one ps_never) pss_nil)
  (pss_cons (ps_set (i := 2) sc_first_size.nd rfl (.inl rfl) pe_int)
  (pss_cons (ps_while PassesOwn.never (pt_cmpR op_notN (pe_cal h_first_from hr (by decide) rfl (pa_cons (pe_cal h_by_last hr (by decide) rfl (pa_cons (pv 0) (pa_cons (pv 2) pa_nil))) (pa_cons (pv 1) (pa_cons (pe_lst pa_nil) pa_nil)))) pe_non (nomark _)) (pss_one (ps_set (i := 2) sc_first_size.nd rfl (.inl rfl) (pe_op op_add (pv 2) pe_int))))
  (pss_one (ps_ret (pv 2)))))))), ?_⟩
  obtain ⟨c1, c3⟩ := hc.cnt
  refine ⟨_, rfl, kd, rfl, ?_⟩
  refine ⟨_, rfl, _, _, rfl, rfl, _, rfl, iteC (decide_eq_true (by omega)) ?_⟩
  refine ⟨_, _, rfl, rfl, _, rfl, iteNS (by omega) ?_⟩
  refine ⟨fun σ H' => σ = [some (.str kd.str), some (.int c), none] ∧ H' = H, ?_, ?_⟩
  · refine ⟨_, rfl, rfl, _, rfl, ite2 (fun e => ?_) (fun e => iteF ⟨rfl, rfl⟩)⟩
    have e := V.int.inj (of_decide_eq_true e)
    have hk : kd = .sums := by
      rcases hc with z | z | ⟨_, z⟩
      · omega
      · omega
      · exact z
    exact ⟨_, rfl, rfl, _, rfl, iteN ((Kd.str_eq kd .sums).trans (decide_eq_true hk)) ⟨rfl, rfl⟩⟩
  rintro σ H' ⟨rfl, rfl⟩
  refine ⟨fun m σ H1 => ∃ i : Nat, i ≤ fsz kd c ∧ m = fsz kd c - i ∧ σ = [some (.str kd.str), some (.int c), some (.int i)] ∧ Same H' H1, ⟨_, 0, Nat.zero_le _, rfl, rfl, Same.refl _⟩, ?_⟩
  rintro m σ H1 ⟨i, hi, rfl, rfl, s1⟩
  obtain ⟨hn, hm, _, _⟩ := fsz_bd hc hi
  refine ⟨_, rfl, _, rfl, kd, i, rfl, hn, fun H2 p s2 hp L2 => ?_⟩
  refine ⟨_, rfl, sl0, fun a ha => ?_⟩
  have s3 := (s1.trans s2).trans (same_new ha (.lst []))
  refine ⟨many kd i + 1, by omega, p, blp kd i, many kd i, c, a, [], rfl, L2.same (same_new ha _), fun i pr h => blp_lt hn h, c3, by omega, upd_same, by simp, fun e H3 s4 => ?_, fun r e H3 x s4 hx ex => ?_⟩
  · have ei : i = fsz kd c := by
      rcases Nat.lt_or_ge i (fsz kd c) with z | z
      · obtain ⟨r, hr'⟩ := fsz_some hc z
        have e' : ffr kd i c = none := e
        rw [hr'] at e'
        cases e'
      · omega
    subst ei
    exact ⟨rfl, _, rfl, iteN rfl ⟨_, rfl, q H3 (s3.trans s4)⟩⟩
  · have ni : i < fsz kd c := by
      rcases Nat.lt_or_ge i (fsz kd c) with z | z
      · exact z
      · obtain rfl : i = fsz kd c := by omega
        have e' : ffr kd (fsz kd c) c = some r := e
        rw [fsz_none hc] at e'
        cases e'
    refine ⟨rfl, _, rfl, iteNF (decide_eq_false (fun z => by cases z)) ?_⟩
    refine ⟨fun σ H4 => σ = [some (.str kd.str), some (.int c), some (.int ((i + 1 : Nat) : Int))] ∧ Same H' H4, fun σ H4 ⟨e1, e2⟩ => ⟨_, by omega, i + 1, ni, rfl, e1, e2⟩, ?_⟩
    exact ⟨_, rfl, _, _, rfl, rfl, rfl, s3.trans s4⟩
theorem ok_exchanged (D : Def K mg "exchanged" s_exchanged ["kind", "size", "count", "hues", "one", "other"]) (mz : Bl mg) (h_asked_dyeing : Has P w K mg base CX0 4 "asked_dyeing" ["kind", "size", "count", "hues"] (sp_asked_dyeing K w)) : Has P w K mg base CX0 5 "exchanged" ["kind", "size", "count", "hues", "one", "other"] (sp_exchanged K w) := by
  refine D.ok sc_exchanged (fun vs H Q E h => ?_) (fun f cdv A outer s H vs Q E hr h => ?_)
  · obtain ⟨kd, n, c, a, hs, u, v, rfl, _⟩ := h
    rfl
  have hu := hu_of hr
  obtain ⟨kd, n, c, a, hs, u, v, rfl, hn, hc, hS, dy, hu', hv', q⟩ := h
  refine ⟨_, (pss_cons (ps_expr (pe_cal h_asked_dyeing hr (by decide) rfl (pa_cons (pv 0) (pa_cons (pv 1) (pa_cons (pv 2) (pa_cons (pv 3) pa_nil))))))
  (pss_cons (ps_for PassesOwn.never rfl (pi_list (pe_lst (pa_cons (pv 4) (pa_cons (pv 5) pa_nil)))) (pg_name (i := 6) sc_exchanged.nd rfl (.inl rfl)) (pss_one (ps_if (pt_not (pt_chain op_le op_lt pe_int (pv 6) (pv 2))) (pss_one ps_never) pss_nil)))
  (pss_cons (ps_set (i := 7) sc_exchanged.nd rfl (.inr rfl) (pe_listRg rfl (by rfl) mz.list (prg_1 (by rfl) mz.range (pv 2))))
  (pss_cons (ps_asg (pv 5) (pg_sub (pv 7) (pv 4) set_list))
  (pss_cons (ps_asg (pv 4) (pg_sub (pv 7) (pv 5) set_list))
  (pss_one (ps_ret (pe_lc (own := [("hue", 6)]) rfl sc_exchanged.nd (pi_list (pv 3)) (blkOk_by (own := [("hue", 6)]) (N := ["kind", "size", "count", "hues", "one", "other", "hue", "names"]) (sc := defScope s_exchanged) (by decide +kernel)) (fun _ _ _ _ _ => pg_name (i := 6) sc_exchanged.nd rfl (Or.inl rfl)) (fun _ _ _ _ _ => pts_nil) (fun _ _ _ _ _ => (pe_ix (show IxR _ (rIxL K) from ix_list) (pv 7) (pv 6) (fun _ _ => rfl))))))))))), ?_⟩
  have c3 := hc.2
  refine ⟨_, rfl, _, rfl, _, rfl, _, rfl, kd, n, c, a, hs, rfl, hn, hc, hS, dy, ?_⟩
  refine ⟨_, rfl, _, rfl, sl2, fun l hl => ?_⟩
  have s1 := same_new (H := H) hl (.lst [.int (u : Int), .int (v : Int)])
  refine ⟨l, rfl, ⟨_, SqL.of upd_same⟩, ?_⟩
  refine for_list (K := K) (a := l) (xs := [.int (u : Int), .int (v : Int)]) (fun i σ H' => ∃ y, σ = [some (.str kd.str), some (.int n), some (.int c), some (.ref a), some (.int u), some (.int v), y, none] ∧ H' = upd H l (.lst [.int (u : Int), .int (v : Int)])) ⟨none, rfl, rfl⟩ (fun i σ H' hi hW => by
    obtain ⟨y, rfl, rfl⟩ := hW
    exact SqL.of upd_same) (fun i x σ H' hx hW => ?_) (fun σ H' hW => ?_)
  · obtain ⟨y, rfl, rfl⟩ := hW
    obtain ⟨w', rfl, hw⟩ : ∃ w' : Nat, x = .int (w' : Int) ∧ w' < c := by
      match i, hx with
      | 0, hx => exact ⟨u, (Option.some.inj hx).symm, hu'⟩
      | 1, hx => exact ⟨v, (Option.some.inj hx).symm, hv'⟩
    refine ⟨_, rfl, _, _, rfl, rfl, _, rfl, iteC (decide_eq_true (by omega)) ?_⟩
    exact ⟨_, rfl, _, _, rfl, rfl, _, rfl, iteNS (by omega) ⟨_, rfl, rfl⟩⟩
  obtain ⟨y, rfl, rfl⟩ := hW
  generalize upd H l (.lst [.int (u : Int), .int (v : Int)]) = H1 at s1
  refine ⟨_, rfl, c, rfl, RgOk.of_le (by decide) (by omega) (by decide) (by omega), fun t ht => ?_⟩
  rw [rgV_nm]
  have ht0 : H t = none := s1.free ht
  have s2 := s1.trans (same_new ht (.lst (nm c)))
  refine ⟨_, rfl, _, rfl, _, rfl, t, _, _, u, rfl, rfl, upd_same, (by rw [nm_len]; exact ixN_nat hu'), ?_⟩
  have s3 := same_upd s2 ht0 (.lst ((nm c).set u (.int (v : Int))))
  refine ⟨_, rfl, _, rfl, _, rfl, t, _, _, v, rfl, rfl, upd_same, (by rw [List.length_set, nm_len]; exact ixN_nat hv'), ?_⟩
  have s4 := same_upd s3 ht0 (.lst (((nm c).set u (.int (v : Int))).set v (.int (u : Int))))
  have e4 : (upd (upd (upd H1 t (.lst (nm c))) t (.lst ((nm c).set u (.int (v : Int))))) t (.lst (((nm c).set u (.int (v : Int))).set v (.int (u : Int))))) t = some (.lst (nms c u v)) := upd_same
  generalize upd (upd (upd H1 t (.lst (nm c))) t (.lst ((nm c).set u (.int (v : Int))))) t (.lst (((nm c).set u (.int (v : Int))).set v (.int (u : Int)))) = H4 at s4 e4
  refine ⟨_, rfl, a, rfl, ⟨_, s4.seq hS⟩, fun D hD => ?_⟩
  have hD0 : H D = none := s4.free hD
  have tD : t ≠ D := ne_of_none e4 hD
  have lm : (swp u v hs).length = hs.length := swp_len u v hs
  have l40 : hs.length ≤ 40 := by rw [dy.len]; exact many_le hn
  refine lc_list (K := K) (a := a) (xs := hs.map V.int) (fun i H' => Same H H' ∧ H' t = some (.lst (nms c u v)) ∧ H' D = some (.lst (((swp u v hs).map V.int).take i))) ⟨s4.trans (same_new hD _), (upd_ne tD).trans e4, upd_same⟩ (fun i H' hi hW => hW.1.seq hS) (fun i x H' hx hW => ?_) (fun H' hW => ?_)
  · obtain ⟨s5, e5, d5⟩ := hW
    rw [List.getElem?_map] at hx
    obtain ⟨y, hy, rfl⟩ : ∃ y, hs[i]? = some y ∧ V.int y = x := by
      cases e : hs[i]? with
      | none => rw [e] at hx; cases hx
      | some y => rw [e] at hx; exact ⟨y, rfl, Option.some.inj hx⟩
    obtain ⟨y0, y1⟩ := dy.hue y (List.mem_of_getElem? hy)
    obtain ⟨k, rfl⟩ : ∃ k : Nat, y = (k : Int) := ⟨y.toNat, by omega⟩
    refine ⟨rfl, _, rfl, _, rfl, t, _, k, _, rfl, rfl, SqL.of e5, atI_nat (nms_get hu' hv' (by omega)), _, d5, ?_, ?_⟩
    · rw [List.length_take]
      exact sl_lt (by rw [List.length_map, lm]; omega)
    · refine ⟨same_upd s5 hD0 _, (upd_ne tD).trans e5, ?_⟩
      rw [upd_same, List.take_add_one]
      have ei : ((swp u v hs).map V.int)[i]? = some (.int (sw u v (k : Int))) := by
        rw [List.getElem?_map]
        unfold swp
        rw [List.getElem?_map, hy]
        rfl
      rw [ei]
      rfl
  · obtain ⟨s5, e5, d5⟩ := hW
    refine q H' D s5 hD0 ?_
    rw [d5, List.take_of_length_le (by rw [List.length_map, List.length_map, lm]; exact Nat.le_refl _)]
theorem ok_asked_kind_x (D : Def K mg "asked_kind" s_asked_kind ["kind"]) (mz : Bl mg) (gb : GrB K w mg) (er : Er K mg)  : Has P w K mg base (CXn P w) 1 "asked_kind" ["kind"] (sp_asked_kind_x K w mg) := by
  obtain ⟨c, hb, hc, he, hv⟩ := er.ex
  refine D.okN sc_asked_kind (fun vs H Q E h => ?_) (fun f cdv A outer s H vs Q E hr h => ?_)
  · obtain ⟨ks, rfl, _⟩ := h
    rfl
  have hu := hu_of hr
  obtain ⟨ks, rfl, bk, q⟩ := h
  obtain ⟨g, es, n, hg, hd, hk⟩ := gb.ex
  refine ⟨_, (pss_one (ps_if (pt_cmpR (op_notIn_kd hd) (pv 0) (pe_glob (v := .ref g) rfl hg rfl) (by rfl)) (pss_one (ps_rs rfl takesN (hc 0 (by decide)).2.1 (hc 0 (by decide)).1 (by exact rfl))) pss_nil)), ?_⟩
  exact ⟨_, rfl, _, _, rfl, rfl, hk ks bk, _, rfl, iteT (q.here (Same.refl _) (hc 0 (by decide)).1)⟩
theorem ok_asked_size_x (D : Def K mg "asked_size" s_asked_size ["kind", "size"]) (mz : Bl mg) (gr : Gr K w mg) (er : Er K mg) (h_asked_kind_x : Has P w K mg base (CXn P w) 1 "asked_kind" ["kind"] (sp_asked_kind_x K w mg)) (h_asked_kind : Has P w K mg base CX0 1 "asked_kind" ["kind"] (sp_asked_kind K w)) : Has P w K mg base (CXn P w) 2 "asked_size" ["kind", "size"] (sp_asked_size_x K w mg) := by
  obtain ⟨c, hb, hc, he, hv⟩ := er.ex
  refine D.okN sc_asked_size (fun vs H Q E h => ?_) (fun f cdv A outer s H vs Q E hr h => ?_)
  · obtain ⟨ks, n, i, rfl, _⟩ := h
    rfl
  have hu := hu_of hr
  obtain ⟨ks, n, i, rfl, r, q⟩ := h
  rcases r with ⟨bk, rfl⟩ | ⟨kd, rfl, bad, rfl⟩
  · refine ⟨_, (pss_cons (ps_expr (pe_calN h_asked_kind_x hr (by decide) rfl takesN (pa_cons (pv 0) pa_nil)))
  pss_never), ?_⟩
    exact ⟨_, rfl, ks, rfl, bk, q⟩
  · obtain ⟨g, es, n', hg, hd, hk⟩ := gr.ex
    obtain ⟨t, ht⟩ := hk kd
    have rs := q.here (Same.refl _) (hc 1 (by decide)).1
    refine ⟨_, (pss_cons (ps_expr (pe_cal h_asked_kind hr (by decide) rfl (pa_cons (pv 0) pa_nil)))
  (pss_one (ps_if (pt_not (pt_chain op_le op_le pe_int (pv 1) (pe_ix ix_kdict (pe_glob (v := .ref g) rfl hg rfl) (pv 0) (fun _ _ => rfl)))) (pss_one (ps_rs rfl takesN (hc 1 (by decide)).2.1 (hc 1 (by decide)).1 (by exact rfl))) pss_nil))), ?_⟩
    refine ⟨_, rfl, kd, rfl, ?_⟩
    refine ⟨_, rfl, _, _, rfl, rfl, _, rfl, ite2 (fun p1 => ?_) (fun p1 => ?_)⟩
    · have p1 := of_decide_eq_true p1
      exact ⟨_, rfl, g, _, .int kd.bd, rfl, rfl, ⟨es, n', _, hd.at_, hd.lit, ht, ⟨t, rfl⟩⟩, _, _, rfl, rfl, _, rfl, iteNF (decide_eq_false fun z => bad ⟨p1, z⟩) rs⟩
    · exact ⟨_, rfl, iteT rs⟩
theorem ok_things_x (D : Def K mg "things" s_things ["kind", "size"]) (mz : Bl mg) (h_asked_size_x : Has P w K mg base (CXn P w) 2 "asked_size" ["kind", "size"] (sp_asked_size_x K w mg)) : Has P w K mg base (CXn P w) 3 "things" ["kind", "size"] (sp_things_x K w mg) := by
  refine D.okN sc_things (fun vs H Q E h => ?_) (fun f cdv A outer s H vs Q E hr h => ?_)
  · obtain ⟨ks, n, i, rfl, _⟩ := h
    rfl
  have hu := hu_of hr
  obtain ⟨ks, n, i, rfl, r, q⟩ := h
  refine ⟨_, (pss_cons (ps_expr (pe_calN h_asked_size_x hr (by decide) rfl takesN (pa_cons (pv 0) (pa_cons (pv 1) pa_nil))))
  pss_never), ?_⟩
  exact ⟨_, rfl, _, rfl, ks, n, i, rfl, r, q⟩
theorem ok_triples_x (D : Def K mg "triples" s_triples ["kind", "size"]) (mz : Bl mg) (h_asked_size_x : Has P w K mg base (CXn P w) 2 "asked_size" ["kind", "size"] (sp_asked_size_x K w mg)) : Has P w K mg base (CXn P w) 3 "triples" ["kind", "size"] (sp_triples_x K w mg) := by
  refine D.okN sc_triples (fun vs H Q E h => ?_) (fun f cdv A outer s H vs Q E hr h => ?_)
  · obtain ⟨ks, n, i, rfl, _⟩ := h
    rfl
  have hu := hu_of hr
  obtain ⟨ks, n, i, rfl, r, q⟩ := h
  refine ⟨_, (pss_cons (ps_expr (pe_calN h_asked_size_x hr (by decide) rfl takesN (pa_cons (pv 0) (pa_cons (pv 1) pa_nil))))
  pss_never), ?_⟩
  exact ⟨_, rfl, _, rfl, ks, n, i, rfl, r, q⟩
theorem ok_asked_hues_x (D : Def K mg "asked_hues" s_asked_hues ["kind", "size", "count"]) (mz : Bl mg) (mh : Cn mg "MOST_HUES" 3) (er : Er K mg) (h_asked_size_x : Has P w K mg base (CXn P w) 2 "asked_size" ["kind", "size"] (sp_asked_size_x K w mg)) (h_asked_size : Has P w K mg base CX0 2 "asked_size" ["kind", "size"] (sp_asked_size K w)) : Has P w K mg base (CXn P w) 3 "asked_hues" ["kind", "size", "count"] (sp_asked_hues_x K w mg) := by
  obtain ⟨c, hb, hc, he, hv⟩ := er.ex
  refine D.okN sc_asked_hues (fun vs H Q E h => ?_) (fun f cdv A outer s H vs Q E hr h => ?_)
  · obtain ⟨ks, n, c, i, rfl, _⟩ := h
    rfl
  have hu := hu_of hr
  obtain ⟨ks, n, ct, i, rfl, r, q⟩ := h
  obtain ⟨t, ht⟩ := mh
  rcases r with r | ⟨kd, m, rfl, rfl, hm, bad, rfl⟩
  · refine ⟨_, (pss_cons (ps_expr (pe_calN h_asked_size_x hr (by decide) rfl takesN (pa_cons (pv 0) (pa_cons (pv 1) pa_nil))))
  pss_never), ?_⟩
    exact ⟨_, rfl, _, rfl, ks, n, i, rfl, r, q⟩
  · have rs := q.here (Same.refl _) (hc 2 (by decide)).1
    refine ⟨_, (pss_cons (ps_expr (pe_cal h_asked_size hr (by decide) rfl (pa_cons (pv 0) (pa_cons (pv 1) pa_nil))))
  (pss_one (ps_if (pt_not (pt_chain op_le op_le pe_int (pv 2) (pe_glob (v := .int 3) rfl ht ⟨t, rfl⟩))) (pss_one (ps_rs rfl takesN (hc 2 (by decide)).2.1 (hc 2 (by decide)).1 (by exact rfl))) pss_nil))), ?_⟩
    refine ⟨_, rfl, _, rfl, kd, m, rfl, hm, ?_⟩
    refine ⟨_, rfl, _, _, rfl, rfl, _, rfl, ite2 (fun p1 => ?_) (fun p1 => ?_)⟩
    · have p1 := of_decide_eq_true p1
      exact ⟨_, _, rfl, rfl, _, rfl, iteNF (decide_eq_false fun z => bad ⟨p1, z⟩) rs⟩
    · exact ⟨_, rfl, iteT rs⟩
theorem ok_asked_dyeing_x (D : Def K mg "asked_dyeing" s_asked_dyeing ["kind", "size", "count", "hues"]) (mz : Bl mg) (er : Er K mg) (h_asked_hues_x : Has P w K mg base (CXn P w) 3 "asked_hues" ["kind", "size", "count"] (sp_asked_hues_x K w mg)) (h_asked_hues : Has P w K mg base CX0 3 "asked_hues" ["kind", "size", "count"] (sp_asked_hues K w)) (h_things : Has P w K mg base CX0 3 "things" ["kind", "size"] (sp_things K w)) : Has P w K mg base (CXn P w) 4 "asked_dyeing" ["kind", "size", "count", "hues"] (sp_asked_dyeing_x K w mg) := by
  obtain ⟨c, hb, hc, he, hv⟩ := er.ex
  refine D.okN sc_asked_dyeing (fun vs H Q E h => ?_) (fun f cdv A outer s H vs Q E hr h => ?_)
  · obtain ⟨ks, n, c, a, hs, i, rfl, _⟩ := h
    rfl
  have hu := hu_of hr
  obtain ⟨ks, n, ct, a, hs, i, rfl, hS, r, q⟩ := h
  rcases r with r | ⟨kd, m, cn, rfl, rfl, hm, rfl, hcn, bad, rfl⟩
  · refine ⟨_, (pss_cons (ps_expr (pe_calN h_asked_hues_x hr (by decide) rfl takesN (pa_cons (pv 0) (pa_cons (pv 1) (pa_cons (pv 2) pa_nil)))))
  pss_never), ?_⟩
    exact ⟨_, rfl, _, rfl, _, rfl, ks, n, ct, i, rfl, r, q⟩
  · have rs := q.here (Same.refl _) (hc 3 (by decide)).1
    by_cases ln : hs.length = many kd m
    · refine ⟨_, (pss_cons (ps_expr (pe_cal h_asked_hues hr (by decide) rfl (pa_cons (pv 0) (pa_cons (pv 1) (pa_cons (pv 2) pa_nil)))))
  (pss_cons (ps_if (pt_cmpR op_ne (pe_callB call_len_seq (by rfl) mz.len PySem.boot_len (pa_cons (pv 3) pa_nil)) (pe_cal h_things hr (by decide) rfl (pa_cons (pv 0) (pa_cons (pv 1) pa_nil))) (nomark _)) (pss_one (ps_rs rfl takesN (hc 3 (by decide)).2.1 (hc 3 (by decide)).1 (by exact rfl))) pss_nil)
  (pss_one (ps_for PassesOwn.leaving rfl (pi_list (pv 3)) (pg_name (i := 4) sc_asked_dyeing.nd rfl (.inl rfl)) (pss_one (ps_if (pt_not (pt_chain op_le op_lt pe_int (pv 4) (pv 2))) (pss_one (ps_rs rfl takesN (hc 3 (by decide)).2.1 (hc 3 (by decide)).1 (by exact rfl))) pss_nil)))))), ?_⟩
      refine ⟨_, rfl, _, rfl, _, rfl, kd, m, cn, rfl, hm, hcn, ?_⟩
      refine ⟨_, rfl, a, _, rfl, .inl hS, _, rfl, _, rfl, kd, m, rfl, hm, rfl, _, rfl, ?_⟩
      refine iteNS (by rw [List.length_map, ln]) ?_
      refine ⟨_, rfl, a, rfl, ⟨_, hS⟩, ?_⟩
      refine for_list (K := K) (a := a) (xs := hs.map V.int) (fun i σ H' => ∃ u, σ = [some (.str kd.str), some (.int m), some (.int cn), some (.ref a), u] ∧ H' = H ∧ ∀ h ∈ hs.take i, 0 ≤ h ∧ h < (cn : Int)) ⟨none, rfl, rfl, fun _ z => by cases z⟩ (fun i σ H' hi hW => by
        obtain ⟨u, rfl, rfl, _⟩ := hW
        exact hS) (fun i x σ H' hx hW => ?_) (fun σ H' hW => ?_)
      · obtain ⟨u, rfl, rfl, b1⟩ := hW
        rw [List.getElem?_map] at hx
        obtain ⟨y, hy, rfl⟩ : ∃ y, hs[i]? = some y ∧ V.int y = x := by
          cases e : hs[i]? with
          | none => rw [e] at hx; cases hx
          | some y => rw [e] at hx; exact ⟨y, rfl, Option.some.inj hx⟩
        refine ⟨_, rfl, _, _, rfl, rfl, _, rfl, ite2 (fun p1 => ?_) (fun p1 => ?_)⟩
        · have p1 := of_decide_eq_true p1
          refine ⟨_, rfl, _, _, rfl, rfl, _, rfl, ?_⟩
          by_cases p2 : y < (cn : Int)
          · refine iteNS p2 ⟨_, rfl, rfl, fun h hh => ?_⟩
            rw [List.take_add_one, hy] at hh
            rcases List.mem_append.mp hh with z | z
            · exact b1 h z
            · obtain rfl : h = y := by simpa using z
              exact ⟨p1, p2⟩
          · exact iteNF (decide_eq_false p2) rs
        · exact ⟨_, rfl, iteT rs⟩
      · obtain ⟨u, rfl, rfl, b1⟩ := hW
        rw [List.length_map, List.take_length] at b1
        exact absurd ⟨ln, b1⟩ bad
    · refine ⟨_, (pss_cons (ps_expr (pe_cal h_asked_hues hr (by decide) rfl (pa_cons (pv 0) (pa_cons (pv 1) (pa_cons (pv 2) pa_nil)))))
  (pss_cons (ps_if (pt_cmpR op_ne (pe_callB call_len_seq (by rfl) mz.len PySem.boot_len (pa_cons (pv 3) pa_nil)) (pe_cal h_things hr (by decide) rfl (pa_cons (pv 0) (pa_cons (pv 1) pa_nil))) (nomark _)) (pss_one (ps_rs rfl takesN (hc 3 (by decide)).2.1 (hc 3 (by decide)).1 (by exact rfl))) pss_nil)
  pss_never)), ?_⟩
      refine ⟨_, rfl, _, rfl, _, rfl, kd, m, cn, rfl, hm, hcn, ?_⟩
      refine ⟨_, rfl, a, _, rfl, .inl hS, _, rfl, _, rfl, kd, m, rfl, hm, rfl, _, rfl, ?_⟩
      exact iteNF (decide_eq_false fun z => ln (by rw [List.length_map] at z; have := V.int.inj z; omega)) rs
theorem ok_one_hued_x (D : Def K mg "one_hued" s_one_hued ["kind", "size", "count", "hues"]) (mz : Bl mg) (h_asked_dyeing_x : Has P w K mg base (CXn P w) 4 "asked_dyeing" ["kind", "size", "count", "hues"] (sp_asked_dyeing_x K w mg)) : Has P w K mg base (CXn P w) 5 "one_hued" ["kind", "size", "count", "hues"] (sp_one_hued_x K w mg) := by
  refine D.okN sc_one_hued (fun vs H Q E h => ?_) (fun f cdv A outer s H vs Q E hr h => ?_)
  · obtain ⟨ks, n, c, a, hs, i, rfl, _⟩ := h
    rfl
  have hu := hu_of hr
  obtain ⟨ks, n, ct, a, hs, i, rfl, hS, r, q⟩ := h
  refine ⟨_, (pss_cons (ps_expr (pe_calN h_asked_dyeing_x hr (by decide) rfl takesN (pa_cons (pv 0) (pa_cons (pv 1) (pa_cons (pv 2) (pa_cons (pv 3) pa_nil))))))
  pss_never), ?_⟩
  exact ⟨_, rfl, _, rfl, _, rfl, _, rfl, ks, n, ct, a, hs, i, rfl, hS, r, q⟩
theorem ok_is_free_x (D : Def K mg "is_free" s_is_free ["kind", "size", "count", "hues"]) (mz : Bl mg) (h_one_hued_x : Has P w K mg base (CXn P w) 5 "one_hued" ["kind", "size", "count", "hues"] (sp_one_hued_x K w mg)) : Has P w K mg base (CXn P w) 6 "is_free" ["kind", "size", "count", "hues"] (sp_is_free_x K w mg) := by
  refine D.okN sc_is_free (fun vs H Q E h => ?_) (fun f cdv A outer s H vs Q E hr h => ?_)
  · obtain ⟨ks, n, c, a, hs, i, rfl, _⟩ := h
    rfl
  have hu := hu_of hr
  obtain ⟨ks, n, ct, a, hs, i, rfl, hS, r, q⟩ := h
  refine ⟨_, (pss_one (ps_ret (pe_cmpR op_eq (pe_callB call_len_seq (by rfl) mz.len PySem.boot_len (pa_cons (pe_calN h_one_hued_x hr (by decide) rfl takesN (pa_cons (pv 0) (pa_cons (pv 1) (pa_cons (pv 2) (pa_cons (pv 3) pa_nil))))) pa_nil)) pe_int (nomark _)))), ?_⟩
  exact ⟨_, rfl, _, rfl, _, rfl, _, rfl, ks, n, ct, a, hs, i, rfl, hS, r, q⟩
theorem ok_exchanged_x (D : Def K mg "exchanged" s_exchanged ["kind", "size", "count", "hues", "one", "other"]) (mz : Bl mg) (er : Er K mg) (h_asked_dyeing_x : Has P w K mg base (CXn P w) 4 "asked_dyeing" ["kind", "size", "count", "hues"] (sp_asked_dyeing_x K w mg)) (h_asked_dyeing : Has P w K mg base CX0 4 "asked_dyeing" ["kind", "size", "count", "hues"] (sp_asked_dyeing K w)) : Has P w K mg base (CXn P w) 5 "exchanged" ["kind", "size", "count", "hues", "one", "other"] (sp_exchanged_x K w mg) := by
  obtain ⟨c, hb, hc, he, hv⟩ := er.ex
  refine D.okN sc_exchanged (fun vs H Q E h => ?_) (fun f cdv A outer s H vs Q E hr h => ?_)
  · obtain ⟨ks, n, c, a, hs, u, v, i, rfl, _⟩ := h
    rfl
  have hu := hu_of hr
  obtain ⟨ks, n, cc, a, hs, u, v, i, rfl, hS, r, q⟩ := h
  rcases r with r | ⟨kd, m, ct, rfl, rfl, hm, rfl, hct, dy, bad, rfl⟩
  · refine ⟨_, (pss_cons (ps_expr (pe_calN h_asked_dyeing_x hr (by decide) rfl takesN (pa_cons (pv 0) (pa_cons (pv 1) (pa_cons (pv 2) (pa_cons (pv 3) pa_nil))))))
  pss_never), ?_⟩
    exact ⟨_, rfl, _, rfl, _, rfl, _, rfl, ks, n, cc, a, hs, i, rfl, hS, r, q⟩
  refine ⟨_, (pss_cons (ps_expr (pe_cal h_asked_dyeing hr (by decide) rfl (pa_cons (pv 0) (pa_cons (pv 1) (pa_cons (pv 2) (pa_cons (pv 3) pa_nil))))))
  (pss_cons (ps_for PassesOwn.leaving rfl (pi_list (pe_lst (pa_cons (pv 4) (pa_cons (pv 5) pa_nil)))) (pg_name (i := 6) sc_exchanged.nd rfl (.inl rfl)) (pss_one (ps_if (pt_not (pt_chain op_le op_lt pe_int (pv 6) (pv 2))) (pss_one (ps_rs rfl takesN (hc 2 (by decide)).2.1 (hc 2 (by decide)).1 (by exact rfl))) pss_nil)))
  pss_never)), ?_⟩
  refine ⟨_, rfl, _, rfl, _, rfl, _, rfl, kd, m, ct, a, hs, rfl, hm, hct, hS, dy, ?_⟩
  refine ⟨_, rfl, _, rfl, sl2, fun l hl => ?_⟩
  have s1 := same_new (H := H) hl (.lst [.int u, .int v])
  have rs := q.here s1 (hc 2 (by decide)).1
  refine ⟨l, rfl, ⟨_, SqL.of upd_same⟩, ?_⟩
  refine for_list (K := K) (a := l) (xs := [.int u, .int v]) (fun i σ H' => ∃ y, σ = [some (.str kd.str), some (.int m), some (.int ct), some (.ref a), some (.int u), some (.int v), y, none] ∧ H' = upd H l (.lst [.int u, .int v]) ∧ (1 ≤ i → 0 ≤ u ∧ u < (ct : Int)) ∧ (2 ≤ i → 0 ≤ v ∧ v < (ct : Int))) ⟨none, rfl, rfl, fun z => absurd z (by decide), fun z => absurd z (by decide)⟩ (fun i σ H' hi hW => by
    obtain ⟨y, rfl, rfl, _⟩ := hW
    exact SqL.of upd_same) (fun i x σ H' hx hW => ?_) (fun σ H' hW => ?_)
  · obtain ⟨y, rfl, rfl, b1, b2⟩ := hW
    obtain ⟨w', rfl, nx⟩ : ∃ w' : Int, x = .int w' ∧ (0 ≤ w' ∧ w' < (ct : Int) → (1 ≤ i + 1 → 0 ≤ u ∧ u < (ct : Int)) ∧ (2 ≤ i + 1 → 0 ≤ v ∧ v < (ct : Int))) := by
      match i, hx, b1 with
      | 0, hx, _ => exact ⟨u, (Option.some.inj hx).symm, fun z => ⟨fun _ => z, fun y => absurd y (by decide)⟩⟩
      | 1, hx, b1 => exact ⟨v, (Option.some.inj hx).symm, fun z => ⟨fun _ => b1 (by decide), fun _ => z⟩⟩
    refine ⟨_, rfl, _, _, rfl, rfl, _, rfl, ite2 (fun p1 => ?_) (fun p1 => ?_)⟩
    · have p1 := of_decide_eq_true p1
      refine ⟨_, rfl, _, _, rfl, rfl, _, rfl, ?_⟩
      by_cases p2 : w' < (ct : Int)
      · exact iteNS p2 ⟨_, rfl, rfl, nx ⟨p1, p2⟩⟩
      · exact iteNF (decide_eq_false p2) rs
    · exact ⟨_, rfl, iteT rs⟩
  · obtain ⟨y, rfl, rfl, b1, b2⟩ := hW
    exact absurd ⟨b1 (show 1 ≤ 2 by decide), b2 (show 2 ≤ 2 by decide)⟩ bad
theorem ok_asked_search_x (D : Def K mg "asked_search" s_asked_search ["kind", "size", "count"]) (mz : Bl mg) (ms : Cn mg "MOST_SEARCHED" 15) (er : Er K mg) (h_asked_hues_x : Has P w K mg base (CXn P w) 3 "asked_hues" ["kind", "size", "count"] (sp_asked_hues_x K w mg)) (h_asked_hues : Has P w K mg base CX0 3 "asked_hues" ["kind", "size", "count"] (sp_asked_hues K w)) (h_things : Has P w K mg base CX0 3 "things" ["kind", "size"] (sp_things K w)) : Has P w K mg base (CXn P w) 4 "asked_search" ["kind", "size", "count"] (sp_asked_search_x K w mg) := by
  obtain ⟨c, hb, hc, he, hv⟩ := er.ex
  refine D.okN sc_asked_search (fun vs H Q E h => ?_) (fun f cdv A outer s H vs Q E hr h => ?_)
  · obtain ⟨ks, n, c, i, rfl, _⟩ := h
    rfl
  have hu := hu_of hr
  obtain ⟨ks, n, cc, i, rfl, r, q⟩ := h
  obtain ⟨t, ht⟩ := ms
  rcases r with r | ⟨kd, m, ct, rfl, rfl, hm, rfl, hct, h15, rfl⟩
  · refine ⟨_, (pss_cons (ps_expr (pe_calN h_asked_hues_x hr (by decide) rfl takesN (pa_cons (pv 0) (pa_cons (pv 1) (pa_cons (pv 2) pa_nil)))))
  pss_never), ?_⟩
    exact ⟨_, rfl, _, rfl, _, rfl, ks, n, cc, i, rfl, r, q⟩
  · have rs := q.here (Same.refl _) (hc 4 (by decide)).1
    refine ⟨_, (pss_cons (ps_expr (pe_cal h_asked_hues hr (by decide) rfl (pa_cons (pv 0) (pa_cons (pv 1) (pa_cons (pv 2) pa_nil)))))
  (pss_one (ps_if (pt_cmpR op_gt (pe_cal h_things hr (by decide) rfl (pa_cons (pv 0) (pa_cons (pv 1) pa_nil))) (pe_glob (v := .int 15) rfl ht ⟨t, rfl⟩) (nomark _)) (pss_one (ps_rs rfl takesN (hc 4 (by decide)).2.1 (hc 4 (by decide)).1 (by exact rfl))) pss_nil))), ?_⟩
    refine ⟨_, rfl, _, rfl, _, rfl, kd, m, ct, rfl, hm, hct, ?_⟩
    exact ⟨_, rfl, _, rfl, kd, m, rfl, hm, _, _, rfl, rfl, _, rfl, iteC (decide_eq_true (by omega)) rs⟩
theorem ok_first_free_x (D : Def K mg "first_free" s_first_free ["kind", "size", "count"]) (mz : Bl mg) (h_asked_search_x : Has P w K mg base (CXn P w) 4 "asked_search" ["kind", "size", "count"] (sp_asked_search_x K w mg)) : Has P w K mg base (CXn P w) 5 "first_free" ["kind", "size", "count"] (sp_first_free_x K w mg) := by
  refine D.okN sc_first_free (fun vs H Q E h => ?_) (fun f cdv A outer s H vs Q E hr h => ?_)
  · obtain ⟨ks, n, c, i, rfl, _⟩ := h
    rfl
  have hu := hu_of hr
  obtain ⟨ks, n, cc, i, rfl, r, q⟩ := h
  refine ⟨_, (pss_cons (ps_expr (pe_calN h_asked_search_x hr (by decide) rfl takesN (pa_cons (pv 0) (pa_cons (pv 1) (pa_cons (pv 2) pa_nil)))))
  pss_never), ?_⟩
  exact ⟨_, rfl, _, rfl, _, rfl, ks, n, cc, i, rfl, r, q⟩
theorem ok_how_many_x (D : Def K mg "how_many" s_how_many ["kind", "size", "count"]) (mz : Bl mg) (mc : Cn mg "MOST_COUNTED" 8) (er : Er K mg) (h_asked_search_x : Has P w K mg base (CXn P w) 4 "asked_search" ["kind", "size", "count"] (sp_asked_search_x K w mg)) (h_asked_search : Has P w K mg base CX0 4 "asked_search" ["kind", "size", "count"] (sp_asked_search K w)) (h_things : Has P w K mg base CX0 3 "things" ["kind", "size"] (sp_things K w)) : Has P w K mg base (CXn P w) 5 "how_many" ["kind", "size", "count"] (sp_how_many_x K w mg) := by
  obtain ⟨c, hb, hc, he, hv⟩ := er.ex
  refine D.okN sc_how_many (fun vs H Q E h => ?_) (fun f cdv A outer s H vs Q E hr h => ?_)
  · obtain ⟨ks, n, c, i, rfl, _⟩ := h
    rfl
  have hu := hu_of hr
  obtain ⟨ks, n, cc, i, rfl, r, q⟩ := h
  obtain ⟨t, ht⟩ := mc
  rcases r with r | ⟨kd, m, rfl, rfl, hm, rfl, h15, h8, rfl⟩
  · refine ⟨_, (pss_cons (ps_expr (pe_calN h_asked_search_x hr (by decide) rfl takesN (pa_cons (pv 0) (pa_cons (pv 1) (pa_cons (pv 2) pa_nil)))))
  pss_never), ?_⟩
    exact ⟨_, rfl, _, rfl, _, rfl, ks, n, cc, i, rfl, r, q⟩
  · have rs := q.here (Same.refl _) (hc 4 (by decide)).1
    refine ⟨_, (pss_cons (ps_expr (pe_cal h_asked_search hr (by decide) rfl (pa_cons (pv 0) (pa_cons (pv 1) (pa_cons (pv 2) pa_nil)))))
  (pss_cons (ps_if (PW.pt (pw_and (pt_cmpR op_eq (pv 2) pe_int (nomark _)) (pw_and1 (pt_cmpR op_gt (pe_cal h_things hr (by decide) rfl (pa_cons (pv 0) (pa_cons (pv 1) pa_nil))) (pe_glob (v := .int 8) rfl ht ⟨t, rfl⟩) (nomark _))))) (pss_one (ps_rs rfl takesN (hc 4 (by decide)).2.1 (hc 4 (by decide)).1 (by exact rfl))) pss_nil)
  pss_never)), ?_⟩
    refine ⟨_, rfl, _, rfl, _, rfl, kd, m, 3, rfl, hm, ⟨by decide, by decide⟩, h15, ?_⟩
    refine ⟨_, rfl, rfl, _, rfl, iteC (decide_eq_true rfl) ?_⟩
    exact ⟨_, rfl, _, rfl, kd, m, rfl, hm, _, _, rfl, rfl, _, rfl, iteC (decide_eq_true (by omega)) rs⟩
theorem ok_first_size_x (D : Def K mg "first_size" s_first_size ["kind", "count"]) (mz : Bl mg) (er : Er K mg) (h_asked_kind_x : Has P w K mg base (CXn P w) 1 "asked_kind" ["kind"] (sp_asked_kind_x K w mg)) (h_asked_kind : Has P w K mg base CX0 1 "asked_kind" ["kind"] (sp_asked_kind K w)) : Has P w K mg base (CXn P w) 2 "first_size" ["kind", "count"] (sp_first_size_x K w mg) := by
  obtain ⟨c, hb, hc, he, hv⟩ := er.ex
  refine D.okN sc_first_size (fun vs H Q E h => ?_) (fun f cdv A outer s H vs Q E hr h => ?_)
  · obtain ⟨ks, c, i, rfl, _⟩ := h
    rfl
  have hu := hu_of hr
  obtain ⟨ks, cc, i, rfl, r, q⟩ := h
  rcases r with ⟨bk, rfl⟩ | ⟨kd, rfl, bad, rfl⟩ | ⟨kd, rfl, hk, rfl, rfl⟩
  · refine ⟨_, (pss_cons (ps_expr (pe_calN h_asked_kind_x hr (by decide) rfl takesN (pa_cons (pv 0) pa_nil)))
  pss_never), ?_⟩
    exact ⟨_, rfl, ks, rfl, bk, q⟩
  · have rs := q.here (Same.refl _) (hc 2 (by decide)).1
    refine ⟨_, (pss_cons (ps_expr (pe_cal h_asked_kind hr (by decide) rfl (pa_cons (pv 0) pa_nil)))
  (pss_cons (ps_if (pt_not (pt_chain op_le op_le pe_int (pv 1) pe_int)) (pss_one (ps_rs rfl takesN (hc 2 (by decide)).2.1 (hc 2 (by decide)).1 (by exact rfl))) pss_nil)
  pss_never)), ?_⟩
    refine ⟨_, rfl, kd, rfl, ?_⟩
    refine ⟨_, rfl, _, _, rfl, rfl, _, rfl, ite2 (fun p1 => ?_) (fun p1 => ?_)⟩
    · have p1 := of_decide_eq_true p1
      exact ⟨_, _, rfl, rfl, _, rfl, iteNF (decide_eq_false fun z => bad ⟨p1, z⟩) rs⟩
    · exact ⟨_, rfl, iteT rs⟩
  · have rs := q.here (Same.refl _) (hc 4 (by decide)).1
    refine ⟨_, (pss_cons (ps_expr (pe_cal h_asked_kind hr (by decide) rfl (pa_cons (pv 0) pa_nil)))
  (pss_cons (ps_if (pt_not (pt_chain op_le op_le pe_int (pv 1) pe_int)) (pss_one ps_never) pss_nil)
  (pss_cons (ps_if (PW.pt (pw_and (pt_cmpR op_eq (pv 1) pe_int (nomark _)) (pw_and1 (pt_cmpR op_ne (pv 0) pe_str (nomark _))))) (pss_one (ps_rs rfl takesN (hc 4 (by decide)).2.1 (hc 4 (by decide)).1 (by exact rfl))) pss_nil)
  pss_never))), ?_⟩
    refine ⟨_, rfl, kd, rfl, ?_⟩
    refine ⟨_, rfl, _, _, rfl, rfl, _, rfl, iteC (decide_eq_true (by decide)) ?_⟩
    refine ⟨_, _, rfl, rfl, _, rfl, iteNS (by decide) ?_⟩
    refine ⟨_, rfl, rfl, _, rfl, iteC (decide_eq_true rfl) ?_⟩
    exact ⟨_, rfl, rfl, _, rfl, iteNF ((Kd.str_eq kd .sums).trans (decide_eq_false hk)) rs⟩
theorem ok_law_called (D : Def K mg "_law_called" s_law_called ["which", "kind", "size", "count", "hues", "two"]) (mz : Bl mg) (h_things : Has P w K mg base CX0 3 "things" ["kind", "size"] (sp_things K w)) (h_triples : Has P w K mg base CX0 3 "triples" ["kind", "size"] (sp_triples K w)) (h_one_hued : Has P w K mg base CX0 5 "one_hued" ["kind", "size", "count", "hues"] (sp_one_hued K w)) (h_is_free : Has P w K mg base CX0 6 "is_free" ["kind", "size", "count", "hues"] (sp_is_free K w)) (h_exchanged : Has P w K mg base CX0 5 "exchanged" ["kind", "size", "count", "hues", "one", "other"] (sp_exchanged K w)) (h_first_free : Has P w K mg base CX0 20 "first_free" ["kind", "size", "count"] (sp_first_free K w)) (h_how_many : Has P w K mg base CX0 20 "how_many" ["kind", "size", "count"] (sp_how_many K w)) (h_first_size : Has P w K mg base CX0 20 "first_size" ["kind", "count"] (sp_first_size K w)) : Has P w K mg base CX0 21 "_law_called" ["which", "kind", "size", "count", "hues", "two"] (sp_law_called K w) := by
  refine D.ok sc_law_called (fun vs H Q E h => ?_) (fun f cdv A outer s H vs Q E hr h => ?_)
  · obtain ⟨w, ks, n, c, a, hs, b, u, v, rfl, _⟩ := h
    rfl
  have hu := hu_of hr
  obtain ⟨w, ks, n, c, a, hs, b, u, v, rfl, hw, hS, hT, vw, q⟩ := h
  refine ⟨_, (pss_cons (ps_if (pt_cmpR op_eq (pv 0) pe_int (nomark _)) (pss_one (ps_expr (pe_cal h_things hr (by decide) rfl (pa_cons (pv 1) (pa_cons (pv 2) pa_nil))))) pss_nil)
  (pss_cons (ps_if (pt_cmpR op_eq (pv 0) pe_int (nomark _)) (pss_one (ps_expr (pe_cal h_triples hr (by decide) rfl (pa_cons (pv 1) (pa_cons (pv 2) pa_nil))))) pss_nil)
  (pss_cons (ps_if (pt_cmpR op_eq (pv 0) pe_int (nomark _)) (pss_one (ps_expr (pe_cal h_one_hued hr (by decide) rfl (pa_cons (pv 1) (pa_cons (pv 2) (pa_cons (pv 3) (pa_cons (pv 4) pa_nil))))))) pss_nil)
  (pss_cons (ps_if (pt_cmpR op_eq (pv 0) pe_int (nomark _)) (pss_one (ps_expr (pe_cal h_is_free hr (by decide) rfl (pa_cons (pv 1) (pa_cons (pv 2) (pa_cons (pv 3) (pa_cons (pv 4) pa_nil))))))) pss_nil)
  (pss_cons (ps_if (pt_cmpR op_eq (pv 0) pe_int (nomark _)) (pss_one (ps_expr (pe_cal h_exchanged hr (by decide) rfl (pa_cons (pv 1) (pa_cons (pv 2) (pa_cons (pv 3) (pa_cons (pv 4) (pa_cons (pe_ix ix_list (pv 5) pe_int (fun _ _ => rfl)) (pa_cons (pe_ix ix_list (pv 5) pe_int (fun _ _ => rfl)) pa_nil))))))))) pss_nil)
  (pss_cons (ps_if (pt_cmpR op_eq (pv 0) pe_int (nomark _)) (pss_one (ps_expr (pe_cal h_first_free hr (by decide) rfl (pa_cons (pv 1) (pa_cons (pv 2) (pa_cons (pv 3) pa_nil)))))) pss_nil)
  (pss_cons (ps_if (pt_cmpR op_eq (pv 0) pe_int (nomark _)) (pss_one (ps_expr (pe_cal h_how_many hr (by decide) rfl (pa_cons (pv 1) (pa_cons (pv 2) (pa_cons (pv 3) pa_nil)))))) pss_nil)
  (pss_one (ps_if (pt_cmpR op_eq (pv 0) pe_int (nomark _)) (pss_one (ps_expr (pe_cal h_first_size hr (by decide) rfl (pa_cons (pv 1) (pa_cons (pv 3) pa_nil))))) pss_nil))))))))), ?_⟩
  match w, hw, vw with
  | 0, _, vw =>
    obtain ⟨kd, m, rfl, rfl, hm⟩ := vw
    refine ⟨_, rfl, rfl, _, rfl, iteC (decide_eq_true rfl) ?_⟩
    refine ⟨_, rfl, _, rfl, kd, m, rfl, hm, ?_⟩
    iterate 7 refine ⟨_, rfl, rfl, _, rfl, iteD (decide_eq_false (fun z => absurd (V.int.inj z) (by decide))) ?_⟩
    exact q H (Same.refl _)
  | 1, _, vw =>
    obtain ⟨kd, m, rfl, rfl, hm⟩ := vw
    refine ⟨_, rfl, rfl, _, rfl, iteD (decide_eq_false (fun z => absurd (V.int.inj z) (by decide))) ?_⟩
    refine ⟨_, rfl, rfl, _, rfl, iteC (decide_eq_true rfl) ?_⟩
    refine ⟨_, rfl, _, rfl, kd, m, rfl, hm, fun H' p s hp L => ?_⟩
    iterate 6 refine ⟨_, rfl, rfl, _, rfl, iteD (decide_eq_false (fun z => absurd (V.int.inj z) (by decide))) ?_⟩
    exact q H' s
  | 2, _, vw =>
    obtain ⟨kd, m, ct, ⟨rfl, rfl, hm⟩, rfl, hct, dy⟩ := vw
    iterate 2 refine ⟨_, rfl, rfl, _, rfl, iteD (decide_eq_false (fun z => absurd (V.int.inj z) (by decide))) ?_⟩
    refine ⟨_, rfl, rfl, _, rfl, iteC (decide_eq_true rfl) ?_⟩
    refine ⟨_, rfl, _, rfl, _, rfl, _, rfl, kd, m, ct, a, hs, rfl, hm, hct, hS, dy, fun H' p s hp L => ?_⟩
    iterate 5 refine ⟨_, rfl, rfl, _, rfl, iteD (decide_eq_false (fun z => absurd (V.int.inj z) (by decide))) ?_⟩
    exact q H' s
  | 3, _, vw =>
    obtain ⟨kd, m, ct, ⟨rfl, rfl, hm⟩, rfl, hct, dy⟩ := vw
    iterate 3 refine ⟨_, rfl, rfl, _, rfl, iteD (decide_eq_false (fun z => absurd (V.int.inj z) (by decide))) ?_⟩
    refine ⟨_, rfl, rfl, _, rfl, iteC (decide_eq_true rfl) ?_⟩
    refine ⟨_, rfl, _, rfl, _, rfl, _, rfl, kd, m, ct, a, hs, rfl, hm, hct, hS, dy, fun H' s => ?_⟩
    iterate 4 refine ⟨_, rfl, rfl, _, rfl, iteD (decide_eq_false (fun z => absurd (V.int.inj z) (by decide))) ?_⟩
    exact q H' s
  | 4, _, vw =>
    obtain ⟨kd, m, ct, u', v', ⟨rfl, rfl, hm⟩, rfl, hct, dy, rfl, rfl, hu', hv'⟩ := vw
    iterate 4 refine ⟨_, rfl, rfl, _, rfl, iteD (decide_eq_false (fun z => absurd (V.int.inj z) (by decide))) ?_⟩
    refine ⟨_, rfl, rfl, _, rfl, iteC (decide_eq_true rfl) ?_⟩
    refine ⟨_, rfl, _, rfl, _, rfl, _, rfl, _, rfl, b, _, 0, .int u', rfl, rfl, hT, atI_nat (j := 0) rfl, _, rfl, b, _, 1, .int v', rfl, rfl, hT, atI_nat (j := 1) rfl, kd, m, ct, a, hs, u', v', rfl, hm, hct, hS, dy, hu', hv', fun H' p s hp e => ?_⟩
    iterate 3 refine ⟨_, rfl, rfl, _, rfl, iteD (decide_eq_false (fun z => absurd (V.int.inj z) (by decide))) ?_⟩
    exact q H' s
  | 5, _, vw =>
    obtain ⟨kd, m, ct, ⟨rfl, rfl, hm⟩, rfl, hct, h15⟩ := vw
    iterate 5 refine ⟨_, rfl, rfl, _, rfl, iteD (decide_eq_false (fun z => absurd (V.int.inj z) (by decide))) ?_⟩
    refine ⟨_, rfl, rfl, _, rfl, iteC (decide_eq_true rfl) ?_⟩
    refine ⟨_, rfl, _, rfl, _, rfl, kd, m, ct, rfl, hm, hct, h15, fun e H' s => ?_, fun r e H' x s hx ex => ?_⟩
    · iterate 2 refine ⟨_, rfl, rfl, _, rfl, iteD (decide_eq_false (fun z => absurd (V.int.inj z) (by decide))) ?_⟩
      exact q H' s
    · iterate 2 refine ⟨_, rfl, rfl, _, rfl, iteD (decide_eq_false (fun z => absurd (V.int.inj z) (by decide))) ?_⟩
      exact q H' s
  | 6, _, vw =>
    obtain ⟨kd, m, ct, ⟨rfl, rfl, hm⟩, rfl, hct, h15, h8⟩ := vw
    iterate 6 refine ⟨_, rfl, rfl, _, rfl, iteD (decide_eq_false (fun z => absurd (V.int.inj z) (by decide))) ?_⟩
    refine ⟨_, rfl, rfl, _, rfl, iteC (decide_eq_true rfl) ?_⟩
    refine ⟨_, rfl, _, rfl, _, rfl, kd, m, ct, rfl, hm, hct, h15, h8, fun H' s => ?_⟩
    refine ⟨_, rfl, rfl, _, rfl, iteD (decide_eq_false (fun z => absurd (V.int.inj z) (by decide))) ?_⟩
    exact q H' s
  | 7, _, vw =>
    obtain ⟨kd, ct, rfl, rfl, hF⟩ := vw
    iterate 7 refine ⟨_, rfl, rfl, _, rfl, iteD (decide_eq_false (fun z => absurd (V.int.inj z) (by decide))) ?_⟩
    refine ⟨_, rfl, rfl, _, rfl, iteC (decide_eq_true rfl) ?_⟩
    exact ⟨_, rfl, _, rfl, kd, ct, rfl, hF, fun H' s => q H' s⟩
theorem ok_law_called_x (D : Def K mg "_law_called" s_law_called ["which", "kind", "size", "count", "hues", "two"]) (mz : Bl mg) (h_things_x : Has P w K mg base (CXn P w) 3 "things" ["kind", "size"] (sp_things_x K w mg)) (h_triples_x : Has P w K mg base (CXn P w) 3 "triples" ["kind", "size"] (sp_triples_x K w mg)) (h_one_hued_x : Has P w K mg base (CXn P w) 5 "one_hued" ["kind", "size", "count", "hues"] (sp_one_hued_x K w mg)) (h_is_free_x : Has P w K mg base (CXn P w) 6 "is_free" ["kind", "size", "count", "hues"] (sp_is_free_x K w mg)) (h_exchanged_x : Has P w K mg base (CXn P w) 5 "exchanged" ["kind", "size", "count", "hues", "one", "other"] (sp_exchanged_x K w mg)) (h_first_free_x : Has P w K mg base (CXn P w) 5 "first_free" ["kind", "size", "count"] (sp_first_free_x K w mg)) (h_how_many_x : Has P w K mg base (CXn P w) 5 "how_many" ["kind", "size", "count"] (sp_how_many_x K w mg)) (h_first_size_x : Has P w K mg base (CXn P w) 2 "first_size" ["kind", "count"] (sp_first_size_x K w mg)) : Has P w K mg base (CXn P w) 7 "_law_called" ["which", "kind", "size", "count", "hues", "two"] (sp_law_called_x K w mg) := by
  refine D.okN sc_law_called (fun vs H Q E h => ?_) (fun f cdv A outer s H vs Q E hr h => ?_)
  · obtain ⟨w, ks, n, c, a, hs, b, u, v, i, rfl, _⟩ := h
    rfl
  have hu := hu_of hr
  obtain ⟨w, ks, n, c, a, hs, b, u, v, i, rfl, hw, hS, hT, r, q⟩ := h
  refine ⟨_, (pss_cons (ps_if (pt_cmpR op_eq (pv 0) pe_int (nomark _)) (pss_one (ps_expr (pe_calN h_things_x hr (by decide) rfl takesN (pa_cons (pv 1) (pa_cons (pv 2) pa_nil))))) pss_nil)
  (pss_cons (ps_if (pt_cmpR op_eq (pv 0) pe_int (nomark _)) (pss_one (ps_expr (pe_calN h_triples_x hr (by decide) rfl takesN (pa_cons (pv 1) (pa_cons (pv 2) pa_nil))))) pss_nil)
  (pss_cons (ps_if (pt_cmpR op_eq (pv 0) pe_int (nomark _)) (pss_one (ps_expr (pe_calN h_one_hued_x hr (by decide) rfl takesN (pa_cons (pv 1) (pa_cons (pv 2) (pa_cons (pv 3) (pa_cons (pv 4) pa_nil))))))) pss_nil)
  (pss_cons (ps_if (pt_cmpR op_eq (pv 0) pe_int (nomark _)) (pss_one (ps_expr (pe_calN h_is_free_x hr (by decide) rfl takesN (pa_cons (pv 1) (pa_cons (pv 2) (pa_cons (pv 3) (pa_cons (pv 4) pa_nil))))))) pss_nil)
  (pss_cons (ps_if (pt_cmpR op_eq (pv 0) pe_int (nomark _)) (pss_one (ps_expr (pe_calN h_exchanged_x hr (by decide) rfl takesN (pa_cons (pv 1) (pa_cons (pv 2) (pa_cons (pv 3) (pa_cons (pv 4) (pa_cons (pe_ix ix_list (pv 5) pe_int (fun _ _ => rfl)) (pa_cons (pe_ix ix_list (pv 5) pe_int (fun _ _ => rfl)) pa_nil))))))))) pss_nil)
  (pss_cons (ps_if (pt_cmpR op_eq (pv 0) pe_int (nomark _)) (pss_one (ps_expr (pe_calN h_first_free_x hr (by decide) rfl takesN (pa_cons (pv 1) (pa_cons (pv 2) (pa_cons (pv 3) pa_nil)))))) pss_nil)
  (pss_cons (ps_if (pt_cmpR op_eq (pv 0) pe_int (nomark _)) (pss_one (ps_expr (pe_calN h_how_many_x hr (by decide) rfl takesN (pa_cons (pv 1) (pa_cons (pv 2) (pa_cons (pv 3) pa_nil)))))) pss_nil)
  (pss_one (ps_if (pt_cmpR op_eq (pv 0) pe_int (nomark _)) (pss_one (ps_expr (pe_calN h_first_size_x hr (by decide) rfl takesN (pa_cons (pv 1) (pa_cons (pv 3) pa_nil))))) pss_nil))))))))), ?_⟩
  match w, hw, r with
  | 0, _, r =>
    refine ⟨_, rfl, rfl, _, rfl, iteC (decide_eq_true rfl) ?_⟩
    exact ⟨_, rfl, _, rfl, ks, n, i, rfl, r, q⟩
  | 1, _, r =>
    refine ⟨_, rfl, rfl, _, rfl, iteD (decide_eq_false (fun z => absurd (V.int.inj z) (by decide))) ?_⟩
    refine ⟨_, rfl, rfl, _, rfl, iteC (decide_eq_true rfl) ?_⟩
    exact ⟨_, rfl, _, rfl, ks, n, i, rfl, r, q⟩
  | 2, _, r =>
    iterate 2 refine ⟨_, rfl, rfl, _, rfl, iteD (decide_eq_false (fun z => absurd (V.int.inj z) (by decide))) ?_⟩
    refine ⟨_, rfl, rfl, _, rfl, iteC (decide_eq_true rfl) ?_⟩
    exact ⟨_, rfl, _, rfl, _, rfl, _, rfl, ks, n, c, a, hs, i, rfl, hS, r, q⟩
  | 3, _, r =>
    iterate 3 refine ⟨_, rfl, rfl, _, rfl, iteD (decide_eq_false (fun z => absurd (V.int.inj z) (by decide))) ?_⟩
    refine ⟨_, rfl, rfl, _, rfl, iteC (decide_eq_true rfl) ?_⟩
    exact ⟨_, rfl, _, rfl, _, rfl, _, rfl, ks, n, c, a, hs, i, rfl, hS, r, q⟩
  | 4, _, r =>
    iterate 4 refine ⟨_, rfl, rfl, _, rfl, iteD (decide_eq_false (fun z => absurd (V.int.inj z) (by decide))) ?_⟩
    refine ⟨_, rfl, rfl, _, rfl, iteC (decide_eq_true rfl) ?_⟩
    exact ⟨_, rfl, _, rfl, _, rfl, _, rfl, _, rfl, b, _, 0, .int u, rfl, rfl, hT, atI_nat (j := 0) rfl, _, rfl, b, _, 1, .int v, rfl, rfl, hT, atI_nat (j := 1) rfl, ks, n, c, a, hs, u, v, i, rfl, hS, r, q⟩
  | 5, _, r =>
    iterate 5 refine ⟨_, rfl, rfl, _, rfl, iteD (decide_eq_false (fun z => absurd (V.int.inj z) (by decide))) ?_⟩
    refine ⟨_, rfl, rfl, _, rfl, iteC (decide_eq_true rfl) ?_⟩
    exact ⟨_, rfl, _, rfl, _, rfl, ks, n, c, i, rfl, r, q⟩
  | 6, _, r =>
    iterate 6 refine ⟨_, rfl, rfl, _, rfl, iteD (decide_eq_false (fun z => absurd (V.int.inj z) (by decide))) ?_⟩
    refine ⟨_, rfl, rfl, _, rfl, iteC (decide_eq_true rfl) ?_⟩
    exact ⟨_, rfl, _, rfl, _, rfl, ks, n, c, i, rfl, r, q⟩
  | 7, _, r =>
    iterate 7 refine ⟨_, rfl, rfl, _, rfl, iteD (decide_eq_false (fun z => absurd (V.int.inj z) (by decide))) ?_⟩
    refine ⟨_, rfl, rfl, _, rfl, iteC (decide_eq_true rfl) ?_⟩
    exact ⟨_, rfl, _, rfl, ks, c, i, rfl, r, q⟩
theorem ok_law_told (D : Def K mg "_law_told" s_law_told ["which", "kind", "size", "count", "hues", "two"]) (mz : Bl mg) (er : Er K mg) (h_law_called_x : Has P w K mg base (CXn P w) 7 "_law_called" ["which", "kind", "size", "count", "hues", "two"] (sp_law_called_x K w mg)) (h_law_called : Has P w K mg base CX0 21 "_law_called" ["which", "kind", "size", "count", "hues", "two"] (sp_law_called K w)) (h_law_other : HasE P w K mg base 1 "_law_other" ["e", "wanted"] (sp_oth mg)) : Has P w K mg base CX0 22 "_law_told" ["which", "kind", "size", "count", "hues", "two"] (sp_law_told K w) := by
  obtain ⟨c, hb, hc, he, hv⟩ := er.ex
  refine D.ok sc_law_told (fun vs H Q E h => ?_) (fun f cdv A outer s H vs Q E hr h => ?_)
  · obtain ⟨w, ks, n, c, a, hs, b, u, v, r, rfl, _⟩ := h
    rfl
  have hu := hu_of hr
  obtain ⟨w, ks, n, ct, a, hs, b, u, v, r, rfl, hw, hS, hT, cs, q⟩ := h
  rcases cs with ⟨rfl, vw⟩ | ⟨hr5, rw'⟩
  · refine ⟨_, (pss_cons (L2N.ps_try_as (i := 6) (c := .ref hb) rfl rfl sc_law_told.nd rfl rfl ⟨rfl, by decide, .inl he⟩ takesN0
    (fun W pn xe tk _ => (pss_one (ps_expr (pe_cal h_law_called hr (by decide) rfl (pa_cons (pv 0) (pa_cons (pv 1) (pa_cons (pv 2) (pa_cons (pv 3) (pa_cons (pv 4) (pa_cons (pv 5) pa_nil))))))))))
    (fun a oe cls d pn hz hf => (pss_cons (L2H.ps_forH PassesOwn.never (hotS hz hf) (L2H.pi_range1H rfl mz.range (pa_cons pe_int pa_nil)) (pg_name (i := 7) sc_law_told.nd rfl (.inl rfl)) (pss_one (ps_if (pt_not (pt_val (pe_calE h_law_other (roomS hr) (by decide) hz hf rfl List.mem_cons_self (by exact rfl) (pa_cons (pv 6) (pa_cons (pv 7) pa_nil))))) (pss_one (ps_ret (pv 7))) pss_nil)))
  (pss_one (ps_ret pe_int)))))
  (pss_one (ps_ret pe_int))), ?_⟩
    exact ⟨_, rfl, _, rfl, _, rfl, _, rfl, _, rfl, _, rfl, w, ks, n, ct, a, hs, b, u, v, rfl, hw, hS, hT, vw, fun H' s => q H' s⟩
  · refine ⟨_, (pss_cons (L2N.ps_try_as (i := 6) (c := .ref hb) rfl rfl sc_law_told.nd rfl rfl ⟨rfl, by decide, .inl he⟩ takesN0
    (fun W pn xe tk _ => (pss_one (ps_expr (pe_calT h_law_called_x hr (by decide) rfl tk (pa_cons (pv 0) (pa_cons (pv 1) (pa_cons (pv 2) (pa_cons (pv 3) (pa_cons (pv 4) (pa_cons (pv 5) pa_nil))))))))))
    (fun a oe cls d pn hz hf => (pss_cons (L2H.ps_forH PassesOwn.never (hotS hz hf) (L2H.pi_range1H rfl mz.range (pa_cons pe_int pa_nil)) (pg_name (i := 7) sc_law_told.nd rfl (.inl rfl)) (pss_one (ps_if (pt_not (pt_val (pe_calE h_law_other (roomS hr) (by decide) hz hf rfl List.mem_cons_self (by exact rfl) (pa_cons (pv 6) (pa_cons (pv 7) pa_nil))))) (pss_one (ps_ret (pv 7))) pss_nil)))
  (pss_one (ps_ret pe_int)))))
  (pss_one (ps_ret pe_int))), ?_⟩
    refine ⟨_, rfl, _, rfl, _, rfl, _, rfl, _, rfl, _, rfl, w, ks, n, ct, a, hs, b, u, v, r, rfl, hw, hS, hT, rw', fun H1 D hD s1 => ?_⟩
    obtain ⟨D0, rfl, gD⟩ := hD
    obtain rfl : D0 = c r := by
      have z := (hc r hr5).1
      rw [gD] at z
      exact Value.ref.inj (Option.some.inj z)
    refine ⟨true, (hc r hr5).2.2.1, fun _ x hx => ?_, fun z => nomatch z⟩
    refine ⟨5, rfl, by decide, by decide, ?_⟩
    refine for_range (lo := 0) (n := 5) (fun i σ H' => ∃ y, σ = [some (.int w), some (.str ks), some (.int n), some (.int ct), some (.ref a), some (.ref b), some (.ref x), y] ∧ Same H1 H' ∧ i ≤ r) ⟨none, rfl, Same.refl _, Nat.zero_le _⟩ (fun i σ H2 hi hW => ?_) (fun σ H2 hW => ?_)
    · obtain ⟨y, rfl, s2, hir⟩ := hW
      refine ⟨_, rfl, _, rfl, r, i, hr5, hi, ⟨_, rfl, gD⟩, rfl, ?_, fun H3 s3 => ?_⟩
      · rw [Int.zero_add]
      refine ⟨_, rfl, ?_⟩
      by_cases e : r = i
      · refine iteNF (decide_eq_false fun z => z e) ⟨_, rfl, ?_⟩
        rw [Int.zero_add, ← e]
        exact q H3 (s1.trans (s2.trans s3))
      · exact iteN (decide_eq_true e) ⟨_, rfl, s2.trans s3, by omega⟩
    · obtain ⟨y, rfl, s2, hir⟩ := hW
      omega
theorem ok_law_due (D : Def K mg "_law_due" s_law_due ["which", "kind", "size", "count", "hues", "two"]) (mz : Bl mg) (h_law_many : Has P w K mg base CX0 2 "_law_many" ["kind", "size"] (sp_law_many K w)) : Has P w K mg base CX0 3 "_law_due" ["which", "kind", "size", "count", "hues", "two"] (sp_law_due K w) := by
  refine D.ok sc_law_due (fun vs H Q E h => ?_) (fun f cdv A outer s H vs Q E hr h => ?_)
  · obtain ⟨w, ks, n, c, a, hs, b, u, v, rfl, _⟩ := h
    rfl
  have hu := hu_of hr
  obtain ⟨w, ks, n, ct, a, hs, b, u, v, rfl, hw, hS, hl100, hT, kk, qq⟩ := h
  have cs : (BadK ks ∧ ∀ H', Same H H' → Q (.int 0) H') ∨ ∃ kd : Kd, ks = kd.str ∧ ∀ H', Same H H' → Q (.int (due w kd n ct hs u v : Nat)) H' := by
    rcases kk with bk | ⟨kd, rfl⟩
    · exact .inl ⟨bk, fun H' s => qq 0 H' (.inr ⟨by decide, due_bad bk⟩) s⟩
    · refine .inr ⟨kd, rfl, fun H' s => ?_⟩
      rcases due_ok (kd := kd) (n := n) (c := ct) (hs := hs) (u := u) (v := v) hw with ⟨e, vv⟩ | ⟨i, hi, e, rr⟩
      · rw [e]
        exact qq 5 H' (.inl ⟨rfl, vv⟩) s
      · rw [e]
        exact qq i H' (.inr ⟨hi, rr⟩) s
  refine ⟨_, (pss_cons (ps_if (pt_cmpR op_notIn_seq (pv 1) (pe_lst (pa_cons pe_str (pa_cons pe_str (pa_cons pe_str pa_nil)))) (by rfl)) (pss_one (ps_ret pe_int)) pss_nil)
  (C8.pss_cut (ps_if (PW.pt (pw_and (pt_cmpR op_lt (pv 0) pe_int (nomark _)) (pw_and1 (pt_not (pt_chain op_le op_le pe_int (pv 2) (pe_ix ix_list (pe_lst (pa_cons pe_int (pa_cons pe_int pa_nil))) (pe_callTy call_int1 (by rfl) mz.int (by decide +kernel) (pa_cons (pe_cmpR op_ne (pv 1) pe_str (nomark _)) pa_nil)) (fun _ _ => rfl))))))) (pss_one (ps_ret pe_int)) pss_nil)
  (C8.pss_cut (ps_if (PW.pt (pw_and (pt_cmpR op_gt (pv 0) pe_int (nomark _)) (pw_and1 (pt_not (pt_chain op_le op_le pe_int (pv 3) pe_int))))) (pss_one (ps_ret pe_int)) pss_nil)
  (C8.pss_cut (ps_if (pt_chain op_le op_le pe_int (pv 0) pe_int) (C8.pss_cut (ps_set (i := 6) sc_law_due.nd rfl (.inl rfl) (pe_and (pe_cmpR op_eq (pe_callB call_len_seq (by rfl) mz.len PySem.boot_len (pa_cons (pv 4) pa_nil)) (pe_cal h_law_many hr (by decide) rfl (pa_cons (pv 1) (pa_cons (pv 2) pa_nil))) (nomark _)) (pe_one (pe_cmpR op_eq (pe_callB call_len_seq (by rfl) mz.len PySem.boot_len (pa_cons (pe_lc (own := [("hue", 7)]) rfl sc_law_due.nd (pi_list (pv 4)) (blkOk_by (own := [("hue", 7)]) (N := ["which", "kind", "size", "count", "hues", "two", "good", "hue"]) (sc := defScope s_law_due) (by decide +kernel)) (fun _ _ _ _ _ => pg_name (i := 7) sc_law_due.nd rfl (Or.inl rfl)) (fun _ _ _ _ _ => (pts_one (pt_not (pt_chain op_le op_lt pe_int (pv 7) (pv 3))))) (fun _ _ _ _ _ => (pv 7))) pa_nil)) pe_int (nomark _)))))
  (pss_cons (ps_if (PW.pt (pw_or (pt_not (pt_val (pv 6))) (pw_or1 (pt_cmpR op_lt (pv 0) pe_int (nomark _))))) (pss_one (ps_ret (pe_ix ix_list (pe_lst (pa_cons pe_int (pa_cons pe_int pa_nil))) (pe_callTy call_int1 (by rfl) mz.int (by decide +kernel) (pa_cons (pv 6) pa_nil)) (fun _ _ => rfl)))) pss_nil)
  (pss_one (ps_ret (pe_ix ix_list (pe_lst (pa_cons pe_int (pa_cons pe_int pa_nil))) (pe_callTy call_int1 (by rfl) mz.int (by decide +kernel) (pa_cons (pe_and (pe_cmpR op_le pe_int (pe_callB (cr_min rfl) (by rfl) mz.min (by decide +kernel) (pa_cons (pv 5) pa_nil)) (nomark _)) (pe_one (pe_cmpR op_lt (pe_callB (cr_max rfl) (by rfl) mz.max (by decide +kernel) (pa_cons (pv 5) pa_nil)) (pv 3) (nomark _)))) pa_nil)) (fun _ _ => rfl)))))) pss_nil)
  (C8.pss_cut (ps_if (PW.pt (pw_and (pt_cmpR op_eq (pv 0) pe_int (nomark _)) (pw_and (pt_cmpR op_eq (pv 3) pe_int (nomark _)) (pw_and1 (pt_cmpR op_ne (pv 1) pe_str (nomark _)))))) (pss_one (ps_ret pe_int)) pss_nil)
  (C8.pss_cut (ps_if (PW.pt (pw_and (pt_cmpR op_eq (pv 0) pe_int (nomark _)) (pw_and (pt_cmpR op_eq (pv 3) pe_int (nomark _)) (pw_and1 (pt_cmpR op_gt (pe_cal h_law_many hr (by decide) rfl (pa_cons (pv 1) (pa_cons (pv 2) pa_nil))) pe_int (nomark _)))))) (pss_one (ps_ret pe_int)) pss_nil)
  (C8.pss_cut (ps_if (PW.pt (pw_and (pt_chain op_le op_le pe_int (pv 0) pe_int) (pw_and1 (pt_cmpR op_gt (pe_cal h_law_many hr (by decide) rfl (pa_cons (pv 1) (pa_cons (pv 2) pa_nil))) pe_int (nomark _))))) (pss_one (ps_ret pe_int)) pss_nil)
  (pss_one (ps_ret pe_int))))))))), ?_⟩
  refine ⟨_, rfl, sl3, fun l hl => ?_⟩
  have s1 := same_new (H := H) hl (.lst [.str "pairs", .str "sums", .str "steps"])
  refine ⟨l, _, rfl, .inl (SqL.of upd_same), rfl, rfl, _, rfl, ?_⟩
  rcases cs with ⟨bk, q⟩ | ⟨kd, rfl, q⟩
  · refine iteNF (inV_bad bk) (q _ s1)
  refine iteN (inV_kd kd) ?_
  generalize upd H l (.lst [.str "pairs", .str "sums", .str "steps"]) = H1 at s1
  unfold due at q
  refine ⟨fun σ H' => σ = [some (.int w), some (.str kd.str), some (.int n), some (.int ct), some (.ref a), some (.ref b), none, none] ∧ Same H H' ∧ ¬ (w < 7 ∧ ¬ (0 ≤ n ∧ n ≤ (kd.bd : Int))), ?_, ?_⟩
  · refine ⟨_, rfl, _, _, rfl, rfl, _, rfl, ite2 (fun p => ?_) (fun p => iteF ⟨rfl, s1, fun z => p (decide_eq_true (by omega))⟩)⟩
    have p : w < 7 := by have := of_decide_eq_true p; omega
    refine ⟨_, rfl, _, _, rfl, rfl, _, rfl, ite2 (fun p1 => ?_) (fun p1 => ?_)⟩
    · have p1 := of_decide_eq_true p1
      refine ⟨sl2, fun l2 hl2 => ?_⟩
      have s2 := s1.trans (same_new hl2 (.lst [.int 9, .int 40]))
      refine ⟨_, rfl, rfl, .inr ⟨_, rfl, l2, _, _, .int kd.bd, rfl, rfl, SqL.of upd_same, (by cases kd <;> rfl), _, _, rfl, rfl, _, rfl, ?_⟩⟩
      by_cases p2 : n ≤ (kd.bd : Int)
      · exact iteNS p2 ⟨rfl, s2, fun z => z.2 ⟨p1, p2⟩⟩
      · rw [if_pos ⟨p, fun z => p2 z.2⟩] at q
        exact iteNF (decide_eq_false p2) (q _ s2)
    · rw [if_pos ⟨p, fun z => p1 (decide_eq_true z.1)⟩] at q
      exact ⟨_, rfl, iteT (q _ s1)⟩
  rintro σ H2 ⟨rfl, s2, na⟩
  rw [if_neg na] at q
  have sz : w < 7 → ∃ m : Nat, n = (m : Int) ∧ m ≤ kd.bd := fun z => by
    have y : 0 ≤ n ∧ n ≤ (kd.bd : Int) := Classical.byContradiction fun y => na ⟨z, y⟩
    exact ⟨n.toNat, by omega, by omega⟩
  refine ⟨fun σ H' => σ = [some (.int w), some (.str kd.str), some (.int n), some (.int ct), some (.ref a), some (.ref b), none, none] ∧ Same H H' ∧ ¬ (1 < w ∧ ¬ (1 ≤ ct ∧ ct ≤ 3)), ?_, ?_⟩
  · refine ⟨_, rfl, _, _, rfl, rfl, _, rfl, ite2 (fun p => ?_) (fun p => iteF ⟨rfl, s2, fun z => p (decide_eq_true (by omega))⟩)⟩
    have p : 1 < w := by have := of_decide_eq_true p; omega
    refine ⟨_, rfl, _, _, rfl, rfl, _, rfl, ite2 (fun p1 => ?_) (fun p1 => ?_)⟩
    · have p1 := of_decide_eq_true p1
      refine ⟨_, _, rfl, rfl, _, rfl, ?_⟩
      by_cases p2 : ct ≤ 3
      · exact iteNS p2 ⟨rfl, s2, fun z => z.2 ⟨p1, p2⟩⟩
      · rw [if_pos ⟨p, fun z => p2 z.2⟩] at q
        exact iteNF (decide_eq_false p2) (q _ s2)
    · rw [if_pos ⟨p, fun z => p1 (decide_eq_true z.1)⟩] at q
      exact ⟨_, rfl, iteT (q _ s2)⟩
  rintro σ H3 ⟨rfl, s3, nb⟩
  rw [if_neg nb] at q
  refine ⟨fun σ H' => σ = [some (.int w), some (.str kd.str), some (.int n), some (.int ct), some (.ref a), some (.ref b), none, none] ∧ Same H H' ∧ ¬ (2 ≤ w ∧ w ≤ 4), ?_, ?_⟩
  · refine ⟨_, rfl, _, _, rfl, rfl, _, rfl, ite2 (fun p => ?_) (fun p => ⟨_, rfl, iteF ⟨rfl, s3, fun z => p (decide_eq_true (by omega))⟩⟩)⟩
    have p : 2 ≤ w := by have := of_decide_eq_true p; omega
    refine ⟨_, _, rfl, rfl, _, rfl, ite2 (fun p4 => ?_) (fun p4 => ⟨rfl, s3, fun z => p4 (decide_eq_true (by omega))⟩)⟩
    have p4 : w ≤ 4 := by have := of_decide_eq_true p4; omega
    rw [if_pos ⟨p, p4⟩] at q
    obtain ⟨m, rfl, hm⟩ := sz (by omega)
    refine ⟨fun σ H' => σ = [some (.int w), some (.str kd.str), some (.int m), some (.int ct), some (.ref a), some (.ref b), some (.bl (goodD kd (m : Int) ct hs)), none] ∧ Same H H', ?_, ?_⟩
    · have hS3 := s3.seq hS
      refine ⟨_, rfl, a, _, rfl, .inl hS3, _, rfl, _, rfl, kd, m, rfl, hm, fun H4 s34 => ⟨rfl, _, rfl, ite2 (fun pl => ?_) (fun pl => ?_)⟩⟩
      · have ln : hs.length = many kd m := by
          have := V.int.inj (of_decide_eq_true pl)
          rw [List.length_map] at this
          omega
        have s4 := s3.trans s34
        refine ⟨_, rfl, a, rfl, ⟨_, s4.seq hS⟩, fun D hD => ?_⟩
        refine lc_list (K := K) (a := a) (xs := hs.map V.int) (fun i H' => Same H4 H' ∧ H' D = some (.lst (((hs.take i).filter fun h => !decide (0 ≤ h ∧ h < ct)).map V.int))) ⟨same_new hD _, upd_same⟩ (fun i H' hi hW => (s4.trans hW.1).seq hS) (fun i x H' hx hW => ?_) (fun H' hW => ?_)
        · obtain ⟨s5, d5⟩ := hW
          rw [List.getElem?_map] at hx
          obtain ⟨y, hy, rfl⟩ : ∃ y, hs[i]? = some y ∧ V.int y = x := by
            cases e : hs[i]? with
            | none => rw [e] at hx; cases hx
            | some y => rw [e] at hx; exact ⟨y, rfl, Option.some.inj hx⟩
          have nxF : (0 ≤ y ∧ y < ct) → Same H4 H' ∧ H' D = some (.lst (((hs.take (i + 1)).filter fun h => !decide (0 ≤ h ∧ h < ct)).map V.int)) := fun z => by
            refine ⟨s5, ?_⟩
            rw [d5, List.take_add_one, hy, List.filter_append]
            have e : List.filter (fun h => !decide (0 ≤ h ∧ h < ct)) (some y).toList = [] := by simp [z]
            rw [e, List.append_nil]
          have nxT : ¬ (0 ≤ y ∧ y < ct) → ∃ acc, H' D = some (.lst acc) ∧ acc.length < sizeLine ∧ Same H4 (upd H' D (.lst (acc ++ [.int y]))) ∧ (upd H' D (.lst (acc ++ [.int y]))) D = some (.lst (((hs.take (i + 1)).filter fun h => !decide (0 ≤ h ∧ h < ct)).map V.int)) := fun z => by
            refine ⟨_, d5, ?_, same_upd s5 hD _, ?_⟩
            · rw [List.length_map]
              have l1 := List.length_filter_le (fun h => !decide (0 ≤ h ∧ h < ct)) (hs.take i)
              have l2 : (hs.take i).length ≤ hs.length := by rw [List.length_take]; omega
              exact sl_lt (by omega)
            · rw [upd_same, List.take_add_one, hy, List.filter_append]
              have e : List.filter (fun h => !decide (0 ≤ h ∧ h < ct)) (some y).toList = [y] := by
                show List.filter _ [y] = [y]
                rw [List.filter_cons, if_pos (by rw [decide_eq_false z]; rfl)]
                rfl
              rw [e, List.map_append]
              rfl
          refine ⟨rfl, ?_⟩
          refine ⟨_, rfl, _, _, rfl, rfl, _, rfl, ite2 (fun p1 => ?_) (fun p1 => ?_)⟩
          · have p1 := of_decide_eq_true p1
            refine ⟨_, rfl, _, _, rfl, rfl, _, rfl, ?_⟩
            by_cases p2 : y < ct
            · exact iteNS p2 (nxF ⟨p1, p2⟩)
            · exact iteNF (decide_eq_false p2) ⟨_, rfl, nxT fun z => p2 z.2⟩
          · exact ⟨_, rfl, iteT ⟨_, rfl, nxT fun z => p1 (decide_eq_true z.1)⟩⟩
        · obtain ⟨s5, d5⟩ := hW
          rw [List.length_map, List.take_length] at d5
          refine ⟨D, _, rfl, .inl (SqL.of d5), rfl, ?_, s4.trans s5⟩
          rw [good_e ln]
          rfl
      · have ln : ¬ hs.length = many kd m := fun z => pl (decide_eq_true (congrArg V.int (by rw [List.length_map, z])))
        refine ⟨?_, s3.trans s34⟩
        rw [good_f ln]
        rfl
    rintro σ H4 ⟨rfl, s4⟩
    generalize hg : goodD kd (m : Int) ct hs = gb at q ⊢
    cases gb with
    | false =>
      rw [if_pos rfl] at q
      refine ⟨_, rfl, _, rfl, iteT (iteT ?_)⟩
      refine ⟨sl2, fun l2 hl2 => ⟨_, rfl, .inr ⟨_, rfl, l2, _, _, .int 3, rfl, rfl, SqL.of upd_same, rfl, ?_⟩⟩⟩
      exact q _ (s4.trans (same_new hl2 _))
    | true =>
      rw [if_neg (by decide)] at q
      refine ⟨_, rfl, _, rfl, iteF ?_⟩
      refine ⟨_, rfl, _, _, rfl, rfl, _, rfl, ite2 (fun p5 => ?_) (fun p5 => ?_)⟩
      · have p5 : w < 4 := by have := of_decide_eq_true p5; omega
        rw [if_pos p5] at q
        refine ⟨sl2, fun l2 hl2 => ⟨_, rfl, .inr ⟨_, rfl, l2, _, _, .int 5, rfl, rfl, SqL.of upd_same, rfl, ?_⟩⟩⟩
        exact q _ (s4.trans (same_new hl2 _))
      · have p5 : ¬ w < 4 := fun z => p5 (decide_eq_true (by omega))
        rw [if_neg p5] at q
        refine ⟨sl2, fun l2 hl2 => ?_⟩
        have s5 := s4.trans (same_new hl2 (.lst [.int 2, .int 5]))
        have e5 : (upd H4 l2 (.lst [.int 2, .int 5])) l2 = some (.lst [.int 2, .int 5]) := upd_same
        generalize upd H4 l2 (.lst [.int 2, .int 5]) = H5 at s5 e5
        refine ⟨_, rfl, b, [u, v], rfl, s5.seq hT, (show 0 < 2 by decide), fun mn hmn hle => ?_⟩
        have a1 := hle u (by simp)
        have a2 := hle v (by simp)
        have a3 : mn = u ∨ mn = v := by simpa using hmn
        refine ⟨_, _, rfl, rfl, _, rfl, ite2 (fun p6 => ?_) (fun p6 => ?_)⟩
        · have p6 := of_decide_eq_true p6
          refine ⟨_, rfl, b, [u, v], rfl, s5.seq hT, (show 0 < 2 by decide), fun mx hmx hge => ?_⟩
          have b1 := hge u (by simp)
          have b2 := hge v (by simp)
          have b3 : mx = u ∨ mx = v := by simpa using hmx
          refine ⟨_, rfl, _, _, rfl, rfl, .inr ⟨_, rfl, l2, _, _, .int (if decide (mx < ct) = true then 5 else 2), rfl, rfl, SqL.of e5, ?_, ?_⟩⟩
          · by_cases z : mx < ct
            · rw [decide_eq_true z]
              rfl
            · rw [decide_eq_false z]
              rfl
          · by_cases z : mx < ct
            · rw [if_pos (by omega)] at q
              rw [decide_eq_true z]
              exact q _ s5
            · rw [if_neg (by omega)] at q
              rw [decide_eq_false z]
              exact q _ s5
        · have p6 : ¬ 0 ≤ mn := fun z => p6 (decide_eq_true z)
          rw [if_neg (by omega)] at q
          exact .inr ⟨_, rfl, l2, _, _, .int 2, rfl, rfl, SqL.of e5, rfl, q _ s5⟩
  rintro σ H4 ⟨rfl, s4, nc⟩
  rw [if_neg nc] at q
  refine ⟨fun σ H' => σ = [some (.int w), some (.str kd.str), some (.int n), some (.int ct), some (.ref a), some (.ref b), none, none] ∧ Same H H' ∧ ¬ (w = 7 ∧ ct = 3 ∧ kd ≠ .sums), ?_, ?_⟩
  · refine ⟨_, rfl, rfl, _, rfl, ite2 (fun p => ?_) (fun p => iteF ⟨rfl, s4, fun z => p (decide_eq_true (by rw [z.1]; rfl))⟩)⟩
    have p : w = 7 := by have := V.int.inj (of_decide_eq_true p); omega
    refine ⟨_, rfl, rfl, _, rfl, ite2 (fun p1 => ?_) (fun p1 => iteF ⟨rfl, s4, fun z => p1 (decide_eq_true (by rw [z.2.1]))⟩)⟩
    have p1 : ct = 3 := V.int.inj (of_decide_eq_true p1)
    refine ⟨_, rfl, rfl, _, rfl, ?_⟩
    by_cases z : kd = .sums
    · exact iteN ((Kd.str_eq kd .sums).trans (decide_eq_true z)) ⟨rfl, s4, fun y => y.2.2 z⟩
    · rw [if_pos ⟨p, p1, z⟩] at q
      exact iteNF ((Kd.str_eq kd .sums).trans (decide_eq_false z)) (q _ s4)
  rintro σ H5 ⟨rfl, s5, nd'⟩
  rw [if_neg nd'] at q
  refine ⟨fun σ H' => σ = [some (.int w), some (.str kd.str), some (.int n), some (.int ct), some (.ref a), some (.ref b), none, none] ∧ Same H H' ∧ ¬ (w = 6 ∧ ct = 3 ∧ 8 < many kd n.toNat), ?_, ?_⟩
  · refine ⟨_, rfl, rfl, _, rfl, ite2 (fun p => ?_) (fun p => iteF ⟨rfl, s5, fun z => p (decide_eq_true (by rw [z.1]; rfl))⟩)⟩
    have p : w = 6 := by have := V.int.inj (of_decide_eq_true p); omega
    refine ⟨_, rfl, rfl, _, rfl, ite2 (fun p1 => ?_) (fun p1 => iteF ⟨rfl, s5, fun z => p1 (decide_eq_true (by rw [z.2.1]))⟩)⟩
    have p1 : ct = 3 := V.int.inj (of_decide_eq_true p1)
    obtain ⟨m, rfl, hm⟩ := sz (by omega)
    rw [Int.toNat_natCast] at q ⊢
    refine ⟨_, rfl, _, rfl, kd, m, rfl, hm, fun H6 s6 => ⟨_, _, rfl, rfl, _, rfl, ite2 (fun p2 => ?_) (fun p2 => ⟨rfl, s5.trans s6, fun z => p2 (decide_eq_true (by omega))⟩)⟩⟩
    have p2 := of_decide_eq_true p2
    rw [if_pos ⟨p, p1, by omega⟩] at q
    exact q _ (s5.trans s6)
  rintro σ H6 ⟨rfl, s6, ne⟩
  rw [if_neg ne] at q
  refine ⟨fun σ H' => σ = [some (.int w), some (.str kd.str), some (.int n), some (.int ct), some (.ref a), some (.ref b), none, none] ∧ Same H H' ∧ ¬ ((5 ≤ w ∧ w ≤ 6) ∧ 15 < many kd n.toNat), ?_, ?_⟩
  · refine ⟨_, rfl, _, _, rfl, rfl, _, rfl, ite2 (fun p => ?_) (fun p => ⟨_, rfl, iteF (iteF ⟨rfl, s6, fun z => p (decide_eq_true (by omega))⟩)⟩)⟩
    have p : 5 ≤ w := by have := of_decide_eq_true p; omega
    refine ⟨_, _, rfl, rfl, _, rfl, ite2 (fun p4 => ?_) (fun p4 => iteF ⟨rfl, s6, fun z => p4 (decide_eq_true (by omega))⟩)⟩
    have p4 : w ≤ 6 := by have := of_decide_eq_true p4; omega
    obtain ⟨m, rfl, hm⟩ := sz (by omega)
    rw [Int.toNat_natCast] at q ⊢
    refine ⟨_, rfl, _, rfl, kd, m, rfl, hm, fun H7 s7 => ⟨_, _, rfl, rfl, _, rfl, ite2 (fun p2 => ?_) (fun p2 => ⟨rfl, s6.trans s7, fun z => p2 (decide_eq_true (by omega))⟩)⟩⟩
    have p2 := of_decide_eq_true p2
    rw [if_pos ⟨⟨p, p4⟩, by omega⟩] at q
    exact q _ (s6.trans s7)
  rintro σ H7 ⟨rfl, s7, nf⟩
  rw [if_neg nf] at q
  exact q _ s7
theorem ok_law (D : Def K mg "law" s_law ["script"]) (mz : Bl mg) (h_law_kind_by : Has P w K mg base CX0 2 "_law_kind_by" ["script", "at", "bounds"] (sp_law_kind_by K w)) (h_law_cell_at : Has P w K mg base CX0 1 "_law_cell_at" ["script", "k"] (sp_law_cell_at K w)) (h_law_dyed_by : Has P w K mg base CX0 2 "_law_dyed_by" ["script", "at", "many", "count"] (sp_law_dyed_by K w)) (h_law_many : Has P w K mg base CX0 2 "_law_many" ["kind", "size"] (sp_law_many K w)) (h_law_due : Has P w K mg base CX0 3 "_law_due" ["which", "kind", "size", "count", "hues", "two"] (sp_law_due K w)) (h_law_told : Has P w K mg base CX0 22 "_law_told" ["which", "kind", "size", "count", "hues", "two"] (sp_law_told K w)) : Has P w K mg base CX0 23 "law" ["script"] (sp_law K w) := by
  refine D.ok sc_law (fun vs H Q E h => ?_) (fun f cdv A outer s H vs Q E hr h => ?_)
  · obtain ⟨a, ns, rfl, _⟩ := h
    rfl
  have hu := hu_of hr
  obtain ⟨a, ns, rfl, hS, hlen, q⟩ := h
  refine ⟨_, (pss_cons (ps_asg (pe_cal h_law_kind_by hr (by decide) rfl (pa_cons (pv 0) (pa_cons pe_int (pa_cons (pe_lst (pa_cons pe_int (pa_cons pe_int (pa_cons pe_int pa_nil)))) pa_nil)))) (pg_tup rfl (pgs_cons (pg_name (i := 1) sc_law.nd rfl (.inl rfl)) (pgs_cons (pg_name (i := 2) sc_law.nd rfl (.inl rfl)) pgs_nil))))
  (C8.pss_cut (ps_if (pt_cmpR op_gt (pe_op op_mod (pe_cal h_law_cell_at hr (by decide) rfl (pa_cons (pv 0) (pa_cons pe_int pa_nil))) pe_int) pe_int (nomark _)) (pss_one (ps_set (i := 2) sc_law.nd rfl (.inl rfl) (pe_op op_mod (pv 2) pe_int))) pss_nil)
  (pss_cons (ps_set (i := 3) sc_law.nd rfl (.inl rfl) (pe_op op_add pe_int (pe_op op_mod (pe_cal h_law_cell_at hr (by decide) rfl (pa_cons (pv 0) (pa_cons pe_int pa_nil))) pe_int)))
  (pss_cons (ps_set (i := 4) sc_law.nd rfl (.inl rfl) (pe_cal h_law_dyed_by hr (by decide) rfl (pa_cons (pv 0) (pa_cons pe_int (pa_cons (pe_cal h_law_many hr (by decide) rfl (pa_cons (pv 1) (pa_cons (pv 2) pa_nil))) (pa_cons (pv 3) pa_nil))))))
  (pss_cons (ps_set (i := 5) sc_law.nd rfl (.inl rfl) (pe_op op_mod (pe_cal h_law_cell_at hr (by decide) rfl (pa_cons (pv 0) (pa_cons pe_int pa_nil))) (pe_callB (call_max2 rfl) (by rfl) mz.max (by decide +kernel) (pa_cons pe_int (pa_cons (pe_callB call_len_seq (by rfl) mz.len PySem.boot_len (pa_cons (pv 4) pa_nil)) pa_nil)))))
  (pss_cons (ps_set (i := 6) sc_law.nd rfl (.inl rfl) (pe_op op_mod (pe_cal h_law_cell_at hr (by decide) rfl (pa_cons (pv 0) (pa_cons pe_int pa_nil))) pe_int))
  (C8.pss_cut (ps_if (PW.pt (pw_and (pt_cmpR op_eq (pv 6) pe_int (nomark _)) (pw_and1 (pt_cmpR op_gt (pe_callB call_len_seq (by rfl) mz.len PySem.boot_len (pa_cons (pv 4) pa_nil)) pe_int (nomark _))))) (pss_one (ps_asg (pe_ix ix_list (pe_lst (pa_cons (pe_un un_neg pe_int) (pa_cons (pv 3) (pa_cons pe_int (pa_cons (pe_un un_neg pe_int) pa_nil))))) (pe_op op_mod (pe_op op_fdiv (pe_cal h_law_cell_at hr (by decide) rfl (pa_cons (pv 0) (pa_cons pe_int pa_nil))) pe_int) pe_int) (fun _ _ => rfl)) (pg_sub (pv 4) (pv 5) set_list))) pss_nil)
  (C8.pss_cut (ps_if (PW.pt (pw_and (pt_cmpR op_eq (pv 6) pe_int (nomark _)) (pw_and1 (pt_cmpR op_gt (pe_callB call_len_seq (by rfl) mz.len PySem.boot_len (pa_cons (pv 4) pa_nil)) pe_int (nomark _))))) (pss_one (ps_expr (pe_bm PySem.F.plainAttrs_list PySem.F.slot_list_pop PySem.F.type_list_pop mt_popAt (pv 4) (pa_cons (pv 5) pa_nil)))) pss_nil)
  (C8.pss_cut (ps_if (pt_cmpR op_eq (pv 6) pe_int (nomark _)) (pss_one (ps_expr (pe_bm PySem.F.plainAttrs_list PySem.F.slot_list_insert PySem.F.type_list_insert mt_insert (pv 4) (pa_cons (pv 5) (pa_cons pe_int pa_nil))))) pss_nil)
  (C8.pss_cut (ps_if (pt_cmpR op_eq (pe_op op_mod (pe_cal h_law_cell_at hr (by decide) rfl (pa_cons (pv 0) (pa_cons pe_int pa_nil))) pe_int) pe_int (nomark _)) (pss_one (ps_set (i := 3) sc_law.nd rfl (.inl rfl) (pe_ix ix_list (pe_lst (pa_cons pe_int (pa_cons pe_int (pa_cons (pe_un un_neg pe_int) (pa_cons pe_int pa_nil))))) (pe_op op_mod (pe_cal h_law_cell_at hr (by decide) rfl (pa_cons (pv 0) (pa_cons pe_int pa_nil))) pe_int) (fun _ _ => rfl)))) pss_nil)
  (C8.pss_cut (ps_if (pt_cmpR op_eq (pe_op op_mod (pe_cal h_law_cell_at hr (by decide) rfl (pa_cons (pv 0) (pa_cons pe_int pa_nil))) pe_int) pe_int (nomark _)) (pss_one (ps_set (i := 2) sc_law.nd rfl (.inl rfl) (pe_ix ix_list (pe_lst (pa_cons (pe_un un_neg pe_int) (pa_cons (pe_ix ix_list (pe_lst (pa_cons pe_int (pa_cons pe_int pa_nil))) (pe_callTy call_int1 (by rfl) mz.int (by decide +kernel) (pa_cons (pe_cmpR op_ne (pv 1) pe_str (nomark _)) pa_nil)) (fun _ _ => rfl)) (pa_cons pe_int (pa_cons (pe_un un_neg pe_int) pa_nil))))) (pe_op op_mod (pe_op op_fdiv (pe_cal h_law_cell_at hr (by decide) rfl (pa_cons (pv 0) (pa_cons pe_int pa_nil))) pe_int) pe_int) (fun _ _ => rfl)))) pss_nil)
  (C8.pss_cut (ps_if (pt_cmpR op_eq (pe_op op_mod (pe_op op_fdiv (pe_cal h_law_cell_at hr (by decide) rfl (pa_cons (pv 0) (pa_cons pe_int pa_nil))) pe_int) pe_int) pe_int (nomark _)) (pss_one (ps_set (i := 1) sc_law.nd rfl (.inl rfl) (pe_ix ix_list (pe_lst (pa_cons pe_str (pa_cons pe_str (pa_cons pe_str (pa_cons pe_str (pa_cons pe_str (pa_cons pe_str (pa_cons pe_str pa_nil)))))))) (pe_op op_mod (pe_cal h_law_cell_at hr (by decide) rfl (pa_cons (pv 0) (pa_cons pe_int pa_nil))) pe_int) (fun _ _ => rfl)))) pss_nil)
  (pss_cons (ps_set (i := 7) sc_law.nd rfl (.inl rfl) (pe_op op_mod (pe_cal h_law_cell_at hr (by decide) rfl (pa_cons (pv 0) (pa_cons pe_int pa_nil))) pe_int))
  (pss_cons (ps_set (i := 8) sc_law.nd rfl (.inl rfl) (pe_callTy call_list_of (by rfl) mz.list (by decide +kernel) (pa_cons (pv 4) pa_nil)))
  (pss_cons (ps_set (i := 9) sc_law.nd rfl (.inl rfl) (pe_lst (pa_cons (pe_op op_sub (pe_op op_mod (pe_cal h_law_cell_at hr (by decide) rfl (pa_cons (pv 0) (pa_cons pe_int pa_nil))) pe_int) pe_int) (pa_cons (pe_op op_sub (pe_op op_mod (pe_cal h_law_cell_at hr (by decide) rfl (pa_cons (pv 0) (pa_cons pe_int pa_nil))) pe_int) pe_int) pa_nil))))
  (pss_cons (ps_set (i := 10) sc_law.nd rfl (.inl rfl) (pe_cal h_law_due hr (by decide) rfl (pa_cons (pv 7) (pa_cons (pv 1) (pa_cons (pv 2) (pa_cons (pv 3) (pa_cons (pv 4) (pa_cons (pv 9) pa_nil))))))))
  (pss_one (ps_ret (pe_and (pe_cmpR op_eq (pe_cal h_law_told hr (by decide) rfl (pa_cons (pv 7) (pa_cons (pv 1) (pa_cons (pv 2) (pa_cons (pv 3) (pa_cons (pv 8) (pa_cons (pv 9) pa_nil))))))) (pv 10) (nomark _)) (pe_one (pe_cmpR (op_eqD hr.units) (pv 8) (pv 4) (nomark _)))))))))))))))))))))), ?_⟩
  refine ⟨_, rfl, sl3, fun b hb => ?_⟩
  refine ⟨a, ns, 0, b, Kd.bd, rfl, (same_new hb _).seq hS, SqL.of upd_same, fun kd n H1 t hn s1 ht et => ?_⟩
  refine ⟨t, _, rfl, SqT.of et, rfl, _, _, rfl, _, _, rfl, rfl, ?_⟩
  have sA := (same_new hb (.lst [.int 9, .int 40, .int 40])).trans s1
  refine ⟨fun σ H' => ∃ m : Nat, σ = [some (.ref a), some (.str kd.str), some (.int m), none, none, none, none, none, none, none, none] ∧ m ≤ kd.bd ∧ Same H H', ?_, ?_⟩
  · refine ⟨_, rfl, a, ns, 9, rfl, sA.seq hS, _, _, rfl, rfl, (by show (0 : Int) < 3; decide), _, _, rfl, rfl, _, rfl, ite2 (fun _ => ?_) (fun _ => ⟨n, rfl, hn, sA⟩)⟩
    refine ⟨_, rfl, _, _, rfl, rfl, (by show (0 : Int) < 6; decide), ?_⟩
    refine ⟨n % 6, rfl, ?_, sA⟩
    exact Nat.le_trans (Nat.mod_le _ _) hn
  rintro σ H2 ⟨m, rfl, hm, s2⟩
  refine ⟨_, rfl, a, ns, 1, rfl, s2.seq hS, _, _, rfl, rfl, (by show (0 : Int) < 3; decide), _, _, rfl, rfl, ?_⟩
  obtain ⟨c, hc, ec⟩ := cnt_of (ns.getD 1 0)
  dsimp only
  rw [ec]
  refine ⟨_, rfl, _, rfl, _, rfl, kd, m, rfl, hm, fun H3 s3 => ⟨_, rfl, a, ns, 2, many kd m, c, rfl, (s2.trans s3).seq hS, many_le hm, hc, fun H4 d hs s4 hd ed ld bd => ?_⟩⟩
  have s5 := (s2.trans s3).trans s4
  have hd0 : H d = none := (s2.trans s3).free hd
  have l40 : hs.length ≤ 40 := by rw [ld]; exact many_le hm
  refine ⟨_, rfl, a, ns, 7, rfl, s5.seq hS, _, rfl, d, _, rfl, .inl (SqL.of ed), _, _, rfl, ?_⟩
  rw [List.length_map]
  obtain ⟨M, hM, hM1, hMl⟩ : ∃ M : Int, (if ((hs.length : Nat) : Int) > 1 then ((hs.length : Nat) : Int) else 1) = M ∧ 0 < M ∧ (0 < hs.length → M = hs.length) := by
    by_cases z : ((hs.length : Nat) : Int) > 1
    · exact ⟨_, if_pos z, by omega, fun _ => rfl⟩
    · exact ⟨_, if_neg z, by decide, fun y => by omega⟩
  dsimp only
  rw [hM]
  refine ⟨_, _, rfl, rfl, hM1, ?_⟩
  obtain ⟨j, ej⟩ : ∃ j : Nat, ns.getD 7 0 % M = (j : Int) := ⟨(ns.getD 7 0 % M).toNat, by
    have := Int.emod_nonneg (ns.getD 7 0) (show M ≠ 0 by omega)
    omega⟩
  have hj : 0 < hs.length → j < hs.length := fun z => by
    have y := Int.emod_lt_of_pos (ns.getD 7 0) hM1
    have := hMl z
    omega
  have hj40 : j ≤ 40 := by
    have y := Int.emod_lt_of_pos (ns.getD 7 0) hM1
    by_cases z : 0 < hs.length
    · have := hj z
      omega
    · have : M = 1 := by
        rw [← hM]
        exact if_neg (by omega)
      omega
  dsimp only
  rw [ej]
  refine ⟨_, rfl, a, ns, 8, rfl, s5.seq hS, _, _, rfl, rfl, (by show (0 : Int) < 12; decide), ?_⟩
  dsimp only
  generalize ns.getD 8 0 % 12 = how
  refine ⟨fun σ H' => ∃ hs' : List Int, σ = [some (.ref a), some (.str kd.str), some (.int m), some (.int c), some (.ref d), some (.int j), some (.int how), none, none, none, none] ∧ Same H H' ∧ H' d = some (.lst (hs'.map V.int)) ∧ hs'.length = hs.length, ?_, ?_⟩
  · refine ⟨_, rfl, rfl, _, rfl, ite2 (fun _ => ?_) (fun _ => iteF ⟨hs, rfl, s5, ed, rfl⟩)⟩
    refine ⟨_, rfl, d, _, rfl, .inl (SqL.of ed), _, _, rfl, rfl, _, rfl, ite2 (fun p => ?_) (fun _ => ⟨hs, rfl, s5, ed, rfl⟩)⟩
    have p : 0 < hs.length := by
      have := of_decide_eq_true p
      rw [List.length_map] at this
      omega
    refine ⟨_, rfl, _, rfl, _, rfl, sl4, fun l hl => ?_⟩
    obtain ⟨w0, hw0⟩ := at4 (-1) (c : Int) 100 (-100) (ns.getD 7 0 / 40)
    have s6 := s5.trans (same_new hl (.lst [.int (-1), .int (c : Int), .int 100, .int (-100)]))
    have ed6 := (same_new (H := H4) hl (.lst [.int (-1), .int (c : Int), .int 100, .int (-100)])) _ _ ed
    refine ⟨_, rfl, a, ns, 7, rfl, s6.seq hS, _, _, rfl, rfl, ⟨by decide, by decide⟩, _, _, rfl, rfl, (by show (0 : Int) < 4; decide), l, _, _, _, rfl, rfl, SqL.of upd_same, hw0, ?_⟩
    refine ⟨_, rfl, _, rfl, d, _, j, j, rfl, rfl, ed6, ixN_nat (by rw [List.length_map]; exact hj p), ?_⟩
    refine ⟨hs.set j w0, rfl, same_upd s6 hd0 _, ?_, List.length_set⟩
    rw [upd_same, List.map_set]
  rintro σ H5 ⟨hs1, rfl, s6, e6, l6⟩
  refine ⟨fun σ H' => ∃ hs' : List Int, σ = [some (.ref a), some (.str kd.str), some (.int m), some (.int c), some (.ref d), some (.int j), some (.int how), none, none, none, none] ∧ Same H H' ∧ H' d = some (.lst (hs'.map V.int)) ∧ hs'.length ≤ 40, ?_, ?_⟩
  · refine ⟨_, rfl, rfl, _, rfl, ite2 (fun _ => ?_) (fun _ => iteF ⟨hs1, rfl, s6, e6, by omega⟩)⟩
    refine ⟨_, rfl, d, _, rfl, .inl (SqL.of e6), _, _, rfl, rfl, _, rfl, ite2 (fun p => ?_) (fun _ => ⟨hs1, rfl, s6, e6, by omega⟩)⟩
    have p : 0 < hs.length := by
      have := of_decide_eq_true p
      rw [List.length_map] at this
      omega
    have hj1 : j < hs1.length := by
      rw [l6]
      exact hj p
    refine ⟨_, rfl, .inl ⟨rfl, _, SqL.of e6⟩, _, rfl, d, _, j, j, _, rfl, rfl, e6, by omega, by omega, (ixN_seq (ixN_nat (by rw [List.length_map]; exact hj1))).1, getV_int hj1, ?_⟩
    refine ⟨hs1.eraseIdx j, rfl, same_upd s6 hd0 _, ?_, ?_⟩
    · rw [upd_same, erase_map]
    · have := List.length_eraseIdx_le hs1 j
      omega
  rintro σ H6 ⟨hs2, rfl, s7, e7, l7⟩
  refine ⟨fun σ H' => ∃ hs' : List Int, σ = [some (.ref a), some (.str kd.str), some (.int m), some (.int c), some (.ref d), some (.int j), some (.int how), none, none, none, none] ∧ Same H H' ∧ H' d = some (.lst (hs'.map V.int)) ∧ hs'.length ≤ 100, ?_, ?_⟩
  · refine ⟨_, rfl, rfl, _, rfl, ite2 (fun _ => ?_) (fun _ => ⟨hs2, rfl, s7, e7, by omega⟩)⟩
    refine ⟨_, rfl, .inl ⟨rfl, _, SqL.of e7⟩, _, rfl, d, _, j, _, rfl, rfl, e7, by rw [List.length_map]; exact sl_lt (by omega), by omega, by omega, ?_⟩
    refine ⟨hs2.take j ++ [0] ++ hs2.drop j, rfl, same_upd s7 hd0 _, ?_, ?_⟩
    · rw [upd_same, Int.toNat_natCast, List.map_append, List.map_append, List.map_take, List.map_drop]
      rfl
    · simp only [List.length_append, List.length_take, List.length_drop, List.length_singleton]
      omega
  rintro σ H7 ⟨hs3, rfl, s8, e8, l8⟩
  refine ⟨fun σ H' => ∃ c' : Int, σ = [some (.ref a), some (.str kd.str), some (.int m), some (.int c'), some (.ref d), some (.int j), some (.int how), none, none, none, none] ∧ Same H H' ∧ H' d = some (.lst (hs3.map V.int)), ?_, ?_⟩
  · refine ⟨_, rfl, a, ns, 5, rfl, s8.seq hS, _, _, rfl, rfl, (by show (0 : Int) < 6; decide), rfl, _, rfl, ite2 (fun _ => ?_) (fun _ => ⟨_, rfl, s8, e8⟩)⟩
    refine ⟨_, rfl, sl4, fun l hl => ?_⟩
    obtain ⟨w0, hw0⟩ := at4 0 4 (-1) 100 (ns.getD 1 0)
    have s9 := s8.trans (same_new hl (.lst [.int 0, .int 4, .int (-1), .int 100]))
    have e9 := (same_new (H := H7) hl (.lst [.int 0, .int 4, .int (-1), .int 100])) _ _ e8
    exact ⟨_, rfl, a, ns, 1, rfl, s9.seq hS, _, _, rfl, rfl, (by show (0 : Int) < 4; decide), l, _, _, _, rfl, rfl, SqL.of upd_same, hw0, w0, rfl, s9, e9⟩
  rintro σ H8 ⟨c', rfl, s9, e9⟩
  refine ⟨fun σ H' => ∃ n' : Int, σ = [some (.ref a), some (.str kd.str), some (.int n'), some (.int c'), some (.ref d), some (.int j), some (.int how), none, none, none, none] ∧ Same H H' ∧ H' d = some (.lst (hs3.map V.int)), ?_, ?_⟩
  · refine ⟨_, rfl, a, ns, 6, rfl, s9.seq hS, _, _, rfl, rfl, (by show (0 : Int) < 6; decide), rfl, _, rfl, ite2 (fun _ => ?_) (fun _ => ⟨_, rfl, s9, e9⟩)⟩
    refine ⟨_, rfl, sl2, fun l hl => ?_⟩
    have t1 := same_new (H := H8) hl (.lst [.int 10, .int 41])
    refine ⟨_, rfl, rfl, .inr ⟨_, rfl, l, _, _, .int (if kd = .pairs then 10 else 41), rfl, rfl, SqL.of upd_same, (by cases kd <;> rfl), ?_⟩⟩
    refine ⟨_, rfl, sl4, fun l2 hl2 => ?_⟩
    obtain ⟨w0, hw0⟩ := at4 (-1) (if kd = .pairs then 10 else 41) 100 (-100) (ns.getD 1 0 / 4)
    have t2 := t1.trans (same_new hl2 (.lst [.int (-1), .int (if kd = .pairs then 10 else 41), .int 100, .int (-100)]))
    exact ⟨_, rfl, a, ns, 1, rfl, (s9.trans t2).seq hS, _, _, rfl, rfl, ⟨by decide, by decide⟩, _, _, rfl, rfl, (by show (0 : Int) < 4; decide), l2, _, _, _, rfl, rfl, SqL.of upd_same, hw0, w0, rfl, s9.trans t2, t2 _ _ e9⟩
  rintro σ H9 ⟨n', rfl, s10, e10⟩
  refine ⟨fun σ H' => ∃ ks : Str, σ = [some (.ref a), some (.str ks), some (.int n'), some (.int c'), some (.ref d), some (.int j), some (.int how), none, none, none, none] ∧ (BadK ks ∨ ∃ kd : Kd, ks = kd.str) ∧ Same H H' ∧ H' d = some (.lst (hs3.map V.int)), ?_, ?_⟩
  · refine ⟨_, rfl, a, ns, 6, rfl, s10.seq hS, _, _, rfl, rfl, ⟨by decide, by decide⟩, _, _, rfl, rfl, (by show (0 : Int) < 6; decide), rfl, _, rfl, ite2 (fun _ => ?_) (fun _ => ⟨_, rfl, .inr ⟨kd, rfl⟩, s10, e10⟩)⟩
    refine ⟨sl_le (n := 7) (by decide), fun l hl => ?_⟩
    obtain ⟨ks, hk, hw0⟩ := at7 (ns.getD 0 0)
    have t1 := same_new (H := H9) hl (.lst [.str "", .str "pair", .str "Pairs", .str "sums ", .str "step", .str "stepss", .str "pairsums"])
    exact ⟨_, rfl, a, ns, 0, rfl, (s10.trans t1).seq hS, _, _, rfl, rfl, (by show (0 : Int) < 7; decide), l, _, _, _, rfl, rfl, SqL.of upd_same, hw0, ks, rfl, .inl hk, s10.trans t1, t1 _ _ e10⟩
  rintro σ HA ⟨ks, rfl, kk, s11, e11⟩
  refine ⟨_, rfl, a, ns, 10, rfl, s11.seq hS, _, _, rfl, rfl, (by show (0 : Int) < 8; decide), ?_⟩
  obtain ⟨w, hw, ew⟩ : ∃ w : Nat, w < 8 ∧ ns.getD 10 0 % 8 = (w : Int) := ⟨(ns.getD 10 0 % 8).toNat, by omega, by omega⟩
  dsimp only
  rw [ew]
  refine ⟨_, rfl, d, _, rfl, .inl (SqL.of e11), fun g hg => ?_⟩
  have t1 := same_new (H := HA) hg (.lst (hs3.map V.int))
  have eg : (upd HA g (.lst (hs3.map V.int))) g = some (.lst (hs3.map V.int)) := upd_same
  have eD := t1 _ _ e11
  have s12 := s11.trans t1
  generalize upd HA g (.lst (hs3.map V.int)) = HB at eg eD s12
  refine ⟨_, rfl, a, ns, 11, rfl, s12.seq hS, _, _, rfl, rfl, (by show (0 : Int) < 5; decide), _, _, rfl, rfl, ?_⟩
  refine ⟨_, rfl, a, ns, 12, rfl, s12.seq hS, _, _, rfl, rfl, (by show (0 : Int) < 5; decide), _, _, rfl, rfl, ?_⟩
  refine ⟨sl2, fun tw htw => ?_⟩
  dsimp only
  generalize ns.getD 11 0 % 5 - 1 = u
  generalize ns.getD 12 0 % 5 - 1 = v
  have t2 := same_new (H := HB) htw (.lst [.int u, .int v])
  have et2 : (upd HB tw (.lst [.int u, .int v])) tw = some (.lst [.int u, .int v]) := upd_same
  have eg2 := t2 _ _ eg
  have eD2 := t2 _ _ eD
  generalize upd HB tw (.lst [.int u, .int v]) = HC at et2 eg2 eD2
  refine ⟨_, rfl, _, rfl, _, rfl, _, rfl, _, rfl, _, rfl, w, ks, n', c', d, hs3, tw, u, v, rfl, hw, SqL.of eD2, l8, SqL.of et2, kk, fun r HD hr' t3 => ?_⟩
  refine ⟨_, rfl, _, rfl, _, rfl, _, rfl, _, rfl, _, rfl, w, ks, n', c', g, hs3, tw, u, v, r, rfl, hw, SqL.of (t3 _ _ eg2), SqL.of (t3 _ _ et2), hr', fun HE t4 => ?_⟩
  refine ⟨_, rfl, rfl, _, rfl, iteC (decide_eq_true rfl) ?_⟩
  have t34 := t3.trans t4
  refine ⟨_, rfl, _, rfl, _, _, dpIntL (SqL.of (t34 _ _ eg2)), dpIntL (SqL.of (t34 _ _ eD2)), ints_shaped _, ints_shaped _, ?_⟩
  rw [lst_eqv, decide_eq_true rfl]
  exact q _
end
theorem all_mk {P : Program} {w : World} {K : PySem.W.Frag} {h : Heap} {mg : Str → Option Value} {fa : Addr} (X : K.In h) (G : h.Ns mainGlobals mg) (hmg : mg "law" = some (.ref fa))
    {f0 : Addr} {od0 an0 : Option Addr} {sl0 : Array (Option Value)} {oc0 kV0 dc0 pm0 cd0 ct0 : Value} (a0 : PySem.W.nsIn K mainGlobals "_law_cell_at" = some (some (.ref f0))) (l0 : K.lookup f0 = some ⟨oc0, od0, .func (PySem.W.fnOf "_law_cell_at" "_law_cell_at" (defArgs s_law_cell_at) (defBody s_law_cell_at) (defScope s_law_cell_at) .none kV0 dc0 pm0 an0 cd0 ct0), sl0⟩) (c0 : PySem.W.codeIn K cd0 "_law_cell_at" = true) (k0 : PySem.W.keepIn K (.ref f0) = true)
    {f1 : Addr} {od1 an1 : Option Addr} {sl1 : Array (Option Value)} {oc1 kV1 dc1 pm1 cd1 ct1 : Value} (a1 : PySem.W.nsIn K mainGlobals "_law_pairs" = some (some (.ref f1))) (l1 : K.lookup f1 = some ⟨oc1, od1, .func (PySem.W.fnOf "_law_pairs" "_law_pairs" (defArgs s_law_pairs) (defBody s_law_pairs) (defScope s_law_pairs) .none kV1 dc1 pm1 an1 cd1 ct1), sl1⟩) (c1 : PySem.W.codeIn K cd1 "_law_pairs" = true) (k1 : PySem.W.keepIn K (.ref f1) = true)
    {f2 : Addr} {od2 an2 : Option Addr} {sl2 : Array (Option Value)} {oc2 kV2 dc2 pm2 cd2 ct2 : Value} (a2 : PySem.W.nsIn K mainGlobals "_law_many" = some (some (.ref f2))) (l2 : K.lookup f2 = some ⟨oc2, od2, .func (PySem.W.fnOf "_law_many" "_law_many" (defArgs s_law_many) (defBody s_law_many) (defScope s_law_many) .none kV2 dc2 pm2 an2 cd2 ct2), sl2⟩) (c2 : PySem.W.codeIn K cd2 "_law_many" = true) (k2 : PySem.W.keepIn K (.ref f2) = true)
    {f3 : Addr} {od3 an3 : Option Addr} {sl3 : Array (Option Value)} {oc3 kV3 dc3 pm3 cd3 ct3 : Value} (a3 : PySem.W.nsIn K mainGlobals "_law_kind_by" = some (some (.ref f3))) (l3 : K.lookup f3 = some ⟨oc3, od3, .func (PySem.W.fnOf "_law_kind_by" "_law_kind_by" (defArgs s_law_kind_by) (defBody s_law_kind_by) (defScope s_law_kind_by) .none kV3 dc3 pm3 an3 cd3 ct3), sl3⟩) (c3 : PySem.W.codeIn K cd3 "_law_kind_by" = true) (k3 : PySem.W.keepIn K (.ref f3) = true)
    {f4 : Addr} {od4 an4 : Option Addr} {sl4 : Array (Option Value)} {oc4 kV4 dc4 pm4 cd4 ct4 : Value} (a4 : PySem.W.nsIn K mainGlobals "asked_kind" = some (some (.ref f4))) (l4 : K.lookup f4 = some ⟨oc4, od4, .func (PySem.W.fnOf "asked_kind" "asked_kind" (defArgs s_asked_kind) (defBody s_asked_kind) (defScope s_asked_kind) .none kV4 dc4 pm4 an4 cd4 ct4), sl4⟩) (c4 : PySem.W.codeIn K cd4 "asked_kind" = true) (k4 : PySem.W.keepIn K (.ref f4) = true)
    {f5 : Addr} {od5 an5 : Option Addr} {sl5 : Array (Option Value)} {oc5 kV5 dc5 pm5 cd5 ct5 : Value} (a5 : PySem.W.nsIn K mainGlobals "asked_size" = some (some (.ref f5))) (l5 : K.lookup f5 = some ⟨oc5, od5, .func (PySem.W.fnOf "asked_size" "asked_size" (defArgs s_asked_size) (defBody s_asked_size) (defScope s_asked_size) .none kV5 dc5 pm5 an5 cd5 ct5), sl5⟩) (c5 : PySem.W.codeIn K cd5 "asked_size" = true) (k5 : PySem.W.keepIn K (.ref f5) = true)
    {f6 : Addr} {od6 an6 : Option Addr} {sl6 : Array (Option Value)} {oc6 kV6 dc6 pm6 cd6 ct6 : Value} (a6 : PySem.W.nsIn K mainGlobals "things" = some (some (.ref f6))) (l6 : K.lookup f6 = some ⟨oc6, od6, .func (PySem.W.fnOf "things" "things" (defArgs s_things) (defBody s_things) (defScope s_things) .none kV6 dc6 pm6 an6 cd6 ct6), sl6⟩) (c6 : PySem.W.codeIn K cd6 "things" = true) (k6 : PySem.W.keepIn K (.ref f6) = true)
    {f7 : Addr} {od7 an7 : Option Addr} {sl7 : Array (Option Value)} {oc7 kV7 dc7 pm7 cd7 ct7 : Value} (a7 : PySem.W.nsIn K mainGlobals "pair_numbers" = some (some (.ref f7))) (l7 : K.lookup f7 = some ⟨oc7, od7, .func (PySem.W.fnOf "pair_numbers" "pair_numbers" (defArgs s_pair_numbers) (defBody s_pair_numbers) (defScope s_pair_numbers) .none kV7 dc7 pm7 an7 cd7 ct7), sl7⟩) (c7 : PySem.W.codeIn K cd7 "pair_numbers" = true) (k7 : PySem.W.keepIn K (.ref f7) = true)
    {f8 : Addr} {od8 an8 : Option Addr} {sl8 : Array (Option Value)} {oc8 kV8 dc8 pm8 cd8 ct8 : Value} (a8 : PySem.W.nsIn K mainGlobals "pair_triples" = some (some (.ref f8))) (l8 : K.lookup f8 = some ⟨oc8, od8, .func (PySem.W.fnOf "pair_triples" "pair_triples" (defArgs s_pair_triples) (defBody s_pair_triples) (defScope s_pair_triples) .none kV8 dc8 pm8 an8 cd8 ct8), sl8⟩) (c8 : PySem.W.codeIn K cd8 "pair_triples" = true) (k8 : PySem.W.keepIn K (.ref f8) = true)
    {f9 : Addr} {od9 an9 : Option Addr} {sl9 : Array (Option Value)} {oc9 kV9 dc9 pm9 cd9 ct9 : Value} (a9 : PySem.W.nsIn K mainGlobals "triples" = some (some (.ref f9))) (l9 : K.lookup f9 = some ⟨oc9, od9, .func (PySem.W.fnOf "triples" "triples" (defArgs s_triples) (defBody s_triples) (defScope s_triples) .none kV9 dc9 pm9 an9 cd9 ct9), sl9⟩) (c9 : PySem.W.codeIn K cd9 "triples" = true) (k9 : PySem.W.keepIn K (.ref f9) = true)
    {f10 : Addr} {od10 an10 : Option Addr} {sl10 : Array (Option Value)} {oc10 kV10 dc10 pm10 cd10 ct10 : Value} (a10 : PySem.W.nsIn K mainGlobals "asked_hues" = some (some (.ref f10))) (l10 : K.lookup f10 = some ⟨oc10, od10, .func (PySem.W.fnOf "asked_hues" "asked_hues" (defArgs s_asked_hues) (defBody s_asked_hues) (defScope s_asked_hues) .none kV10 dc10 pm10 an10 cd10 ct10), sl10⟩) (c10 : PySem.W.codeIn K cd10 "asked_hues" = true) (k10 : PySem.W.keepIn K (.ref f10) = true)
    {f11 : Addr} {od11 an11 : Option Addr} {sl11 : Array (Option Value)} {oc11 kV11 dc11 pm11 cd11 ct11 : Value} (a11 : PySem.W.nsIn K mainGlobals "asked_dyeing" = some (some (.ref f11))) (l11 : K.lookup f11 = some ⟨oc11, od11, .func (PySem.W.fnOf "asked_dyeing" "asked_dyeing" (defArgs s_asked_dyeing) (defBody s_asked_dyeing) (defScope s_asked_dyeing) .none kV11 dc11 pm11 an11 cd11 ct11), sl11⟩) (c11 : PySem.W.codeIn K cd11 "asked_dyeing" = true) (k11 : PySem.W.keepIn K (.ref f11) = true)
    {f12 : Addr} {od12 an12 : Option Addr} {sl12 : Array (Option Value)} {oc12 kV12 dc12 pm12 cd12 ct12 : Value} (a12 : PySem.W.nsIn K mainGlobals "one_hued" = some (some (.ref f12))) (l12 : K.lookup f12 = some ⟨oc12, od12, .func (PySem.W.fnOf "one_hued" "one_hued" (defArgs s_one_hued) (defBody s_one_hued) (defScope s_one_hued) .none kV12 dc12 pm12 an12 cd12 ct12), sl12⟩) (c12 : PySem.W.codeIn K cd12 "one_hued" = true) (k12 : PySem.W.keepIn K (.ref f12) = true)
    {f13 : Addr} {od13 an13 : Option Addr} {sl13 : Array (Option Value)} {oc13 kV13 dc13 pm13 cd13 ct13 : Value} (a13 : PySem.W.nsIn K mainGlobals "is_free" = some (some (.ref f13))) (l13 : K.lookup f13 = some ⟨oc13, od13, .func (PySem.W.fnOf "is_free" "is_free" (defArgs s_is_free) (defBody s_is_free) (defScope s_is_free) .none kV13 dc13 pm13 an13 cd13 ct13), sl13⟩) (c13 : PySem.W.codeIn K cd13 "is_free" = true) (k13 : PySem.W.keepIn K (.ref f13) = true)
    {f14 : Addr} {od14 an14 : Option Addr} {sl14 : Array (Option Value)} {oc14 kV14 dc14 pm14 cd14 ct14 : Value} (a14 : PySem.W.nsIn K mainGlobals "_law_stirred" = some (some (.ref f14))) (l14 : K.lookup f14 = some ⟨oc14, od14, .func (PySem.W.fnOf "_law_stirred" "_law_stirred" (defArgs s_law_stirred) (defBody s_law_stirred) (defScope s_law_stirred) .none kV14 dc14 pm14 an14 cd14 ct14), sl14⟩) (c14 : PySem.W.codeIn K cd14 "_law_stirred" = true) (k14 : PySem.W.keepIn K (.ref f14) = true)
    {f15 : Addr} {od15 an15 : Option Addr} {sl15 : Array (Option Value)} {oc15 kV15 dc15 pm15 cd15 ct15 : Value} (a15 : PySem.W.nsIn K mainGlobals "_law_dyed_by" = some (some (.ref f15))) (l15 : K.lookup f15 = some ⟨oc15, od15, .func (PySem.W.fnOf "_law_dyed_by" "_law_dyed_by" (defArgs s_law_dyed_by) (defBody s_law_dyed_by) (defScope s_law_dyed_by) .none kV15 dc15 pm15 an15 cd15 ct15), sl15⟩) (c15 : PySem.W.codeIn K cd15 "_law_dyed_by" = true) (k15 : PySem.W.keepIn K (.ref f15) = true)
    {f16 : Addr} {od16 an16 : Option Addr} {sl16 : Array (Option Value)} {oc16 kV16 dc16 pm16 cd16 ct16 : Value} (a16 : PySem.W.nsIn K mainGlobals "by_last" = some (some (.ref f16))) (l16 : K.lookup f16 = some ⟨oc16, od16, .func (PySem.W.fnOf "by_last" "by_last" (defArgs s_by_last) (defBody s_by_last) (defScope s_by_last) .none kV16 dc16 pm16 an16 cd16 ct16), sl16⟩) (c16 : PySem.W.codeIn K cd16 "by_last" = true) (k16 : PySem.W.keepIn K (.ref f16) = true)
    {f17 : Addr} {od17 an17 : Option Addr} {sl17 : Array (Option Value)} {oc17 kV17 dc17 pm17 cd17 ct17 : Value} (a17 : PySem.W.nsIn K mainGlobals "fits" = some (some (.ref f17))) (l17 : K.lookup f17 = some ⟨oc17, od17, .func (PySem.W.fnOf "fits" "fits" (defArgs s_fits) (defBody s_fits) (defScope s_fits) .none kV17 dc17 pm17 an17 cd17 ct17), sl17⟩) (c17 : PySem.W.codeIn K cd17 "fits" = true) (k17 : PySem.W.keepIn K (.ref f17) = true)
    {f18 : Addr} {od18 an18 : Option Addr} {sl18 : Array (Option Value)} {oc18 kV18 dc18 pm18 cd18 ct18 : Value} (a18 : PySem.W.nsIn K mainGlobals "asked_search" = some (some (.ref f18))) (l18 : K.lookup f18 = some ⟨oc18, od18, .func (PySem.W.fnOf "asked_search" "asked_search" (defArgs s_asked_search) (defBody s_asked_search) (defScope s_asked_search) .none kV18 dc18 pm18 an18 cd18 ct18), sl18⟩) (c18 : PySem.W.codeIn K cd18 "asked_search" = true) (k18 : PySem.W.keepIn K (.ref f18) = true)
    {f19 : Addr} {od19 an19 : Option Addr} {sl19 : Array (Option Value)} {oc19 kV19 dc19 pm19 cd19 ct19 : Value} (a19 : PySem.W.nsIn K mainGlobals "first_from" = some (some (.ref f19))) (l19 : K.lookup f19 = some ⟨oc19, od19, .func (PySem.W.fnOf "first_from" "first_from" (defArgs s_first_from) (defBody s_first_from) (defScope s_first_from) .none kV19 dc19 pm19 an19 cd19 ct19), sl19⟩) (c19 : PySem.W.codeIn K cd19 "first_from" = true) (k19 : PySem.W.keepIn K (.ref f19) = true)
    {f20 : Addr} {od20 an20 : Option Addr} {sl20 : Array (Option Value)} {oc20 kV20 dc20 pm20 cd20 ct20 : Value} (a20 : PySem.W.nsIn K mainGlobals "first_free" = some (some (.ref f20))) (l20 : K.lookup f20 = some ⟨oc20, od20, .func (PySem.W.fnOf "first_free" "first_free" (defArgs s_first_free) (defBody s_first_free) (defScope s_first_free) .none kV20 dc20 pm20 an20 cd20 ct20), sl20⟩) (c20 : PySem.W.codeIn K cd20 "first_free" = true) (k20 : PySem.W.keepIn K (.ref f20) = true)
    {f21 : Addr} {od21 an21 : Option Addr} {sl21 : Array (Option Value)} {oc21 kV21 dc21 pm21 cd21 ct21 : Value} (a21 : PySem.W.nsIn K mainGlobals "count_from" = some (some (.ref f21))) (l21 : K.lookup f21 = some ⟨oc21, od21, .func (PySem.W.fnOf "count_from" "count_from" (defArgs s_count_from) (defBody s_count_from) (defScope s_count_from) .none kV21 dc21 pm21 an21 cd21 ct21), sl21⟩) (c21 : PySem.W.codeIn K cd21 "count_from" = true) (k21 : PySem.W.keepIn K (.ref f21) = true)
    {f22 : Addr} {od22 an22 : Option Addr} {sl22 : Array (Option Value)} {oc22 kV22 dc22 pm22 cd22 ct22 : Value} (a22 : PySem.W.nsIn K mainGlobals "how_many" = some (some (.ref f22))) (l22 : K.lookup f22 = some ⟨oc22, od22, .func (PySem.W.fnOf "how_many" "how_many" (defArgs s_how_many) (defBody s_how_many) (defScope s_how_many) .none kV22 dc22 pm22 an22 cd22 ct22), sl22⟩) (c22 : PySem.W.codeIn K cd22 "how_many" = true) (k22 : PySem.W.keepIn K (.ref f22) = true)
    {f23 : Addr} {od23 an23 : Option Addr} {sl23 : Array (Option Value)} {oc23 kV23 dc23 pm23 cd23 ct23 : Value} (a23 : PySem.W.nsIn K mainGlobals "_law_other" = some (some (.ref f23))) (l23 : K.lookup f23 = some ⟨oc23, od23, .func (PySem.W.fnOf "_law_other" "_law_other" (defArgs s_law_other) (defBody s_law_other) (defScope s_law_other) .none kV23 dc23 pm23 an23 cd23 ct23), sl23⟩) (c23 : PySem.W.codeIn K cd23 "_law_other" = true) (k23 : PySem.W.keepIn K (.ref f23) = true)
    {f24 : Addr} {od24 an24 : Option Addr} {sl24 : Array (Option Value)} {oc24 kV24 dc24 pm24 cd24 ct24 : Value} (a24 : PySem.W.nsIn K mainGlobals "first_size" = some (some (.ref f24))) (l24 : K.lookup f24 = some ⟨oc24, od24, .func (PySem.W.fnOf "first_size" "first_size" (defArgs s_first_size) (defBody s_first_size) (defScope s_first_size) .none kV24 dc24 pm24 an24 cd24 ct24), sl24⟩) (c24 : PySem.W.codeIn K cd24 "first_size" = true) (k24 : PySem.W.keepIn K (.ref f24) = true)
    {f25 : Addr} {od25 an25 : Option Addr} {sl25 : Array (Option Value)} {oc25 kV25 dc25 pm25 cd25 ct25 : Value} (a25 : PySem.W.nsIn K mainGlobals "exchanged" = some (some (.ref f25))) (l25 : K.lookup f25 = some ⟨oc25, od25, .func (PySem.W.fnOf "exchanged" "exchanged" (defArgs s_exchanged) (defBody s_exchanged) (defScope s_exchanged) .none kV25 dc25 pm25 an25 cd25 ct25), sl25⟩) (c25 : PySem.W.codeIn K cd25 "exchanged" = true) (k25 : PySem.W.keepIn K (.ref f25) = true)
    {f26 : Addr} {od26 an26 : Option Addr} {sl26 : Array (Option Value)} {oc26 kV26 dc26 pm26 cd26 ct26 : Value} (a26 : PySem.W.nsIn K mainGlobals "_law_called" = some (some (.ref f26))) (l26 : K.lookup f26 = some ⟨oc26, od26, .func (PySem.W.fnOf "_law_called" "_law_called" (defArgs s_law_called) (defBody s_law_called) (defScope s_law_called) .none kV26 dc26 pm26 an26 cd26 ct26), sl26⟩) (c26 : PySem.W.codeIn K cd26 "_law_called" = true) (k26 : PySem.W.keepIn K (.ref f26) = true)
    {f27 : Addr} {od27 an27 : Option Addr} {sl27 : Array (Option Value)} {oc27 kV27 dc27 pm27 cd27 ct27 : Value} (a27 : PySem.W.nsIn K mainGlobals "_law_told" = some (some (.ref f27))) (l27 : K.lookup f27 = some ⟨oc27, od27, .func (PySem.W.fnOf "_law_told" "_law_told" (defArgs s_law_told) (defBody s_law_told) (defScope s_law_told) .none kV27 dc27 pm27 an27 cd27 ct27), sl27⟩) (c27 : PySem.W.codeIn K cd27 "_law_told" = true) (k27 : PySem.W.keepIn K (.ref f27) = true)
    {f28 : Addr} {od28 an28 : Option Addr} {sl28 : Array (Option Value)} {oc28 kV28 dc28 pm28 cd28 ct28 : Value} (a28 : PySem.W.nsIn K mainGlobals "_law_due" = some (some (.ref f28))) (l28 : K.lookup f28 = some ⟨oc28, od28, .func (PySem.W.fnOf "_law_due" "_law_due" (defArgs s_law_due) (defBody s_law_due) (defScope s_law_due) .none kV28 dc28 pm28 an28 cd28 ct28), sl28⟩) (c28 : PySem.W.codeIn K cd28 "_law_due" = true) (k28 : PySem.W.keepIn K (.ref f28) = true)
    {f29 : Addr} {od29 an29 : Option Addr} {sl29 : Array (Option Value)} {oc29 kV29 dc29 pm29 cd29 ct29 : Value} (a29 : PySem.W.nsIn K mainGlobals "law" = some (some (.ref f29))) (l29 : K.lookup f29 = some ⟨oc29, od29, .func (PySem.W.fnOf "law" "law" (defArgs s_law) (defBody s_law) (defScope s_law) .none kV29 dc29 pm29 an29 cd29 ct29), sl29⟩) (c29 : PySem.W.codeIn K cd29 "law" = true) (k29 : PySem.W.keepIn K (.ref f29) = true)
    (z0 : PySem.W.nsIn K mainGlobals "len" = some none)
    (z1 : PySem.W.nsIn K mainGlobals "sorted" = some none)
    (z2 : PySem.W.nsIn K mainGlobals "range" = some none)
    (z3 : PySem.W.nsIn K mainGlobals "isinstance" = some none)
    (z4 : PySem.W.nsIn K mainGlobals "int" = some none)
    (z5 : PySem.W.nsIn K mainGlobals "bool" = some none)
    (z6 : PySem.W.nsIn K mainGlobals "list" = some none)
    (z7 : PySem.W.nsIn K mainGlobals "tuple" = some none)
    (z8 : PySem.W.nsIn K mainGlobals "min" = some none)
    (z9 : PySem.W.nsIn K mainGlobals "max" = some none)
    (z10 : PySem.W.nsIn K mainGlobals "zip" = some none)
    {g : Addr} {es : Array DictEntry} {gn : Nat} {t1 t2 t3 : Tok} (ga : PySem.W.nsIn K mainGlobals "GREATEST" = some (some (.ref g))) (gl : K.lookup g = some ⟨.type "dict", none, .dict es gn, #[]⟩) (gh : PySem.W.KeysLit w.params es.toList) (glow : (g == sysModules) = false) (gp : PySem.W.nsIn K g "pairs" = some (some (.int 9 t1))) (gs : PySem.W.nsIn K g "sums" = some (some (.int 40 t2))) (gt : PySem.W.nsIn K g "steps" = some (some (.int 40 t3)))
    (gx0 : PySem.W.nsIn K g "" = some none)
    (gx1 : PySem.W.nsIn K g "pair" = some none)
    (gx2 : PySem.W.nsIn K g "Pairs" = some none)
    (gx3 : PySem.W.nsIn K g "sums " = some none)
    (gx4 : PySem.W.nsIn K g "step" = some none)
    (gx5 : PySem.W.nsIn K g "stepss" = some none)
    (gx6 : PySem.W.nsIn K g "pairsums" = some none)
    {t_mh : Tok} (a_mh : PySem.W.nsIn K mainGlobals "MOST_HUES" = some (some (.int 3 t_mh)))
    {t_ms : Tok} (a_ms : PySem.W.nsIn K mainGlobals "MOST_SEARCHED" = some (some (.int 15 t_ms)))
    {t_mc : Tok} (a_mc : PySem.W.nsIn K mainGlobals "MOST_COUNTED" = some (some (.int 8 t_mc)))
    {C0 : Addr} (ac0 : PySem.W.nsIn K mainGlobals "NoKind" = some (some (.ref C0))) (ec0 : Ec K C0)
    {C1 : Addr} (ac1 : PySem.W.nsIn K mainGlobals "NoSize" = some (some (.ref C1))) (ec1 : Ec K C1)
    {C2 : Addr} (ac2 : PySem.W.nsIn K mainGlobals "NoHues" = some (some (.ref C2))) (ec2 : Ec K C2)
    {C3 : Addr} (ac3 : PySem.W.nsIn K mainGlobals "NoDyeing" = some (some (.ref C3))) (ec3 : Ec K C3)
    {C4 : Addr} (ac4 : PySem.W.nsIn K mainGlobals "TooMuch" = some (some (.ref C4))) (ec4 : Ec K C4)
    {CB : Addr} (acb : PySem.W.nsIn K mainGlobals "HueError" = some (some (.ref CB))) (acv : PySem.W.nsIn K mainGlobals "ValueError" = some none) (ebt : PySem.W.typeIn K (.ref CB) = some (.type "type")) (ebd : PySem.W.hasDictIn K CB = true) (ebs : PySem.W.subIn K (.ref CB) (.type "BaseException") = some true)
    (eu0 : PySem.W.subIn K (.ref C0) (.ref CB) = some true)
    (es00 : PySem.W.subIn K (.ref C0) (.ref C0) = some true)
    (es01 : PySem.W.subIn K (.ref C0) (.ref C1) = some false)
    (es02 : PySem.W.subIn K (.ref C0) (.ref C2) = some false)
    (es03 : PySem.W.subIn K (.ref C0) (.ref C3) = some false)
    (es04 : PySem.W.subIn K (.ref C0) (.ref C4) = some false)
    (eu1 : PySem.W.subIn K (.ref C1) (.ref CB) = some true)
    (es10 : PySem.W.subIn K (.ref C1) (.ref C0) = some false)
    (es11 : PySem.W.subIn K (.ref C1) (.ref C1) = some true)
    (es12 : PySem.W.subIn K (.ref C1) (.ref C2) = some false)
    (es13 : PySem.W.subIn K (.ref C1) (.ref C3) = some false)
    (es14 : PySem.W.subIn K (.ref C1) (.ref C4) = some false)
    (eu2 : PySem.W.subIn K (.ref C2) (.ref CB) = some true)
    (es20 : PySem.W.subIn K (.ref C2) (.ref C0) = some false)
    (es21 : PySem.W.subIn K (.ref C2) (.ref C1) = some false)
    (es22 : PySem.W.subIn K (.ref C2) (.ref C2) = some true)
    (es23 : PySem.W.subIn K (.ref C2) (.ref C3) = some false)
    (es24 : PySem.W.subIn K (.ref C2) (.ref C4) = some false)
    (eu3 : PySem.W.subIn K (.ref C3) (.ref CB) = some true)
    (es30 : PySem.W.subIn K (.ref C3) (.ref C0) = some false)
    (es31 : PySem.W.subIn K (.ref C3) (.ref C1) = some false)
    (es32 : PySem.W.subIn K (.ref C3) (.ref C2) = some false)
    (es33 : PySem.W.subIn K (.ref C3) (.ref C3) = some true)
    (es34 : PySem.W.subIn K (.ref C3) (.ref C4) = some false)
    (eu4 : PySem.W.subIn K (.ref C4) (.ref CB) = some true)
    (es40 : PySem.W.subIn K (.ref C4) (.ref C0) = some false)
    (es41 : PySem.W.subIn K (.ref C4) (.ref C1) = some false)
    (es42 : PySem.W.subIn K (.ref C4) (.ref C2) = some false)
    (es43 : PySem.W.subIn K (.ref C4) (.ref C3) = some false)
    (es44 : PySem.W.subIn K (.ref C4) (.ref C4) = some true)
    : ∃ fd : FuncData, (∀ (s : Shared) (u : Value), BindsTo s fd ⟨[u], []⟩ [("script", u)]) ∧ ∀ base : Heap, K.In base → base.Ns mainGlobals mg → FnOk P w K mg base CX0 23 fa fd ["script"] (sp_law K w) := by
  have D_law_cell_at : Def K mg "_law_cell_at" s_law_cell_at ["script", "k"] := def_mk X G a0 l0 c0 k0 (fun us hl => match us, hl with | [_, _], _ => rfl)
  have D_law_pairs : Def K mg "_law_pairs" s_law_pairs ["size"] := def_mk X G a1 l1 c1 k1 (fun us hl => match us, hl with | [_], _ => rfl)
  have D_law_many : Def K mg "_law_many" s_law_many ["kind", "size"] := def_mk X G a2 l2 c2 k2 (fun us hl => match us, hl with | [_, _], _ => rfl)
  have D_law_kind_by : Def K mg "_law_kind_by" s_law_kind_by ["script", "at", "bounds"] := def_mk X G a3 l3 c3 k3 (fun us hl => match us, hl with | [_, _, _], _ => rfl)
  have D_asked_kind : Def K mg "asked_kind" s_asked_kind ["kind"] := def_mk X G a4 l4 c4 k4 (fun us hl => match us, hl with | [_], _ => rfl)
  have D_asked_size : Def K mg "asked_size" s_asked_size ["kind", "size"] := def_mk X G a5 l5 c5 k5 (fun us hl => match us, hl with | [_, _], _ => rfl)
  have D_things : Def K mg "things" s_things ["kind", "size"] := def_mk X G a6 l6 c6 k6 (fun us hl => match us, hl with | [_, _], _ => rfl)
  have D_pair_numbers : Def K mg "pair_numbers" s_pair_numbers ["size"] := def_mk X G a7 l7 c7 k7 (fun us hl => match us, hl with | [_], _ => rfl)
  have D_pair_triples : Def K mg "pair_triples" s_pair_triples ["size"] := def_mk X G a8 l8 c8 k8 (fun us hl => match us, hl with | [_], _ => rfl)
  have D_triples : Def K mg "triples" s_triples ["kind", "size"] := def_mk X G a9 l9 c9 k9 (fun us hl => match us, hl with | [_, _], _ => rfl)
  have D_asked_hues : Def K mg "asked_hues" s_asked_hues ["kind", "size", "count"] := def_mk X G a10 l10 c10 k10 (fun us hl => match us, hl with | [_, _, _], _ => rfl)
  have D_asked_dyeing : Def K mg "asked_dyeing" s_asked_dyeing ["kind", "size", "count", "hues"] := def_mk X G a11 l11 c11 k11 (fun us hl => match us, hl with | [_, _, _, _], _ => rfl)
  have D_one_hued : Def K mg "one_hued" s_one_hued ["kind", "size", "count", "hues"] := def_mk X G a12 l12 c12 k12 (fun us hl => match us, hl with | [_, _, _, _], _ => rfl)
  have D_is_free : Def K mg "is_free" s_is_free ["kind", "size", "count", "hues"] := def_mk X G a13 l13 c13 k13 (fun us hl => match us, hl with | [_, _, _, _], _ => rfl)
  have D_law_stirred : Def K mg "_law_stirred" s_law_stirred ["cell", "k"] := def_mk X G a14 l14 c14 k14 (fun us hl => match us, hl with | [_, _], _ => rfl)
  have D_law_dyed_by : Def K mg "_law_dyed_by" s_law_dyed_by ["script", "at", "many", "count"] := def_mk X G a15 l15 c15 k15 (fun us hl => match us, hl with | [_, _, _, _], _ => rfl)
  have D_by_last : Def K mg "by_last" s_by_last ["kind", "size"] := def_mk X G a16 l16 c16 k16 (fun us hl => match us, hl with | [_, _], _ => rfl)
  have D_fits : Def K mg "fits" s_fits ["hues", "others", "hue"] := def_mk X G a17 l17 c17 k17 (fun us hl => match us, hl with | [_, _, _], _ => rfl)
  have D_asked_search : Def K mg "asked_search" s_asked_search ["kind", "size", "count"] := def_mk X G a18 l18 c18 k18 (fun us hl => match us, hl with | [_, _, _], _ => rfl)
  have D_first_from : Def K mg "first_from" s_first_from ["lists", "count", "hues"] := def_mk X G a19 l19 c19 k19 (fun us hl => match us, hl with | [_, _, _], _ => rfl)
  have D_first_free : Def K mg "first_free" s_first_free ["kind", "size", "count"] := def_mk X G a20 l20 c20 k20 (fun us hl => match us, hl with | [_, _, _], _ => rfl)
  have D_count_from : Def K mg "count_from" s_count_from ["lists", "count", "hues"] := def_mk X G a21 l21 c21 k21 (fun us hl => match us, hl with | [_, _, _], _ => rfl)
  have D_how_many : Def K mg "how_many" s_how_many ["kind", "size", "count"] := def_mk X G a22 l22 c22 k22 (fun us hl => match us, hl with | [_, _, _], _ => rfl)
  have D_law_other : Def K mg "_law_other" s_law_other ["e", "wanted"] := def_mk X G a23 l23 c23 k23 (fun us hl => match us, hl with | [_, _], _ => rfl)
  have D_first_size : Def K mg "first_size" s_first_size ["kind", "count"] := def_mk X G a24 l24 c24 k24 (fun us hl => match us, hl with | [_, _], _ => rfl)
  have D_exchanged : Def K mg "exchanged" s_exchanged ["kind", "size", "count", "hues", "one", "other"] := def_mk X G a25 l25 c25 k25 (fun us hl => match us, hl with | [_, _, _, _, _, _], _ => rfl)
  have D_law_called : Def K mg "_law_called" s_law_called ["which", "kind", "size", "count", "hues", "two"] := def_mk X G a26 l26 c26 k26 (fun us hl => match us, hl with | [_, _, _, _, _, _], _ => rfl)
  have D_law_told : Def K mg "_law_told" s_law_told ["which", "kind", "size", "count", "hues", "two"] := def_mk X G a27 l27 c27 k27 (fun us hl => match us, hl with | [_, _, _, _, _, _], _ => rfl)
  have D_law_due : Def K mg "_law_due" s_law_due ["which", "kind", "size", "count", "hues", "two"] := def_mk X G a28 l28 c28 k28 (fun us hl => match us, hl with | [_, _, _, _, _, _], _ => rfl)
  have D_law : Def K mg "law" s_law ["script"] := def_mk X G a29 l29 c29 k29 (fun us hl => match us, hl with | [_], _ => rfl)
  have mz : Bl mg := bl_mk X G z0 z1 z2 z3 z4 z5 z6 z7 z8 z9 z10
  have gr : Gr K w mg := gr_mk X G ga gl gh glow gp gs gt
  have gb : GrB K w mg := grb_mk X G ga gl gh glow gx0 gx1 gx2 gx3 gx4 gx5 gx6
  have mh : Cn mg "MOST_HUES" 3 := ⟨_, PySem.W.mg_of X G a_mh⟩
  have ms : Cn mg "MOST_SEARCHED" 15 := ⟨_, PySem.W.mg_of X G a_ms⟩
  have mc : Cn mg "MOST_COUNTED" 8 := ⟨_, PySem.W.mg_of X G a_mc⟩
  have er : Er K mg := er_mk X G (c := fun i => match i with | 0 => C0 | 1 => C1 | 2 => C2 | 3 => C3 | _ => C4) (b := CB) (fun i hi => match i, hi with | 0, _ => ac0 | 1, _ => ac1 | 2, _ => ac2 | 3, _ => ac3 | 4, _ => ac4) acb acv (fun i hi => match i, hi with | 0, _ => ec0 | 1, _ => ec1 | 2, _ => ec2 | 3, _ => ec3 | 4, _ => ec4) ⟨ebt, ebd, ebs, fun i hi => match i, hi with | 0, _ => eu0 | 1, _ => eu1 | 2, _ => eu2 | 3, _ => eu3 | 4, _ => eu4, fun i hi j hj => match i, hi, j, hj with | 0, _, 0, _ => es00 | 0, _, 1, _ => es01 | 0, _, 2, _ => es02 | 0, _, 3, _ => es03 | 0, _, 4, _ => es04 | 1, _, 0, _ => es10 | 1, _, 1, _ => es11 | 1, _, 2, _ => es12 | 1, _, 3, _ => es13 | 1, _, 4, _ => es14 | 2, _, 0, _ => es20 | 2, _, 1, _ => es21 | 2, _, 2, _ => es22 | 2, _, 3, _ => es23 | 2, _, 4, _ => es24 | 3, _, 0, _ => es30 | 3, _, 1, _ => es31 | 3, _, 2, _ => es32 | 3, _, 3, _ => es33 | 3, _, 4, _ => es34 | 4, _, 0, _ => es40 | 4, _, 1, _ => es41 | 4, _, 2, _ => es42 | 4, _, 3, _ => es43 | 4, _, 4, _ => es44⟩
  refine law_mk D_law hmg fun base KB GB => ?_
  have h_law_cell_at := ok_law_cell_at (P := P) (w := w) (base := base) D_law_cell_at mz 
  have h_law_pairs := ok_law_pairs (P := P) (w := w) (base := base) D_law_pairs mz 
  have h_law_many := ok_law_many (P := P) (w := w) (base := base) D_law_many mz h_law_pairs
  have h_law_kind_by := ok_law_kind_by (P := P) (w := w) (base := base) D_law_kind_by mz h_law_cell_at
  have h_asked_kind := ok_asked_kind (P := P) (w := w) (base := base) D_asked_kind mz gr 
  have h_asked_size := ok_asked_size (P := P) (w := w) (base := base) D_asked_size mz gr h_asked_kind
  have h_things := ok_things (P := P) (w := w) (base := base) D_things mz gr h_asked_size
  have h_pair_numbers := ok_pair_numbers (P := P) (w := w) (base := base) D_pair_numbers mz 
  have h_pair_triples := ok_pair_triples (P := P) (w := w) (base := base) D_pair_triples mz h_pair_numbers
  have h_triples := ok_triples (P := P) (w := w) (base := base) D_triples mz h_asked_size h_pair_triples
  have h_asked_hues := ok_asked_hues (P := P) (w := w) (base := base) D_asked_hues mz mh h_asked_size
  have h_asked_dyeing := ok_asked_dyeing (P := P) (w := w) (base := base) D_asked_dyeing mz h_asked_hues h_things
  have h_one_hued := ok_one_hued (P := P) (w := w) (base := base) D_one_hued mz h_asked_dyeing h_triples
  have h_is_free := ok_is_free (P := P) (w := w) (base := base) D_is_free mz h_one_hued
  have h_law_stirred := ok_law_stirred (P := P) (w := w) (base := base) D_law_stirred mz 
  have h_law_dyed_by := ok_law_dyed_by (P := P) (w := w) (base := base) D_law_dyed_by mz h_law_cell_at h_law_stirred
  have h_by_last := ok_by_last (P := P) (w := w) (base := base) D_by_last mz h_triples h_things
  have h_fits := ok_fits (P := P) (w := w) (base := base) D_fits mz 
  have h_asked_search := ok_asked_search (P := P) (w := w) (base := base) D_asked_search mz ms h_asked_hues h_things
  have h_first_from := ok_first_from (P := P) (w := w) (base := base) D_first_from mz h_fits
  have h_first_free := ok_first_free (P := P) (w := w) (base := base) D_first_free mz h_asked_search h_first_from h_by_last
  have h_count_from := ok_count_from (P := P) (w := w) (base := base) D_count_from mz h_fits
  have h_how_many := ok_how_many (P := P) (w := w) (base := base) D_how_many mz mc h_asked_search h_count_from h_by_last h_things
  have h_law_other := ok_law_other (P := P) (w := w) (base := base) D_law_other mz er 
  have h_first_size := ok_first_size (P := P) (w := w) (base := base) D_first_size mz h_asked_kind h_by_last h_first_from
  have h_exchanged := ok_exchanged (P := P) (w := w) (base := base) D_exchanged mz h_asked_dyeing
  have h_asked_kind_x := ok_asked_kind_x (P := P) (w := w) (base := base) D_asked_kind mz gb er 
  have h_asked_size_x := ok_asked_size_x (P := P) (w := w) (base := base) D_asked_size mz gr er h_asked_kind_x h_asked_kind
  have h_things_x := ok_things_x (P := P) (w := w) (base := base) D_things mz h_asked_size_x
  have h_triples_x := ok_triples_x (P := P) (w := w) (base := base) D_triples mz h_asked_size_x
  have h_asked_hues_x := ok_asked_hues_x (P := P) (w := w) (base := base) D_asked_hues mz mh er h_asked_size_x h_asked_size
  have h_asked_dyeing_x := ok_asked_dyeing_x (P := P) (w := w) (base := base) D_asked_dyeing mz er h_asked_hues_x h_asked_hues h_things
  have h_one_hued_x := ok_one_hued_x (P := P) (w := w) (base := base) D_one_hued mz h_asked_dyeing_x
  have h_is_free_x := ok_is_free_x (P := P) (w := w) (base := base) D_is_free mz h_one_hued_x
  have h_exchanged_x := ok_exchanged_x (P := P) (w := w) (base := base) D_exchanged mz er h_asked_dyeing_x h_asked_dyeing
  have h_asked_search_x := ok_asked_search_x (P := P) (w := w) (base := base) D_asked_search mz ms er h_asked_hues_x h_asked_hues h_things
  have h_first_free_x := ok_first_free_x (P := P) (w := w) (base := base) D_first_free mz h_asked_search_x
  have h_how_many_x := ok_how_many_x (P := P) (w := w) (base := base) D_how_many mz mc er h_asked_search_x h_asked_search h_things
  have h_first_size_x := ok_first_size_x (P := P) (w := w) (base := base) D_first_size mz er h_asked_kind_x h_asked_kind
  have h_law_called := ok_law_called (P := P) (w := w) (base := base) D_law_called mz h_things h_triples h_one_hued h_is_free h_exchanged h_first_free h_how_many h_first_size
  have h_law_called_x := ok_law_called_x (P := P) (w := w) (base := base) D_law_called mz h_things_x h_triples_x h_one_hued_x h_is_free_x h_exchanged_x h_first_free_x h_how_many_x h_first_size_x
  have h_law_told := ok_law_told (P := P) (w := w) (base := base) D_law_told mz er h_law_called_x h_law_called h_law_other
  have h_law_due := ok_law_due (P := P) (w := w) (base := base) D_law_due mz h_law_many
  have h_law := ok_law (P := P) (w := w) (base := base) D_law mz h_law_kind_by h_law_cell_at h_law_dyed_by h_law_many h_law_due h_law_told
  exact h_law
end Oh
open PySem PySem.W PyProof.Rows in
set_option maxRecDepth 100000 in
set_option maxHeartbeats 0 in
theorem PySem.Challenge.cw_onehue_k10_which_refusal_holds : PySem.Challenge.rw_onehue_k10_which_refusal.Holds := by
  w_on; o_law; k_head; (case hw => w_witness2)
  k_fill
  refine L2.walk_of (l := PySem.Challenge.rw_onehue_k10_which_refusal) (n := 63) (k := 23) (x := "script") (CX := fun _ => L2.CX0) (sp := fun w => Oh.sp_law _ w) rfl (by decide) rfl ⟨rfl, by decide, by decide⟩ (fun w h Y => PySem.W.kIn_of Y) ?F (fun _ _ a ns hl _ hS => ⟨a, ns, rfl, hS, hl, fun _ => rfl⟩) (fun _ _ _ _ _ z => z)
  case F =>
    intro w mg fa h KX G hmg
    refine' Oh.all_mk KX G hmg ?a0 ?l0 ?c0 ?k0 ?a1 ?l1 ?c1 ?k1 ?a2 ?l2 ?c2 ?k2 ?a3 ?l3 ?c3 ?k3 ?a4 ?l4 ?c4 ?k4 ?a5 ?l5 ?c5 ?k5 ?a6 ?l6 ?c6 ?k6 ?a7 ?l7 ?c7 ?k7 ?a8 ?l8 ?c8 ?k8 ?a9 ?l9 ?c9 ?k9 ?a10 ?l10 ?c10 ?k10 ?a11 ?l11 ?c11 ?k11 ?a12 ?l12 ?c12 ?k12 ?a13 ?l13 ?c13 ?k13 ?a14 ?l14 ?c14 ?k14 ?a15 ?l15 ?c15 ?k15 ?a16 ?l16 ?c16 ?k16 ?a17 ?l17 ?c17 ?k17 ?a18 ?l18 ?c18 ?k18 ?a19 ?l19 ?c19 ?k19 ?a20 ?l20 ?c20 ?k20 ?a21 ?l21 ?c21 ?k21 ?a22 ?l22 ?c22 ?k22 ?a23 ?l23 ?c23 ?k23 ?a24 ?l24 ?c24 ?k24 ?a25 ?l25 ?c25 ?k25 ?a26 ?l26 ?c26 ?k26 ?a27 ?l27 ?c27 ?k27 ?a28 ?l28 ?c28 ?k28 ?a29 ?l29 ?c29 ?k29 ?z0 ?z1 ?z2 ?z3 ?z4 ?z5 ?z6 ?z7 ?z8 ?z9 ?z10 ?ga ?gl ?gh ?glow ?gp ?gs ?gt ?gx0 ?gx1 ?gx2 ?gx3 ?gx4 ?gx5 ?gx6 ?a_mh ?a_ms ?a_mc ?ac0 ?ec0 ?ac1 ?ec1 ?ac2 ?ec2 ?ac3 ?ec3 ?ac4 ?ec4 ?acb ?acv ?ebt ?ebd ?ebs ?eu0 ?es00 ?es01 ?es02 ?es03 ?es04 ?eu1 ?es10 ?es11 ?es12 ?es13 ?es14 ?eu2 ?es20 ?es21 ?es22 ?es23 ?es24 ?eu3 ?es30 ?es31 ?es32 ?es33 ?es34 ?eu4 ?es40 ?es41 ?es42 ?es43 ?es44
    (case a0 => k_is)
    (case l0 => k_is)
    (case c0 => k_is)
    (case k0 => k_is)
    (case a1 => k_is)
    (case l1 => k_is)
    (case c1 => k_is)
    (case k1 => k_is)
    (case a2 => k_is)
    (case l2 => k_is)
    (case c2 => k_is)
    (case k2 => k_is)
    (case a3 => k_is)
    (case l3 => k_is)
    (case c3 => k_is)
    (case k3 => k_is)
    (case a4 => k_is)
    (case l4 => k_is)
    (case c4 => k_is)
    (case k4 => k_is)
    (case a5 => k_is)
    (case l5 => k_is)
    (case c5 => k_is)
    (case k5 => k_is)
    (case a6 => k_is)
    (case l6 => k_is)
    (case c6 => k_is)
    (case k6 => k_is)
    (case a7 => k_is)
    (case l7 => k_is)
    (case c7 => k_is)
    (case k7 => k_is)
    (case a8 => k_is)
    (case l8 => k_is)
    (case c8 => k_is)
    (case k8 => k_is)
    (case a9 => k_is)
    (case l9 => k_is)
    (case c9 => k_is)
    (case k9 => k_is)
    (case a10 => k_is)
    (case l10 => k_is)
    (case c10 => k_is)
    (case k10 => k_is)
    (case a11 => k_is)
    (case l11 => k_is)
    (case c11 => k_is)
    (case k11 => k_is)
    (case a12 => k_is)
    (case l12 => k_is)
    (case c12 => k_is)
    (case k12 => k_is)
    (case a13 => k_is)
    (case l13 => k_is)
    (case c13 => k_is)
    (case k13 => k_is)
    (case a14 => k_is)
    (case l14 => k_is)
    (case c14 => k_is)
    (case k14 => k_is)
    (case a15 => k_is)
    (case l15 => k_is)
    (case c15 => k_is)
    (case k15 => k_is)
    (case a16 => k_is)
    (case l16 => k_is)
    (case c16 => k_is)
    (case k16 => k_is)
    (case a17 => k_is)
    (case l17 => k_is)
    (case c17 => k_is)
    (case k17 => k_is)
    (case a18 => k_is)
    (case l18 => k_is)
    (case c18 => k_is)
    (case k18 => k_is)
    (case a19 => k_is)
    (case l19 => k_is)
    (case c19 => k_is)
    (case k19 => k_is)
    (case a20 => k_is)
    (case l20 => k_is)
    (case c20 => k_is)
    (case k20 => k_is)
    (case a21 => k_is)
    (case l21 => k_is)
    (case c21 => k_is)
    (case k21 => k_is)
    (case a22 => k_is)
    (case l22 => k_is)
    (case c22 => k_is)
    (case k22 => k_is)
    (case a23 => k_is)
    (case l23 => k_is)
    (case c23 => k_is)
    (case k23 => k_is)
    (case a24 => k_is)
    (case l24 => k_is)
    (case c24 => k_is)
    (case k24 => k_is)
    (case a25 => k_is)
    (case l25 => k_is)
    (case c25 => k_is)
    (case k25 => k_is)
    (case a26 => k_is)
    (case l26 => k_is)
    (case c26 => k_is)
    (case k26 => k_is)
    (case a27 => k_is)
    (case l27 => k_is)
    (case c27 => k_is)
    (case k27 => k_is)
    (case a28 => k_is)
    (case l28 => k_is)
    (case c28 => k_is)
    (case k28 => k_is)
    (case a29 => k_is)
    (case l29 => k_is)
    (case c29 => k_is)
    (case k29 => k_is)
    (case z0 => k_is)
    (case z1 => k_is)
    (case z2 => k_is)
    (case z3 => k_is)
    (case z4 => k_is)
    (case z5 => k_is)
    (case z6 => k_is)
    (case z7 => k_is)
    (case z8 => k_is)
    (case z9 => k_is)
    (case z10 => k_is)
    (case ga => k_is)
    (case gl => k_is)
    (case gh => exact ⟨⟨_, _, rfl, rfl⟩, ⟨_, _, rfl, rfl⟩, ⟨_, _, rfl, rfl⟩, trivial⟩)
    (case glow => rfl)
    (case gp => k_is)
    (case gs => k_is)
    (case gt => k_is)
    (case gx0 => k_is)
    (case gx1 => k_is)
    (case gx2 => k_is)
    (case gx3 => k_is)
    (case gx4 => k_is)
    (case gx5 => k_is)
    (case gx6 => k_is)
    (case a_mh => k_is)
    (case a_ms => k_is)
    (case a_mc => k_is)
    (case ac0 => k_is)
    (case ec0 => exact ⟨by k_is, by k_exc, by k_is, by k_is, by k_is, by k_is, by k_is, by k_is, by k_is, by k_is, by k_is, by k_is, by k_is⟩)
    (case ac1 => k_is)
    (case ec1 => exact ⟨by k_is, by k_exc, by k_is, by k_is, by k_is, by k_is, by k_is, by k_is, by k_is, by k_is, by k_is, by k_is, by k_is⟩)
    (case ac2 => k_is)
    (case ec2 => exact ⟨by k_is, by k_exc, by k_is, by k_is, by k_is, by k_is, by k_is, by k_is, by k_is, by k_is, by k_is, by k_is, by k_is⟩)
    (case ac3 => k_is)
    (case ec3 => exact ⟨by k_is, by k_exc, by k_is, by k_is, by k_is, by k_is, by k_is, by k_is, by k_is, by k_is, by k_is, by k_is, by k_is⟩)
    (case ac4 => k_is)
    (case ec4 => exact ⟨by k_is, by k_exc, by k_is, by k_is, by k_is, by k_is, by k_is, by k_is, by k_is, by k_is, by k_is, by k_is, by k_is⟩)
    (case acb => k_is)
    (case acv => k_is)
    (case ebt => k_is)
    (case ebd => k_is)
    (case ebs => k_is)
    (case eu0 => k_is)
    (case es00 => k_is)
    (case es01 => k_is)
    (case es02 => k_is)
    (case es03 => k_is)
    (case es04 => k_is)
    (case eu1 => k_is)
    (case es10 => k_is)
    (case es11 => k_is)
    (case es12 => k_is)
    (case es13 => k_is)
    (case es14 => k_is)
    (case eu2 => k_is)
    (case es20 => k_is)
    (case es21 => k_is)
    (case es22 => k_is)
    (case es23 => k_is)
    (case es24 => k_is)
    (case eu3 => k_is)
    (case es30 => k_is)
    (case es31 => k_is)
    (case es32 => k_is)
    (case es33 => k_is)
    (case es34 => k_is)
    (case eu4 => k_is)
    (case es40 => k_is)
    (case es41 => k_is)
    (case es42 => k_is)
    (case es43 => k_is)
    (case es44 => k_is)
