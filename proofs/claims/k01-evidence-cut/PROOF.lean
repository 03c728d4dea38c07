import PyProof.Rows.All
import Wide.All
import OpenK.AllK
import Wide.FinOn
import HandS.ForMost
import HandS.GenList
import HandS.AnyAll
import HandS.DictComp
import HandS.SortInts
import HandS.SortKw
import HandS.More
import HandS.DeepEq
import KE.DataMinMax
import HandS.ForExc
import HandS.ExcInit
import HandS.ExcIs
import HandS.ExcSuper
import KE.KExcSuper
import KE.GoesEnum
import KE.GoesMore
import HandS.IsInst
import HandS.Style
import HandS.TupAny
import HandS.Flow
import PyProof.P3Eq
import HandS.EndTab
import HandS.EndOwn
import PySem.Challenge.RW_notetrail_k01_evidence_cut
section
set_option Elab.async false
set_option linter.all false
set_option maxRecDepth 100000
set_option maxHeartbeats 2000000
/-! all(..) of a generator expression over anything that is walked, the element any expression of the layer that gives True each time; any(..) that gives False each time. -/
namespace K1
open PySem PySem.Spec PyProof.Rows L2 GenW

/-- the generator's frame as a context: it stands above the frames that run -/
abbrev gx (X : Cx) (s : Shared) (H : Hp) (cenv : Env) (fp : List Addr) (A' : Around) : Cx :=
  { X with A := A', s_0 := s, H_0 := H, env := cenv, outer := X.stack, stack := cenv :: X.stack, ex := fp, fn := fun _ => false, pn := [], xe := fun _ _ => False }
/-- the generator expression's own frame -/
abbrev gEnv (X : Cx) (scope : Scope) (L : Addr) (code : Value) : Env := genEnv scope (cloFrom X.env.cells scope.names []) L code builtinsNs X.env

section
variable {X : Cx} {pins : List (Addr × Obj)} {σ : L2.St} {H : Hp} {s : Shared}
theorem clo_at (I : Inv X pins σ H s) {scope : Scope} (hf : ∀ y ∈ scope.names, y.2 = NameKind.free → ∃ c, X.env.cells.lookup y.1 = some c) {y : Str} {c : Addr}
    (hm : (y, c) ∈ cloFrom X.env.cells scope.names []) : (y, NameKind.free) ∈ scope.names ∧ X.env.cells.lookup y = some c ∧ c < s.heap.objs.size := by
  rcases cloFrom_mem hm with q | ⟨q1, q2⟩
  · exact nomatch q
  · obtain ⟨d, hd⟩ := hf (y, NameKind.free) q1 rfl
    have hd' : X.env.cells.lookup y = some d := hd
    rw [hd'] at q2
    obtain rfl : c = d := q2
    obtain ⟨w, hw⟩ := I.cell y c hd'
    exact ⟨q1, hd', hw.lt⟩
theorem clo_of (I : Inv X pins σ H s) {scope : Scope} (hf : ∀ y ∈ scope.names, y.2 = NameKind.free → ∃ c, X.env.cells.lookup y.1 = some c) {y : Str}
    (hy : (y, NameKind.free) ∈ scope.names) : ∃ c, (cloFrom X.env.cells scope.names []).lookup y = some c ∧ X.env.cells.lookup y = some c := by
  obtain ⟨c, hc⟩ := mem_lookup (cloFrom_has (cells := X.env.cells) (acc := []) hy)
  exact ⟨c, hc, (clo_at I hf (PySem.mem_of_lookup hc)).2.1⟩

/-- a generator that has not begun: its frame's context holds -/
theorem gen_start {scope : Scope} {own : List (Str × Nat)} {fp : List Addr} {code : Value} {A' : Around} {h' : Heap} {g' : Array GenState} {tk : Nat} {m : Str → Option Value} {a : Addr} {go : Obj}
    (I : Inv X pins σ H s) (ok : BlkOk X.N X.env.scope scope own) (hN : X.N.Nodup) (nc : ∀ y ∈ scope.names, y.2 ≠ NameKind.cell)
    (hfp : ∀ b ∈ fp, FpOk X pins H b ∧ b < s.heap.objs.size) (hA : X.calm = true → A'.handled = none)
    (hfr : A'.frames = some (gEnv X scope s.heap.objs.size code :: X.stack)) (hns : h'.Ns s.heap.objs.size m) (kp : ∀ b o, s.heap.get? b = some o → h'.get? b = some o)
    (ha : s.heap.objs.size < a) (hgo : h'.get? a = some go) (ncell : ∀ v, go.data ≠ .cell v) (hg : AllBare g') :
    Inv (gx X s H (gEnv X scope s.heap.objs.size code) fp A') [(a, go)] (wipe σ (own.map (·.2))) H { s with heap := h', gens := g', toks := tk } := by
  have hf : ∀ y ∈ scope.names, y.2 = NameKind.free → ∃ c, X.env.cells.lookup y.1 = some c := fun y hy e => by
    rcases ok.free y hy e with q | q
    · exact I.ok.has y.1 (Or.inl q)
    · exact I.ok.has y.1 (Or.inr q)
  -- the cells of the new frame are those of the old one
  have cellsAt : ∀ {y c}, (gEnv X scope s.heap.objs.size code).cells.lookup y = some c → X.env.cells.lookup y = some c ∧ c < s.heap.objs.size :=
    fun {y c} e => (clo_at I hf (PySem.mem_of_lookup (show (cloFrom X.env.cells scope.names []).lookup y = some c from e))).2
  have okG : (gx X s H (gEnv X scope s.heap.objs.size code) fp A').Ok := by
    constructor
    case mod => exact I.ok.mod
    case kind => exact ok.kind
    case glob => exact I.ok.glob
    case blt => rfl
    case above => exact Nat.le_refl s.heap.objs.size
    case inj => exact fun y z c e1 e2 => I.ok.inj y z c (cellsAt e1).1 (cellsAt e2).1
    case has =>
      intro y hy
      rcases hy with hy | hy
      · exact absurd rfl (nc (y, NameKind.cell) (PySem.mem_of_lookup (show scope.names.lookup y = some NameKind.cell from hy)))
      · obtain ⟨c, hc, _⟩ := clo_of I hf (PySem.mem_of_lookup (show scope.names.lookup y = some NameKind.free from hy))
        exact ⟨c, hc⟩
    case cab => exact fun y c z => absurd z Bool.false_ne_true
    case hd => exact hA
    case frames => exact hfr
    case stk => exact Or.inr ⟨rfl, rfl⟩
    case exf =>
      intro b hb
      refine ⟨Nat.ne_of_lt (hfp b hb).2, fun y c e z => ?_⟩
      exact (hfp b hb).1.2.2.2.2.1 y c (cellsAt e).1 z
    case bs => exact I.bs
    case bsz => exact Nat.le_trans I.ok.bsz I.sz
    case noex =>
      intro b o e hb
      rcases (hfp b hb).1.2.2.2.1 with z | z
      · exact I.ok.noex b o e z
      · exact Nat.lt_irrefl _ (Nat.lt_of_lt_of_le (Heap.lt_size e) (Nat.le_trans I.ok.bsz z))
    case exfs =>
      intro b hb z
      rcases List.mem_cons.mp (I.stkSub b z) with q | q
      · exact (hfp b hb).1.2.1 q
      · exact (hfp b hb).1.2.2.1 q
    case funs => exact I.stack
    case frf => exact I.stkFree
  have fresh : ∀ b, s.heap.objs.size ≤ b → H b = none := fun b hb => I.hok.fresh hb
  have notfr : ∀ b, s.heap.objs.size ≤ b → b ∉ frs X.stack := fun b hb z => by
    rcases List.mem_cons.mp (I.stkSub b z) with q | q
    · have h1 := I.lt
      rw [← q] at h1
      exact Nat.lt_irrefl _ (Nat.lt_of_lt_of_le h1 hb)
    · exact I.nofs hb q
  constructor
  case ok => exact okG
  case os => rfl
  case bare => exact hg
  case base => exact Un.kept kp
  case loc =>
    refine ⟨m, hns, fun i y av e1 e2 e3 => ?_⟩
    obtain ⟨e2, hne⟩ := wipe_some e2
    have notOwn : ∀ k, scope.names.lookup y = some k → k = NameKind.local ∨ k = NameKind.cell → False := fun k hk hk' => by
      rcases ok.own (y, k) (PySem.mem_of_lookup hk) hk' with q | q
      · obtain ⟨p, hp, hpy⟩ := List.mem_map.mp q
        have q3 := ok.ix p hp
        have q4 : p.1 = y := hpy
        rw [q4] at q3
        exact hne (List.mem_map.mpr ⟨p, hp, nodup_ix hN q3 e1⟩)
      · exact q (List.mem_of_getElem? e1)
    have e3 : Vis scope y := e3
    have hfree : scope.names.lookup y = some NameKind.free := by
      rcases e3 with q | q | q
      · exact (notOwn _ q (Or.inl rfl)).elim
      · exact (notOwn _ q (Or.inr rfl)).elim
      · exact q
    obtain ⟨m0, _, hl⟩ := I.loc
    have inOld := ok.free (y, NameKind.free) (PySem.mem_of_lookup hfree) rfl
    have hvis : Vis X.env.scope y := inOld.elim (fun q => Or.inr (Or.inl q)) (fun q => Or.inr (Or.inr q))
    obtain ⟨u, r, q⟩ := hl i y av e1 e2 hvis
    obtain ⟨c, h1, h2⟩ := clo_of I hf (PySem.mem_of_lookup hfree)
    refine ⟨u, r, Or.inr ⟨Or.inr hfree, c, h1, ?_⟩⟩
    rcases q with ⟨q1, _⟩ | ⟨_, c', q2, q3⟩
    · have q1 : X.env.scope.names.lookup y = some NameKind.local := q1
      rcases inOld with z | z
      · rw [show X.env.scope.names.lookup y = _ from z] at q1; exact nomatch q1
      · rw [show X.env.scope.names.lookup y = _ from z] at q1; exact nomatch q1
    · rw [h2] at q2
      obtain rfl : c = c' := Option.some.inj q2
      exact q3.keeps kp
  case cell =>
    intro y c e
    obtain ⟨w, hw⟩ := I.cell y c (cellsAt e).1
    exact ⟨w, hw.keeps kp⟩
  case free => exact fresh _ (Nat.le_refl _)
  case freeC => exact fun y c e => I.freeC y c (cellsAt e).1
  case pin =>
    intro p hp
    obtain rfl : p = (a, go) := by simpa using hp
    exact ⟨hgo, fresh a (Nat.le_of_lt ha), Nat.ne_of_gt ha, notfr a (Nat.le_of_lt ha), ncell⟩
  case hok => exact I.hok.kept kp
  case len => rw [wipe_length]; exact I.len
end

/-! ### the builtin draws the generator -/
/-- an item is handed out, and nothing happens while the generator sleeps -/
def YT (b : Bool) (a : Addr) (g : Nat) : Protocol := fun _ _ v s kap =>
  v = Value.bool b ∧ AllBare s.gens ∧ s.heap.NoLimit ∧ s.heap.IsGen a g ∧ ∀ s' : Shared, s'.heap = s.heap → s'.os = s.os → AllBare s'.gens → kap (.send .none) s'
def RT (Fn : Shared → Prop) : GenEnd := fun _ _ r s1 => ((r = .ok (.ret .none) ∨ r = .ok .next) ∧ Fn s1) ∨ ∃ e, r = .error e ∧ False
section
variable {P : Program} {w : World} {A : Around} {R : Result → Shared → Prop} {a : Addr} {g : Nat} {Fn : Shared → Prop}
theorem drawn_all (hh : A.handled = none) (hd : A.depth < recursionLimit)
    (hfin : ∀ s1 h', Fn s1 → (∀ b o, s1.heap.get? b = some o → h'.get? b = some o) → R (.ok (.ret (.bool true))) { s1.setGen g .finished with heap := h' }) :
    ∀ (m : Nat) (s : Shared), s.heap.IsGen a g → s.heap.NoLimit →
      (∃ gs, s.gens[g]? = some gs ∧ gs.Goes (model P w) A.in1.in1 (RT Fn) (YT true a g) m (.send .none) (s.setGen g .running)) →
      codeAny (model P w) A (.builtin "all.loop" ⟨[.ref a], []⟩) R s := by
  intro m
  induction m with
  | zero =>
    rintro s hg hl ⟨gs, hgs, hgo⟩
    refine codeAny_builtin F.entry_all_loop ?_
    rw [Around.under_plainId F.plain_all_loop _]
    show wpAny _ A.in1 (pyNext (.ref a) >>= _) _ _ s
    refine wpAny_bind (next_genG (A := A.in1) (F := fun _ _ s1 => Fn s1) (Er := fun _ _ => False) hh hl hd hg hgs hgo ?h1 ?h2 ?h3)
    case h1 =>
      rintro v s1 gs' _ ⟨_, hb, _, _, hk⟩
      exact False.elim (hk s1 rfl rfl hb)
    case h2 =>
      intro s1 hp h' kp
      exact wpAny_bind (wpAny_rule (wpAny_pure (hfin s1 h' hp kp)))
    case h3 => exact fun e s1 z => z.elim
  | succ m ih =>
    rintro s hg hl ⟨gs, hgs, hgo⟩
    have hgl : g < s.gens.size := (Array.getElem?_eq_some_iff.mp hgs).1
    refine codeAny_builtin F.entry_all_loop ?_
    rw [Around.under_plainId F.plain_all_loop _]
    show wpAny _ A.in1 (pyNext (.ref a) >>= _) _ _ s
    refine wpAny_bind (wpAny_gsz (n := g + 1) hgl (next_genG (A := A.in1) (F := fun _ _ s1 => Fn s1) (Er := fun _ _ => False) hh hl hd hg hgs hgo ?h1 ?h2 ?h3))
    case h1 =>
      rintro v s1 gs' hbare ⟨rfl, hb, hl1, hg1, hk⟩ hsz
      have hsz1 : g < s1.gens.size := by
        have e : (s1.setGen g gs').gens.size = s1.gens.size := setGen_size _ _ _
        have h9 : g + 1 ≤ (s1.setGen g gs').gens.size := hsz
        omega
      refine wpAny_bind (wpAny_holding (wpAny_truthy_bool ?_))
      refine wpAny_bind (wpAny_letGo ?_)
      simp only [if_true]
      refine wpAny_pure ⟨plainId_quiet F.plain_all_loop _, ih _ hg1 hl1 ⟨gs', setGen_at hsz1, ?_⟩⟩
      exact hk _ rfl rfl (allBare_setGen (allBare_setGen hb hbare) rfl)
    case h2 =>
      intro s1 hp h' kp _
      exact wpAny_bind (wpAny_rule (wpAny_pure (hfin s1 h' hp kp)))
    case h3 => exact fun e s1 z => z.elim
theorem drawn_any (hh : A.handled = none) (hd : A.depth < recursionLimit)
    (hfin : ∀ s1 h', Fn s1 → (∀ b o, s1.heap.get? b = some o → h'.get? b = some o) → R (.ok (.ret (.bool false))) { s1.setGen g .finished with heap := h' }) :
    ∀ (m : Nat) (s : Shared), s.heap.IsGen a g → s.heap.NoLimit →
      (∃ gs, s.gens[g]? = some gs ∧ gs.Goes (model P w) A.in1.in1 (RT Fn) (YT false a g) m (.send .none) (s.setGen g .running)) →
      codeAny (model P w) A (.builtin "any.loop" ⟨[.ref a], []⟩) R s := by
  intro m
  induction m with
  | zero =>
    rintro s hg hl ⟨gs, hgs, hgo⟩
    refine codeAny_builtin F.entry_any_loop ?_
    rw [Around.under_plainId F.plain_any_loop _]
    show wpAny _ A.in1 (pyNext (.ref a) >>= _) _ _ s
    refine wpAny_bind (next_genG (A := A.in1) (F := fun _ _ s1 => Fn s1) (Er := fun _ _ => False) hh hl hd hg hgs hgo ?h1 ?h2 ?h3)
    case h1 =>
      rintro v s1 gs' _ ⟨_, hb, _, _, hk⟩
      exact False.elim (hk s1 rfl rfl hb)
    case h2 =>
      intro s1 hp h' kp
      exact wpAny_bind (wpAny_rule (wpAny_pure (hfin s1 h' hp kp)))
    case h3 => exact fun e s1 z => z.elim
  | succ m ih =>
    rintro s hg hl ⟨gs, hgs, hgo⟩
    have hgl : g < s.gens.size := (Array.getElem?_eq_some_iff.mp hgs).1
    refine codeAny_builtin F.entry_any_loop ?_
    rw [Around.under_plainId F.plain_any_loop _]
    show wpAny _ A.in1 (pyNext (.ref a) >>= _) _ _ s
    refine wpAny_bind (wpAny_gsz (n := g + 1) hgl (next_genG (A := A.in1) (F := fun _ _ s1 => Fn s1) (Er := fun _ _ => False) hh hl hd hg hgs hgo ?h1 ?h2 ?h3))
    case h1 =>
      rintro v s1 gs' hbare ⟨rfl, hb, hl1, hg1, hk⟩ hsz
      have hsz1 : g < s1.gens.size := by
        have e : (s1.setGen g gs').gens.size = s1.gens.size := setGen_size _ _ _
        have h9 : g + 1 ≤ (s1.setGen g gs').gens.size := hsz
        omega
      refine wpAny_bind (wpAny_holding (wpAny_truthy_bool ?_))
      refine wpAny_bind (wpAny_letGo ?_)
      simp only [Bool.false_eq_true, if_false]
      refine wpAny_pure ⟨plainId_quiet F.plain_any_loop _, ih _ hg1 hl1 ⟨gs', setGen_at hsz1, ?_⟩⟩
      exact hk _ rfl rfl (allBare_setGen (allBare_setGen hb hbare) rfl)
    case h2 =>
      intro s1 hp h' kp _
      exact wpAny_bind (wpAny_rule (wpAny_pure (hfin s1 h' hp kp)))
    case h3 => exact fun e s1 z => z.elim
end

/-! ### the generator's turns -/
theorem inv_at {X : Cx} {pins : List (Addr × Obj)} {σ : L2.St} {H : Hp} {s s' : Shared} (I : Inv X pins σ H s) (h1 : s'.heap = s.heap) (h2 : s'.os = s.os) (h3 : AllBare s'.gens) : Inv X pins σ H s' :=
  ⟨I.ok, h2.trans I.os, h3, by rw [h1]; exact I.base, by rw [h1]; exact I.loc, by rw [h1]; exact I.cell, I.free, I.freeC, by rw [h1]; exact I.pin, by rw [h1]; exact I.hok, I.len⟩

section
variable {X : Cx} {σ : L2.St}
theorem gen_turns {s4 : Shared} {H3 : Hp} {scope : Scope} {cenv : Env} {fp : List Addr} {A0 A' : Around} {elt tg iter : Expr} {gpos : Pos} {J : It} {tn : Nat → Heap → Prop} {it a : Addr} {go : Obj} {g : Nat} {nm qn : Value} {vs : List Nat} {gt : TG} {te : TE} {b : Bool} {n : Nat} {Pv : Nat → Hp → Prop}
    (hc : X.calm = true) (hco : cenv.scope.isCoroutine = false) (T : Turn X.prog X.w X.K tg J fp it tn) (hfa : ∀ c ∈ fp, c ≠ a)
    (hgo : go = { cls := .type "generator", data := .fields #[.int g 0, nm, qn] })
    (hov : A0.over (.compLoop (.GeneratorExp elt [⟨tg, iter, [], 0⟩] scope gpos) 0 (.ref it) .none cenv) [] = A')
    (pg : PG (gx X s4 H3 cenv fp A') tg gt) (pe : PE (gx X s4 H3 cenv fp A') elt te)
    (step : ∀ i H, i < n → Pv i H → J.go i H ∧ ∀ x H', J.yld i H x H' → gt x (wipe σ vs) H' fun σ2 H2 => wipe σ2 vs = wipe σ vs ∧ te σ2 H2 fun y H4 => y = V.bl b ∧ Pv (i + 1) H4)
    (stop : ∀ H, Pv n H → J.stop n H) :
    ∀ (k i : Nat) (s0 s : Shared) (H : Hp), n - i = k → i ≤ n → Inv (gx X s4 H3 cenv fp A') [(a, go)] (wipe σ vs) H s → tn i s.heap → (∀ c ∈ fp, H c = none) → Pv i H →
      Seg (model X.prog X.w) A0 (RT fun s1 => ∃ H', Inv (gx X s4 H3 cenv fp A') [(a, go)] (wipe σ vs) H' s1 ∧ Pv n H') (YT b a g) k s0
        (.compLoop (.GeneratorExp elt [⟨tg, iter, [], 0⟩] scope gpos) 0 (.ref it) .none cenv)
        ((model X.prog X.w).den (.compLoop (.GeneratorExp elt [⟨tg, iter, [], 0⟩] scope gpos) 0 (.ref it) .none cenv)) [] s := by
  have stat : ∀ {σ' : L2.St} {H' : Hp} {s' : Shared}, Inv (gx X s4 H3 cenv fp A') [(a, go)] σ' H' s' → (∀ c ∈ fp, H' c = none) → ∀ c ∈ fp, FpOk (gx X s4 H3 cenv fp A') [(a, go)] H' c := fun {σ' H' s'} I' hn c hc' => by
    refine ⟨hn c hc', (I'.ok.exf c hc').1, I'.ok.exfs c hc', Or.inl hc', fun x d e => (I'.ok.exf c hc').2 x d e, fun p hp => ?_⟩
    obtain rfl : p = (a, go) := by simpa using hp
    exact (hfa c hc').symm
  have hy : ∀ v, yieldOut cenv v = yieldValue v := fun v => by simp only [yieldOut, hco, Bool.false_eq_true, if_false]
  intro k
  induction k with
  | zero =>
    intro i s0 s H hk hi I st hn p
    obtain rfl : i = n := by omega
    show Seg _ A0 _ _ _ s0 _ ((compTurn (.GeneratorExp elt [⟨tg, iter, [], 0⟩] scope gpos) 0 (.ref it) .none cenv).onRaise (leaving cenv)) [] s
    rw [compTurn_gen, Sem.onRaise_eq_wrap]
    refine seg_bind_wrap (wpAny_standAt ?_)
    refine seg_bind_wrap ?_
    rw [hov]
    refine thnF (T.done (gx X s4 H3 cenv fp A') rfl rfl rfl hc i [(a, go)] s _ H (fun _ _ => False) I (stat I hn) st (stop H p)) fun r s1 ⟨hr, I1⟩ => ?_
    subst hr
    exact seg_end (.ok .next) (Or.inl ⟨Or.inr rfl, H, I1, p⟩)
  | succ k ih =>
    intro i s0 s H hk hi I st hn p
    have hlt : i < n := by omega
    obtain ⟨hgo1, hst⟩ := step i H hlt p
    show Seg _ A0 _ _ _ s0 _ ((compTurn (.GeneratorExp elt [⟨tg, iter, [], 0⟩] scope gpos) 0 (.ref it) .none cenv).onRaise (leaving cenv)) [] s
    rw [compTurn_gen, Sem.onRaise_eq_wrap]
    refine seg_bind_wrap (wpAny_standAt ?_)
    refine seg_bind_wrap ?_
    rw [hov]
    refine thnF (T.item (gx X s4 H3 cenv fp A') rfl rfl rfl hc i [(a, go)] s _ H (fun _ _ => False) I (stat I hn) st hgo1) fun r s1 ⟨u, hr, h1⟩ => ?_
    subst hr
    refine seg_bind_wrap ?_
    rw [hov]
    refine thnF h1 fun _ s2 ⟨x, H2, I2, r2, y2, st2, n2⟩ => ?_
    have I2' := I2.pinned (stat I2 n2) (T.obj _ _ st2)
    refine seg_bind_wrap ?_
    rw [hov]
    refine thnF (pg.run _ s2 _ H2 x u _ I2' r2 (hst x H2 y2)) fun _ s3 ⟨σ3, H3', I3, hw3, q3⟩ => ?_
    refine seg_bind_wrap ?_
    simp only [List.forIn_nil]
    refine wpAny_pure ?_
    simp only [if_true]
    simp only [hy]
    rw [Sem.bind_eq_wrap', Sem.bind_eq_wrap', Sem.wrap_wrap, Sem.wrap_wrap]
    refine seg_wrap ?_
    rw [hov]
    refine thnF (pe.run _ s3 σ3 H3' _ I3 q3) fun v s5 ⟨y, H5, I5, r5, ey, p5⟩ => ?_
    subst ey
    obtain rfl : v = Value.bool b := r5
    refine seg_at (seg_yield rfl rfl rfl ?_)
    have pinA := I5.pin (a, go) (by simp)
    refine ⟨rfl, I5.bare, I5.nolimit, ⟨go, nm, qn, pinA.1, by rw [hgo], by rw [hgo], by rw [hgo]⟩, fun s6 e1 e2 e3 => ?_⟩
    have pinF : ∀ c ∈ fp, ∀ o, s2.heap.get? c = some o → s5.heap.get? c = some o ∧ H5 c = none := fun c hc' o e =>
      let z := I5.pin (c, o) (List.mem_append_right _ (List.mem_append_right _ (mem_pinsAt hc' e)))
      ⟨z.1, z.2.1⟩
    have hl : (wipe σ vs).length = σ3.length := by rw [← hw3, wipe_length]
    have I6 : Inv (gx X s4 H3 cenv fp A') [(a, go)] (wipe σ vs) H5 s6 := inv_at (I5.unpinned.weak hl fun j v e => by rw [← hw3] at e; exact (wipe_some e).1) e1 e2 e3
    refine seg_again rfl (ih (i + 1) s6 s6 H5 (by omega) hlt I6 ?_ (fun c hc' => ?_) p5)
    · refine T.keep _ _ _ st2 fun c hc' o e => ?_
      rw [e1]
      exact (pinF c hc' o e).1
    · obtain ⟨o, e, _⟩ := T.obj _ _ st2 c hc'
      exact (pinF c hc' o e).2
end
end K1
end
section
set_option Elab.async false
set_option linter.all false
set_option maxRecDepth 100000
set_option maxHeartbeats 2000000
namespace K1
open PySem PySem.Spec PyProof.Rows L2 GenW
/-! ### the rule -/
/-- b each time: what is walked, the target, the element; behind it b, the def's table may have grown -/
def tGenB (wi : TI) (gt : TG) (te : TE) (P : Addr) (b : Bool) (vs : List Nat) : TE := fun σ H Q => wi σ H fun J H1 => GxR.TabG H1 P ∧ ∀ H2, GxR.Tabbed P H1 H2 → ∃ (n : Nat) (Pv : Nat → Hp → Prop), Pv 0 H2 ∧
  (∀ i H, i < n → Pv i H → J.go i H ∧ ∀ x H', J.yld i H x H' → gt x (wipe σ vs) H' fun σ2 H3 => wipe σ2 vs = wipe σ vs ∧ te σ2 H3 fun y H4 => y = V.bl b ∧ Pv (i + 1) H4) ∧
  ∀ H, Pv n H → J.stop n H ∧ Q (.bl b) H
/-- a generator at a that will give b n times, and what is known behind it -/
def Ripe (X : Cx) (pins : List (Addr × Obj)) (σ : L2.St) (b : Bool) (Q : VK) (v : Value) (s5 : Shared) : Prop :=
  ∃ (a : Addr) (g n : Nat) (Fn : Shared → Prop), v = .ref a ∧ s5.heap.IsGen a g ∧ s5.heap.NoLimit ∧
    (∃ gs, s5.gens[g]? = some gs ∧ gs.Goes (model X.prog X.w) X.A.in1.in1 (RT Fn) (YT b a g) n (.send .none) (s5.setGen g .running)) ∧
    ∀ s1 h', Fn s1 → (∀ b o, s1.heap.get? b = some o → h'.get? b = some o) → ∃ H', Inv X pins σ H' { s1.setGen g .finished with heap := h' } ∧ Q (.bl b) H'
section
variable {X : Cx} {pins : List (Addr × Obj)} {σ : L2.St} {H : Hp} {s : Shared}
theorem gen_make {c P : Addr} {elt tg iter : Expr} {scope : Scope} {own : List (Str × Nat)} {gpos : Pos} {wi : TI} {gt : TG} {te : TE} {k : Nat} {b : Bool} {Q : VK}
    (hc : X.calm = true) (hr : Room (k + 1) X.A) (TB : GxR.TabB X.base X.mg c P) (hcode : X.env.code = .ref c) (hN : X.N.Nodup) (ok : BlkOk X.N X.env.scope scope own)
    (nc : ∀ y ∈ scope.names, y.2 ≠ NameKind.cell) (hco : scope.isCoroutine = false) (h0 : scope.names.lookup (".0" : Str) = some NameKind.local)
    (hi : PI X tg iter wi)
    (pg : ∀ (s : Shared) (H : Hp) (L : Addr) (cd : Value) (fp : List Addr) (A' : Around), PG (gx X s H (gEnv X scope L cd) fp A') tg gt)
    (pe : ∀ (s : Shared) (H : Hp) (L : Addr) (cd : Value) (fp : List Addr) (A' : Around), Room k A' → PE (gx X s H (gEnv X scope L cd) fp A') elt te)
    (hs : ∀ v, genFold iter X.env v = pure v) (I : Inv X pins σ H s) (h : tGenB wi gt te P b (own.map (·.2)) σ H Q) :
    wpAny (model X.prog X.w) X.A (eval (.GeneratorExp elt [⟨tg, iter, [], 0⟩] scope gpos) X.env) (Ripe X pins σ b Q) X.xe s := by
  have hf : ∀ y ∈ scope.names, y.2 = NameKind.free → ∃ c, X.env.cells.lookup y.1 = some c := fun y hy e => by
    rcases ok.free y hy e with q | q
    · exact I.ok.has y.1 (Or.inl q)
    · exact I.ok.has y.1 (Or.inr q)
  refine wpAny_GeneratorExp_make hco (closure_ok hf) nc h0 ok.kind (by have := hr.dp; omega) ?_ hs
  refine thn (hi.run pins s σ H _ I h) fun xv s1 hx => thn hx fun itv s2 h2 => ?_
  obtain ⟨it, fp, tn, J, H2, rfl, I2, T, st2, f2, ⟨ps, hP, ht⟩, q2⟩ := h2
  refine ⟨I2.nolimit, ?_⟩
  have hPs : s2.heap.get? P = some { cls := .none, data := .fields ps } := I2.hok P _ hP
  have cd : PySem.W.CodeHd s2.heap c P := TB.code.keeps fun b u e => I2.bk b u e
  have hcP : cStatics ≠ P := fun e => by
    obtain ⟨_, hns, _⟩ := I2.nolimit
    obtain ⟨o', es, ep, ho, hd, _⟩ := hns
    rw [e, hPs] at ho
    cases ho
    cases hd
  have fpP : ∀ b ∈ fp, b ≠ P := fun b hb z => by
    have q := (f2 b hb).1
    rw [z, hP] at q
    exact nomatch q
  have fpLt : ∀ b ∈ fp, b < s2.heap.objs.size := fun b hb => by
    obtain ⟨o, e, _⟩ := T.obj _ _ st2 b hb
    exact Heap.lt_size e
  -- behind the code object: the frame, the generator
  have cont : ∀ (code : Value) (h3 : Heap) (tk : Nat) (ps' : Array Value), Heap.ExtBut P s2.heap h3 → s2.heap.objs.size ≤ h3.objs.size → h3.get? P = some { cls := .none, data := .fields ps' } → (∃ more, ps' = ps ++ more) → TriplesOk ps'.toList →
      wpAny (model X.prog X.w) X.A (builtinsFor X.env.globals X.env.builtins) (fun bi s4 => ∀ h', h'.Ns s4.heap.objs.size (fun y => if y = ".0" then some (.ref it) else none) →
        Heap.SameBut s4.heap.objs.size (s4.heap.push { cls := .type "frame", data := .dict #[] }) h' →
        Ripe X pins σ b Q (.ref h'.objs.size) { s4 with
            gens := s4.gens.push (.fresh (.compStart (.GeneratorExp elt [⟨tg, iter, [], 0⟩] scope gpos) 0 (.ref it) .none (genEnv scope (cloFrom X.env.cells scope.names []) s4.heap.objs.size code bi X.env))),
            toks := s4.toks + 1 + 1 + 1,
            heap := h'.push { cls := .type "generator", data := .fields #[.int s4.gens.size 0, .str "<genexpr>" (s4.toks + 1), .str (X.env.qual ++ "<genexpr>") (s4.toks + 1 + 1)] } }) X.xe { s2 with heap := h3, toks := tk } := by
    intro code h3 tk ps' hx hsz hP3 hmore ht3
    obtain ⟨bm, ob, e1, e2, e3, e4, e5, e6, e7, e8⟩ := TB.bm
    have keep3 : ∀ b u, b ≠ P → s2.heap.get? b = some u → h3.get? b = some u := fun b u hb e => hx b u hb e
    refine wpAny_builtinsFor (m := X.mg) (by rw [I2.ok.glob]; exact (I2.mod.glob.keeps I2.bk).extBut hx TB.gP) e1 e2 (keep3 _ _ e4 (I2.bk _ _ e5)) e6 e7 e8 ?_
    intro h' hn' hs'
    obtain ⟨more, em⟩ := hmore
    -- the state ahead of the frame
    generalize hs4 : ({ s2 with heap := h3, toks := tk } : Shared) = s4 at hn' hs' ⊢
    have e4h : s4.heap = h3 := by rw [← hs4]
    have I4 : Inv X pins σ (upd H2 P (.tbl ps')) s4 := by
      have q := GxR.inv_tab (more := more) (h' := h3) (g' := s2.gens) (d' := s2.drawn) (t' := tk) I2 hP keep3 (by rw [← em]; exact hP3) I2.bare
      rw [← hs4, em]
      exact q
    have hT3 : GxR.Tabbed P H2 (upd H2 P (.tbl ps')) := ⟨⟨ps', upd_same, ht3⟩, fun b hb => upd_ne hb⟩
    obtain ⟨n, Pv, p0, step, fin⟩ := q2 _ hT3
    generalize hH3 : upd H2 P (.tbl ps') = H3 at I4 p0 hT3
    have f4 : ∀ b ∈ fp, FpOk X pins H3 b ∧ b < s4.heap.objs.size := fun b hb => by
      refine ⟨⟨?_, (f2 b hb).2⟩, ?_⟩
      · rw [← hH3, upd_ne (fpP b hb)]
        exact (f2 b hb).1
      · rw [e4h]
        exact Nat.lt_of_lt_of_le (fpLt b hb) hsz
    have sz' : h'.objs.size = s4.heap.objs.size + 1 := by rw [hs'.1, Heap.size_push]
    have kp' : ∀ b o, s4.heap.get? b = some o → h'.get? b = some o := fun b o e => hs'.extBut b o (Nat.ne_of_lt (Heap.lt_size e)) (Heap.get?_push_of_some _ e)
    generalize hgo : ({ cls := .type "generator", data := .fields #[.int s4.gens.size 0, .str "<genexpr>" (s4.toks + 1), .str (X.env.qual ++ "<genexpr>") (s4.toks + 1 + 1)] } : Obj) = go
    have kp5 : ∀ b o, s4.heap.get? b = some o → (h'.push go).get? b = some o := fun b o e => Heap.get?_push_of_some _ (kp' b o e)
    have hga : (h'.push go).get? h'.objs.size = some go := by
      rw [← hgo]
      exact Heap.get?_push_size _ rfl
    have hlt : s4.heap.objs.size < h'.objs.size := by omega
    have ngo : ∀ v, go.data ≠ .cell v := fun v z => by
      rw [← hgo] at z
      cases z
    have isg : (h'.push go).IsGen h'.objs.size s4.gens.size := ⟨go, _, _, hga, by rw [← hgo], by rw [← hgo], by rw [← hgo]⟩
    generalize hcv : gEnv X scope s4.heap.objs.size code = cenv
    generalize hA : X.A.in1.in1.over (.compLoop (.GeneratorExp elt [⟨tg, iter, [], 0⟩] scope gpos) 0 (.ref it) .none cenv) [] = A'
    have hfr : A'.frames = some (cenv :: X.stack) := by
      rw [← hA]
      show pushEnvs [cenv] (pushEnvs [] X.A.frames) = _
      rw [I4.ok.frames]
      rfl
    have hA' : X.A.in1.in1.over (.compStart (.GeneratorExp elt [⟨tg, iter, [], 0⟩] scope gpos) 0 (.ref it) .none cenv) [] = A' := by
      rw [← hA]
      rfl
    have hh' : A'.handled = none := by
      rw [← hA]
      exact hr.hd
    have hroom : Room k A' := by
      refine ⟨hh', ?_, ?_⟩
      · rw [← hA]
        show X.A.depth + 0 + 1 + 3 * k + 5 < _
        have := hr.dp
        omega
      · rw [← hA]
        show X.A.units + 1 + 1 + 0 + 3 + 16 * k + 200 < _
        have := hr.un
        omega
    have st4 : ∀ (h : Heap), (∀ b o, s4.heap.get? b = some o → h.get? b = some o) → tn 0 h := fun h kk => T.keep _ _ _ st2 fun b hb o e => kk b o (by rw [e4h]; exact keep3 b o (fpP b hb) e)
    have loop : ∀ (s0 s6 : Shared), (∃ g', s6 = { s4 with heap := h'.push go, gens := g', toks := s4.toks + 1 + 1 + 1 } ∧ AllBare g') →
        Seg (model X.prog X.w) X.A.in1.in1 (RT fun s1 => ∃ H', Inv (gx X s4 H3 cenv fp A') [(h'.objs.size, go)] (wipe σ (own.map (·.2))) H' s1 ∧ Pv n H') (YT b h'.objs.size s4.gens.size) n s0
          (.compStart (.GeneratorExp elt [⟨tg, iter, [], 0⟩] scope gpos) 0 (.ref it) .none cenv)
          ((model X.prog X.w).den (.compStart (.GeneratorExp elt [⟨tg, iter, [], 0⟩] scope gpos) 0 (.ref it) .none cenv)) [] s6 := by
      rintro s0 s6 ⟨g', es6, hb6⟩
      have I6 : Inv (gx X s4 H3 cenv fp A') [(h'.objs.size, go)] (wipe σ (own.map (·.2))) H3 s6 := by
        rw [es6, ← hcv]
        refine gen_start (m := fun y => if y = ".0" then some (.ref it) else none) I4 ok hN nc f4 (fun _ => hh') (by rw [hcv]; exact hfr) (hn'.push _) kp5 hlt hga ngo hb6
      have st6 : tn 0 s6.heap := by
        rw [es6]
        exact st4 _ kp5
      have n6 : ∀ c ∈ fp, H3 c = none := fun c hc' => (f4 c hc').1.1
      have turns := gen_turns (X := X) (σ := σ) (s4 := s4) (H3 := H3) (cenv := cenv) (fp := fp) (A0 := X.A.in1.in1) (A' := A') (scope := scope) (elt := elt) (tg := tg) (iter := iter) (gpos := gpos) (it := it) (a := h'.objs.size) (go := go) (g := s4.gens.size)
        (vs := own.map (·.2)) (gt := gt) (te := te) (b := b) (n := n) (Pv := Pv) (tn := tn) (J := J) hc (by rw [← hcv]; exact hco) T (fun c hc' z => by
          have q := (f4 c hc').2
          rw [z] at q
          exact Nat.lt_irrefl _ (Nat.lt_trans hlt q)) hgo.symm hA (by rw [← hcv]; exact pg s4 H3 _ code fp A') (by rw [← hcv]; exact pe s4 H3 _ code fp A' hroom) step (fun H p => (fin H p).1) n 0
      show Seg _ X.A.in1.in1 _ _ _ s0 _ ((compStart (.GeneratorExp elt [⟨tg, iter, [], 0⟩] scope gpos) 0 (.ref it) .none cenv).onRaise (leaving cenv)) [] s6
      unfold compStart
      rw [Sem.onRaise_eq_wrap]
      show Seg _ X.A.in1.in1 _ _ _ s0 _ ((ask >>= _).wrap _ _ _ _) [] s6
      have go1 := turns s0 s6 H3 (Nat.sub_zero n) (Nat.zero_le n) I6 st6 n6 p0
      refine seg_bind_wrap (wpAny_askSetting ?_)
      split
      · exact seg_again rfl go1
      · refine seg_bind_wrap (wpAny_rule ?_)
        show Seg _ X.A.in1.in1 _ _ _ s0 _ ((standAt iter.pos >>= _).wrap _ _ _ _) [] s6
        exact seg_bind_wrap (wpAny_standAt (seg_bind_wrap (T.self _ 0 s6 _ _ st6 (seg_again rfl go1))))
    refine ⟨h'.objs.size, s4.gens.size, n, fun s1 => ∃ H', Inv (gx X s4 H3 cenv fp A') [(h'.objs.size, go)] (wipe σ (own.map (·.2))) H' s1 ∧ Pv n H', rfl, isg, I4.nolimit.keeps kp5, ⟨_, Array.getElem?_push_size .., ?_⟩, ?_⟩
    · refine ⟨rfl, ?_⟩
      have e : gEnv X scope s4.heap.objs.size code = cenv := hcv
      show Seg _ _ _ _ _ _ (.compStart (.GeneratorExp elt [⟨tg, iter, [], 0⟩] scope gpos) 0 (.ref it) .none (gEnv X scope s4.heap.objs.size code)) ((model X.prog X.w).den (.compStart (.GeneratorExp elt [⟨tg, iter, [], 0⟩] scope gpos) 0 (.ref it) .none (gEnv X scope s4.heap.objs.size code))) [] _
      rw [e]
      exact loop _ _ ⟨_, rfl, allBare_setGen (s := { s4 with heap := h'.push go, gens := s4.gens.push _, toks := s4.toks + 1 + 1 + 1 }) (I4.bare.push rfl) rfl⟩
    · rintro s1 h9 ⟨H', I9, p9⟩ k9
      have J1 : Inv X pins σ H' s1 := I4.call' (ch := fp) I9.os I9.base I9.hok I9.bare fun c hc' => ⟨(f4 c hc').1.2.2.2.1, (f4 c hc').1.2.1, (f4 c hc').1.2.2.2.2.1, (f4 c hc').1.2.2.2.2.2⟩
      have J2 : Inv X pins σ H' { s1 with heap := h9, toks := s1.toks } := J1.kept k9
      exact ⟨H', inv_at J2 rfl rfl (allBare_setGen (s := s1) J1.bare rfl), (fin H' p9).2⟩
  cases hfc : codeAmong gpos ps.toList with
  | none =>
    refine wpAny_genexprCodeX hcode (cd.code hPs ht) (cd.tab hPs) hfc fun c' h' tk hx hge hlt hco' _ htab' _ => ?_
    obtain ⟨o1, vs1, f1, tf, fl, tgx, inF, tx, tt, op, _, _, _, _, _, _, _, _, _, htr, _⟩ := hco'
    exact cont _ h' tk _ hx (Nat.le_trans hge (Nat.le_of_lt hlt)) htab'.2 ⟨_, rfl⟩ htr
  | some cv =>
    refine wpAny_genexprCode_hit hcode (cd.code hPs ht) hfc ?_
    exact cont cv s2.heap s2.toks ps (Heap.ExtBut.refl _ _) (Nat.le_refl _) hPs ⟨#[], by simp⟩ ht

/-- all(elt for tg in iter), True each time -/
theorem pe_allB {c P : Addr} {elt tg iter : Expr} {scope : Scope} {own : List (Str × Nat)} {gpos p pos : Pos} {wi : TI} {gt : TG} {te : TE} {k : Nat}
    (hc : X.calm = true) (hr : Room (k + 1) X.A) (hg : Gl X "all") (hm : X.mg "all" = none) (TB : GxR.TabB X.base X.mg c P) (hcode : X.env.code = .ref c) (hN : X.N.Nodup) (hi : PI X tg iter wi) (ok : BlkOk X.N X.env.scope scope own)
    (pg : ∀ (s : Shared) (H : Hp) (L : Addr) (cd : Value) (fp : List Addr) (A' : Around), PG (gx X s H (gEnv X scope L cd) fp A') tg gt)
    (pe : ∀ (s : Shared) (H : Hp) (L : Addr) (cd : Value) (fp : List Addr) (A' : Around), Room k A' → PE (gx X s H (gEnv X scope L cd) fp A') elt te)
    (nc : ∀ y ∈ scope.names, y.2 ≠ NameKind.cell := by decide +kernel) (hco : scope.isCoroutine = false := by rfl) (h0 : scope.names.lookup (".0" : Str) = some NameKind.local := by decide +kernel)
    (hs : ∀ v, genFold iter X.env v = pure v := by intro _; rfl)
    (he : starEach [.GeneratorExp elt [⟨tg, iter, [], 0⟩] scope gpos] X.env = (false, eval (.GeneratorExp elt [⟨tg, iter, [], 0⟩] scope gpos) X.env) :: starEach [] X.env := by rfl) :
    PE X (.Call (.Name "all" p) [.GeneratorExp elt [⟨tg, iter, [], 0⟩] scope gpos] [] pos) (tGenB wi gt te P true (own.map (·.2))) := by
  refine ⟨fun pins s σ H Q I h => ?_⟩
  refine wpAny_Call_Name_kw (ld_blt I hg hm (show bootBuiltins "all" = some (.builtin "all") by decide +kernel) ?_)
  refine PyProof.Rows.callWith_builtin1 ?_ he (by rfl)
  rw [he]
  show wpAny _ _ (spliced ((false, eval (.GeneratorExp elt [⟨tg, iter, [], 0⟩] scope gpos) X.env) :: backTo pos (starEach [] X.env))) _ _ s
  refine Calls.spliced_cons (thn (gen_make hc hr TB hcode hN ok nc hco h0 hi pg pe hs I h) fun v s5 hv => Calls.spliced_nil ?_)
  obtain ⟨a, g, n, Fn, rfl, hg1, hl1, hgo, hfin⟩ := hv
  refine call_function_tree F.kind_all F.plain_all F.entry_all (F.args_all1 _) ?_
  unfold Builtin.«all»
  refine wpAny_bind (m := oneArg "all" _) (wpAny_pure ?_)
  refine wpAny_bind (wpAny_pyIter_gen hg1 ?_)
  refine wpAny_pure ⟨plainId_quiet F.plain_all_loop _, ?_⟩
  refine drawn_all hr.hd (by have := hr.dp; omega) (fun s1 h' f kk => ?_) n s5 hg1 hl1 hgo
  obtain ⟨H', I', q⟩ := hfin s1 h' f kk
  exact ⟨.bl true, H', I', rfl, q⟩
/-- any(elt for tg in iter), False each time -/
theorem pe_anyB {c P : Addr} {elt tg iter : Expr} {scope : Scope} {own : List (Str × Nat)} {gpos p pos : Pos} {wi : TI} {gt : TG} {te : TE} {k : Nat}
    (hc : X.calm = true) (hr : Room (k + 1) X.A) (hg : Gl X "any") (hm : X.mg "any" = none) (TB : GxR.TabB X.base X.mg c P) (hcode : X.env.code = .ref c) (hN : X.N.Nodup) (hi : PI X tg iter wi) (ok : BlkOk X.N X.env.scope scope own)
    (pg : ∀ (s : Shared) (H : Hp) (L : Addr) (cd : Value) (fp : List Addr) (A' : Around), PG (gx X s H (gEnv X scope L cd) fp A') tg gt)
    (pe : ∀ (s : Shared) (H : Hp) (L : Addr) (cd : Value) (fp : List Addr) (A' : Around), Room k A' → PE (gx X s H (gEnv X scope L cd) fp A') elt te)
    (nc : ∀ y ∈ scope.names, y.2 ≠ NameKind.cell := by decide +kernel) (hco : scope.isCoroutine = false := by rfl) (h0 : scope.names.lookup (".0" : Str) = some NameKind.local := by decide +kernel)
    (hs : ∀ v, genFold iter X.env v = pure v := by intro _; rfl)
    (he : starEach [.GeneratorExp elt [⟨tg, iter, [], 0⟩] scope gpos] X.env = (false, eval (.GeneratorExp elt [⟨tg, iter, [], 0⟩] scope gpos) X.env) :: starEach [] X.env := by rfl) :
    PE X (.Call (.Name "any" p) [.GeneratorExp elt [⟨tg, iter, [], 0⟩] scope gpos] [] pos) (tGenB wi gt te P false (own.map (·.2))) := by
  refine ⟨fun pins s σ H Q I h => ?_⟩
  refine wpAny_Call_Name_kw (ld_blt I hg hm boot_any ?_)
  refine PyProof.Rows.callWith_builtin1 ?_ he (by rfl)
  rw [he]
  show wpAny _ _ (spliced ((false, eval (.GeneratorExp elt [⟨tg, iter, [], 0⟩] scope gpos) X.env) :: backTo pos (starEach [] X.env))) _ _ s
  refine Calls.spliced_cons (thn (gen_make hc hr TB hcode hN ok nc hco h0 hi pg pe hs I h) fun v s5 hv => Calls.spliced_nil ?_)
  obtain ⟨a, g, n, Fn, rfl, hg1, hl1, hgo, hfin⟩ := hv
  refine call_function_tree F.kind_any F.plain_any F.entry_any (F.args_any1 _) ?_
  unfold Builtin.«any»
  refine wpAny_bind (m := oneArg "any" _) (wpAny_pure ?_)
  refine wpAny_bind (wpAny_pyIter_gen hg1 ?_)
  refine wpAny_pure ⟨plainId_quiet F.plain_any_loop _, ?_⟩
  refine drawn_any hr.hd (by have := hr.dp; omega) (fun s1 h' f kk => ?_) n s5 hg1 hl1 hgo
  obtain ⟨H', I', q⟩ := hfin s1 h' f kk
  exact ⟨.bl false, H', I', rfl, q⟩
end
end K1
end
section
set_option Elab.async false
set_option linter.all false
set_option maxRecDepth 100000
set_option maxHeartbeats 2000000
/-! {k: v for t0 in i0 for t1 in i1}: two clauses, no tests, each of a known number of turns. -/
namespace K1
open PySem PySem.Spec PyProof.Rows L2
section
variable {prog : Program} {w : World} {A : Around} {R : Result → Shared → Prop} {s : Shared} {kx vx t0 i0 t1 i1 : Expr} {scope : Scope} {pos : Pos} {it : Value} {d : Addr} {env : Env}
abbrev dcE (kx vx t0 i0 t1 i1 : Expr) (scope : Scope) (pos : Pos) : Expr := .DictComp kx vx [⟨t0, i0, [], 0⟩, ⟨t1, i1, [], 0⟩] scope pos
theorem dturn0 (kx vx t0 i0 t1 i1 : Expr) (scope : Scope) (pos : Pos) (it acc : Value) (env : Env) :
    compTurn (dcE kx vx t0 i0 t1 i1 scope pos) 0 it acc env = (do
      standAt i0.pos
      match ← pyNext it with
      | none => pure (.done .next)
      | some v =>
        letOwnedTupleGo t0 it v
        assign t0 env v
        let x ← eval i1 env
        standAt i1.pos
        let x ← foldedSetIterable i1 env x
        let _ ← runOwn (.compStart (dcE kx vx t0 i0 t1 i1 scope pos) 1 (← holding [x] (pyIter x)) acc env) env
        again (.compLoop (dcE kx vx t0 i0 t1 i1 scope pos) 0 it acc env)) := by rfl
theorem dturn1 (kx vx t0 i0 t1 i1 : Expr) (scope : Scope) (pos : Pos) (it : Value) (d : Addr) (env : Env) :
    compTurn (dcE kx vx t0 i0 t1 i1 scope pos) 1 it (.ref d) env = (do
      standAt i1.pos
      match ← pyNext it with
      | none => pure (.done .next)
      | some v =>
        letOwnedTupleGo t1 it v
        assign t1 env v
        (do
          let kv ← eval kx env
          let vv ← holding [kv] (eval vx env)
          standAt { kx.pos with endLine := vx.pos.endLine, endCol := vx.pos.endCol }
          holding [kv, vv] (dictSet d kv vv))
        again (.compLoop (dcE kx vx t0 i0 t1 i1 scope pos) 1 it (.ref d) env)) := by rfl
/-- an end that is never raised to -/
abbrev Nvr : Value → Shared → Prop := fun _ _ => False
theorem dloop0 (hs : ∀ x, foldedSetIterable i1 env x = pure x) (I : Nat → Shared → Prop)
    (turn : ∀ n s, I n s → wpAny (model prog w) A (pyNext it) (fun r s1 => match r with
      | none => R (.ok .next) s1
      | some v => wpAny (model prog w) A (letOwnedTupleGo t0 it v) (fun _ s2 => wpAny (model prog w) A (assign t0 env v) (fun _ s3 =>
          wpAny (model prog w) A (eval i1 env) (fun x s4 => wpAny (model prog w) A (pyIter x) (fun it1 s5 =>
            codeAny (model prog w) A (.compStart (dcE kx vx t0 i0 t1 i1 scope pos) 1 it1 (.ref d) env) (fun r s' => match r with
              | .ok _ => ∃ m, m < n ∧ I m s'
              | .error _ => False) s5) Nvr s4) Nvr s3) Nvr s2) Nvr s1) Nvr s)
    (n : Nat) (h : I n s) : codeAny (model prog w) A (.compLoop (dcE kx vx t0 i0 t1 i1 scope pos) 0 it (.ref d) env) R s := by
  refine codeAny_loop rfl I (fun n s hI => ?_) n h
  show wpAny _ A ((compTurn (dcE kx vx t0 i0 t1 i1 scope pos) 0 it (.ref d) env).onRaise (fun x => do noteFrame x env; theTreesLotGoes x)) _ _ s
  refine wpAny_noted ?_
  rw [dturn0]
  refine wpAny_bind (wpAny_standAt (wpAny_bind (thnF (turn n s hI) fun r s1 h1 => ?_)))
  cases r with
  | none => exact wpAny_pure h1
  | some v =>
    refine wpAny_bind (thnF h1 fun _ s2 h2 => ?_)
    refine wpAny_bind (thnF h2 fun _ s3 h3 => ?_)
    refine wpAny_bind (thnF h3 fun x s4 h4 => ?_)
    refine wpAny_bind (wpAny_standAt (wpAny_bind (wpAny_of_eq (hs x) (wpAny_bind (wpAny_holding (thnF h4 fun it1 s5 h5 => ?_))))))
    refine wpAny_bind (wpAny_runOwn ?_)
    rw [Around.mark_none]
    refine codeAny_mono h5 fun r s' hr => ?_
    cases r with
    | ok f =>
      first
        | exact wpAny_pure ⟨rfl, hr⟩
        | exact wpAny_bind (wpAny_pure (wpAny_pure ⟨rfl, hr⟩))
    | error e => exact hr.elim
theorem dloop1 (I : Nat → Shared → Prop)
    (turn : ∀ n s, I n s → wpAny (model prog w) A (pyNext it) (fun r s1 => match r with
      | none => R (.ok .next) s1
      | some v => wpAny (model prog w) A (letOwnedTupleGo t1 it v) (fun _ s2 => wpAny (model prog w) A (assign t1 env v) (fun _ s3 =>
          wpAny (model prog w) A (eval kx env) (fun kv s4 => wpAny (model prog w) A (eval vx env) (fun vv s5 =>
            wpAny (model prog w) A (dictSet d kv vv) (fun _ s6 => ∃ m, m < n ∧ I m s6) Nvr s5) Nvr s4) Nvr s3) Nvr s2) Nvr s1) Nvr s)
    (n : Nat) (h : I n s) : codeAny (model prog w) A (.compLoop (dcE kx vx t0 i0 t1 i1 scope pos) 1 it (.ref d) env) R s := by
  refine codeAny_loop rfl I (fun n s hI => ?_) n h
  show wpAny _ A ((compTurn (dcE kx vx t0 i0 t1 i1 scope pos) 1 it (.ref d) env).onRaise (fun x => do noteFrame x env; theTreesLotGoes x)) _ _ s
  refine wpAny_noted ?_
  rw [dturn1]
  refine wpAny_bind (wpAny_standAt (wpAny_bind (thnF (turn n s hI) fun r s1 h1 => ?_)))
  cases r with
  | none => exact wpAny_pure h1
  | some v =>
    refine wpAny_bind (thnF h1 fun _ s2 h2 => ?_)
    refine wpAny_bind (thnF h2 fun _ s3 h3 => ?_)
    refine wpAny_bind (wpAny_bind (thnF h3 fun kv s4 h4 => wpAny_bind (wpAny_holding (thnF h4 fun vv s5 h5 => ?_))))
    exact wpAny_bind (wpAny_standAt (wpAny_holding (thnF h5 fun _ s6 h6 => wpAny_pure ⟨rfl, h6⟩)))
theorem dstart1 (h0 : codeAny (model prog w) A (.compLoop (dcE kx vx t0 i0 t1 i1 scope pos) 1 it (.ref d) env) R s)
    (h : wpAny (model prog w) A (pyIter it) (fun it' s' => codeAny (model prog w) A (.compLoop (dcE kx vx t0 i0 t1 i1 scope pos) 1 it' (.ref d) env) R s') Nvr s) :
    codeAny (model prog w) A (.compStart (dcE kx vx t0 i0 t1 i1 scope pos) 1 it (.ref d) env) R s := by
  refine codeAny_of_tree ?_
  show wpAny _ _ ((compStart (dcE kx vx t0 i0 t1 i1 scope pos) 1 it (.ref d) env).onRaise (fun x => do noteFrame x env; standAt theWindowsPlace)) _ _ s
  refine wpAny_notedAt ?_
  unfold compStart
  show wpAny _ _ (ask >>= _) _ _ s
  refine wpAny_bind (wpAny_askSetting (wpAny_ite ?_))
  split
  · first
      | exact wpAny_bind (wpAny_pure (wpAny_pure (And.intro rfl h0)))
      | exact wpAny_pure (And.intro rfl h0)
  · refine wpAny_bind (wpAny_rule ?_)
    show wpAny _ _ (standAt i1.pos >>= _) _ _ s
    exact wpAny_bind (wpAny_standAt (wpAny_bind (thnF h fun it' s' h' => wpAny_pure (And.intro rfl h'))))
end

section
variable {X : Cx}
/-- behind the outer item's store the inner loop, from which the next outer turn is reached; D: the new dict -/
def tDc2 (wi : TI) (g : TG) (wi1 : TI) (g1 : TG) (tk tv : TE) (vs vs1 : List Nat) : TE := fun σ H Q => wi σ H fun J H1 => ∀ D, H1 D = none → ∃ (n : Nat) (Pv : Nat → Hp → Prop), Pv 0 (upd H1 D (.dK [])) ∧
  (∀ i H, i < n → Pv i H → J.go i H ∧ ∀ x H', J.yld i H x H' → g x (wipe σ vs) H' fun σ2 H2 => wipe σ2 vs = wipe σ vs ∧
    wi1 σ2 H2 fun J1 H4 => ∃ (n1 : Nat) (Pw : Nat → Hp → Prop), Pw 0 H4 ∧
      (∀ j H, j < n1 → Pw j H → J1.go j H ∧ ∀ x H', J1.yld j H x H' → g1 x (wipe σ2 vs1) H' fun σ3 H5 => wipe σ3 vs1 = wipe σ2 vs1 ∧
        tk σ3 H5 fun y H6 => tv σ3 H6 fun z H7 => ∃ kvs k, y = kV k ∧ H7 D = some (.dK kvs) ∧ kvs.length < sizeLine ∧ Pw (j + 1) (upd H7 D (.dK (putK kvs k z)))) ∧
      ∀ H, Pw n1 H → J1.stop n1 H ∧ Pv (i + 1) H) ∧
  ∀ H, Pv n H → J.stop n H ∧ Q (.ref D) H
theorem pe_dc2 {kx vx tg iter tg1 iter1 : Expr} {scope : Scope} {own : List (Str × Nat)} {vs1 : List Nat} {pos : Pos} {wi wi1 : TI} {g g1 : TG} {tk tv : TE} (hc : X.calm = true) (hN : X.N.Nodup) (hi : PI X tg iter wi) (ok : BlkOk X.N X.env.scope scope own) (hv : ∀ i ∈ vs1, i ∈ own.map (·.2))
    (hg : ∀ (s : Shared) (H : Hp) (C : Addr) (cl : List (Str × Addr)) (fp : List Addr), PG (X.blk s H scope (compEnvC scope cl C X.env) fp) tg g)
    (hi1 : ∀ (s : Shared) (H : Hp) (C : Addr) (cl : List (Str × Addr)) (fp : List Addr), PI (X.blk s H scope (compEnvC scope cl C X.env) fp) tg1 iter1 wi1)
    (hg1 : ∀ (s : Shared) (H : Hp) (C : Addr) (cl : List (Str × Addr)) (fp : List Addr), PG (X.blk s H scope (compEnvC scope cl C X.env) fp) tg1 g1)
    (hk : ∀ (s : Shared) (H : Hp) (C : Addr) (cl : List (Str × Addr)) (fp : List Addr), PE (X.blk s H scope (compEnvC scope cl C X.env) fp) kx tk)
    (he : ∀ (s : Shared) (H : Hp) (C : Addr) (cl : List (Str × Addr)) (fp : List Addr), PE (X.blk s H scope (compEnvC scope cl C X.env) fp) vx tv)
    (hs : ∀ x, foldedSetIterable iter X.env x = pure x := by intro _; rfl) (hs1 : ∀ env x, foldedSetIterable iter1 env x = pure x := by intro _ _; rfl) :
    PE X (dcE kx vx tg iter tg1 iter1 scope pos) (tDc2 wi g wi1 g1 tk tv (own.map (·.2)) vs1) := by
  refine ⟨fun pins s σ H Q I h => ?_⟩
  rw [arm_eval_DictComp]
  have hfree : ∀ y ∈ scope.names, y.2 = NameKind.free → ∃ c, X.env.cells.lookup y.1 = some c := fun y hy e => by
    rcases ok.free y hy e with q | q
    · exact I.ok.has y.1 (Or.inl q)
    · exact I.ok.has y.1 (Or.inr q)
  refine wpAny_comprehension_free (use := none) rfl hs (closure_ok hfree) ok.kind (fun y hy e => by rw [ok.uniq y hy, e])
    (thn (hi.run pins s σ H _ I h) fun xv s1 hx => thn hx fun itv s2 h2 => ?_)
  obtain ⟨it, fp, tn, J, H2, rfl, I2, T, st2, f2, q⟩ := h2
  refine wpAny_newObj_type (newEnv_comp ?_)
  generalize hD : s2.heap.objs.size = D
  have hDn : H2 D = none := I2.hok.fresh (Nat.le_of_eq hD)
  obtain ⟨n, Pv, p0, step, fin⟩ := q D hDn
  -- the new dict
  generalize hs3 : ({ s2 with heap := s2.heap.push { cls := .type "dict", data := .dict #[] } } : Shared) = s3
  have I3 : Inv X pins σ (upd H2 D (.dK [])) s3 := by
    rw [← hs3]
    refine I2.laid (t' := s2.toks) (fun b o e => Heap.get?_push_of_some _ e) (Nat.le_of_eq hD) ?_
    rw [← hD]
    exact dk_empty s2.heap I2.big
  have h3 : s3.heap = s2.heap.push { cls := .type "dict", data := .dict #[] } := by rw [← hs3]
  have f3 : ∀ b ∈ fp, FpOk X pins (upd H2 D (.dK [])) b ∧ b < s3.heap.objs.size := fun b hb => by
    obtain ⟨o, e, _⟩ := T.obj _ _ st2 b hb
    have hlt := Heap.lt_size e
    refine ⟨⟨?_, (f2 b hb).2⟩, ?_⟩
    · rw [upd_ne (by rw [← hD]; exact Nat.ne_of_lt hlt)]
      exact (f2 b hb).1
    · rw [h3, Heap.size_push]
      exact Nat.lt_succ_of_lt hlt
  have st3 : tn 0 s3.heap := T.keep _ _ _ st2 fun b _ o e => by rw [h3]; exact Heap.get?_push_of_some _ e
  have I4 := block_start I3 ok hN f3
  have pg := hg s3 (upd H2 D (.dK [])) s3.heap.objs.size (cellsFrom (s3.heap.objs.size + 1) scope.names (cloFrom X.env.cells scope.names [])) fp
  have pi1 := hi1 s3 (upd H2 D (.dK [])) s3.heap.objs.size (cellsFrom (s3.heap.objs.size + 1) scope.names (cloFrom X.env.cells scope.names [])) fp
  have pg1 := hg1 s3 (upd H2 D (.dK [])) s3.heap.objs.size (cellsFrom (s3.heap.objs.size + 1) scope.names (cloFrom X.env.cells scope.names [])) fp
  have pk := hk s3 (upd H2 D (.dK [])) s3.heap.objs.size (cellsFrom (s3.heap.objs.size + 1) scope.names (cloFrom X.env.cells scope.names [])) fp
  have pe := he s3 (upd H2 D (.dK [])) s3.heap.objs.size (cellsFrom (s3.heap.objs.size + 1) scope.names (cloFrom X.env.cells scope.names [])) fp
  have nfp : ∀ b ∈ fp, (upd H2 D (.dK [])) b = none := fun b hb => (f3 b hb).1.1
  show codeAny _ _ (.compStart (dcE kx vx tg iter tg1 iter1 scope pos) 0 (.ref it) (.ref D) (compEnvC scope (cellsFrom (s3.heap.objs.size + 1) scope.names (cloFrom X.env.cells scope.names [])) s3.heap.objs.size X.env)) (compPost (model X.prog X.w) X.A X.xe none (EP X pins σ Q) (.ref D) s3.heap.objs.size) { s3 with heap := pushCells (s3.heap.push { cls := .type "dict", data := .dict #[] }) scope.names }
  generalize hce : compEnvC scope (cellsFrom (s3.heap.objs.size + 1) scope.names (cloFrom X.env.cells scope.names [])) s3.heap.objs.size X.env = ce at I4 pg pi1 pg1 pk pe ⊢
  have cL : ce.locals = s3.heap.objs.size := by subst hce; rfl
  generalize hH3 : upd H2 D (.dK []) = H3 at I3 I4 pg pi1 pg1 pk pe p0 nfp f3
  generalize hs4 : ({ s3 with heap := pushCells (s3.heap.push { cls := .type "dict", data := .dict #[] }) scope.names } : Shared) = s4 at I4 ⊢
  have st4 : tn 0 s4.heap := T.keep _ _ _ st3 fun b _ o e => by rw [← hs4]; exact pushCells_keeps _ _ _ _ (Heap.get?_push_of_some _ e)
  have stat : ∀ {σ' : L2.St} {H' : Hp} {s' : Shared}, Inv (X.blk s3 H3 scope ce fp) [] σ' H' s' → (∀ b ∈ fp, H' b = none) → ∀ b ∈ fp, FpOk (X.blk s3 H3 scope ce fp) [] H' b := fun {σ' H' s'} I' hn b hb =>
    ⟨hn b hb, (I'.ok.exf b hb).1, I'.ok.exfs b hb, Or.inl hb, fun x c e => (I'.ok.exf b hb).2 x c e, fun p hp => absurd (show p ∈ ([] : List (Addr × Obj)) ++ [] from hp) (by simp)⟩
  have loop : codeAny (model X.prog X.w) X.A (.compLoop (dcE kx vx tg iter tg1 iter1 scope pos) 0 (.ref it) (.ref D) ce) (compPost (model X.prog X.w) X.A X.xe none (EP X pins σ Q) (.ref D) s3.heap.objs.size) s4 := by
    refine dloop0 (hs1 ce) (fun m s' => ∃ i H', m = n - i ∧ i ≤ n ∧ Inv (X.blk s3 H3 scope ce fp) [] (wipe σ (own.map (·.2))) H' s' ∧ tn i s'.heap ∧ (∀ b ∈ fp, H' b = none) ∧ Pv i H') ?_ n ⟨0, H3, (Nat.sub_zero n).symm, Nat.zero_le n, I4, st4, nfp, p0⟩
    rintro m s5 ⟨i, H5, rfl, hin, I5, st5, n5, p5⟩
    by_cases hlt : i < n
    case neg =>
      obtain rfl : i = n := Nat.le_antisymm hin (Nat.le_of_not_lt hlt)
      refine thnF (T.done (X.blk s3 H3 scope ce fp) rfl rfl rfl hc i [] s5 _ H5 (fun _ _ => False) I5 (stat I5 n5) st5 (fin H5 p5).1) fun r s6 ⟨hr, I6⟩ => ?_
      subst hr
      have I7 : Inv X pins σ H5 s6 := I3.call' (ch := fp) I6.os I6.base I6.hok I6.bare fun b hb => ⟨(f3 b hb).1.2.2.2.1, (f3 b hb).1.2.1, (f3 b hb).1.2.2.2.2.1, (f3 b hb).1.2.2.2.2.2⟩
      have nC : H5 s3.heap.objs.size = none := by
        have z : H5 ce.locals = none := I6.free
        rw [cL] at z
        exact z
      obtain ⟨m, hn, _⟩ := I6.loc
      have hn : s6.heap.Ns ce.locals m := hn
      rw [cL] at hn
      refine ⟨m, hn, fun h'' sb => ?_⟩
      obtain ⟨e0, e1, e2, e3, e4, e5⟩ := I3.fpOk (H' := H5) (Nat.le_refl s3.heap.objs.size) nC
      exact ⟨.ref D, H5, I7.turned (t' := s6.toks) (fun b o hb e => (sb.2 b hb).trans e) e0 e1 e3 e4 e5, rfl, (fin H5 p5).2⟩
    case pos =>
      obtain ⟨go, hst⟩ := step i H5 hlt p5
      refine thnF (T.item (X.blk s3 H3 scope ce fp) rfl rfl rfl hc i [] s5 _ H5 (fun _ _ => False) I5 (stat I5 n5) st5 go) fun r s6 ⟨u, hr, h6⟩ => ?_
      subst hr
      refine thnF h6 fun _ s7 ⟨x, H7, I7, r7, y7, st7, n7⟩ => ?_
      have I7' := I7.pinned (stat I7 n7) (T.obj _ _ st7)
      refine thnF (pg.run _ s7 _ H7 x u _ I7' r7 (hst x H7 y7)) fun _ s8 ⟨σ8, H8, I8, hw8, q8⟩ => ?_
      have hl8 : (wipe σ (own.map (·.2))).length = σ8.length := by rw [← hw8, wipe_length]
      have hk9 : ∀ (j : Nat) v, (wipe σ (own.map (·.2)))[j]? = some (some v) → (wipe σ8 vs1)[j]? = some (some v) := fun j v e => by
        rw [← hw8] at e
        obtain ⟨e1, e2⟩ := wipe_some e
        rw [wipe_out fun z => e2 (hv j z)]
        exact e1
      refine thnF (pi1.run _ s8 σ8 H8 _ I8 q8) fun xv s10 hx => thnF hx fun itv s11 h11 => ?_
      obtain ⟨it1, fp1, tn1, J1, H11, rfl, I11, T1, st11, f11, n1, Pw, w0, stp1, fin1⟩ := h11
      have stat1 : ∀ {H' : Hp}, (∀ b ∈ fp1, H' b = none) → ∀ b ∈ fp1, FpOk (X.blk s3 H3 scope ce fp) ([] ++ pinsAt fp s7.heap) H' b := fun hn b hb => ⟨hn b hb, (f11 b hb).2⟩
      have inner : codeAny (model X.prog X.w) X.A (.compLoop (dcE kx vx tg iter tg1 iter1 scope pos) 1 (.ref it1) (.ref D) ce)
          (fun r s' => match r with
            | .ok _ => ∃ m, m < n - i ∧ ∃ i H', m = n - i ∧ i ≤ n ∧ Inv (X.blk s3 H3 scope ce fp) [] (wipe σ (own.map (·.2))) H' s' ∧ tn i s'.heap ∧ (∀ b ∈ fp, H' b = none) ∧ Pv i H'
            | .error _ => False) s11 := by
        refine dloop1 (fun m s' => ∃ j H', m = n1 - j ∧ j ≤ n1 ∧ Inv (X.blk s3 H3 scope ce fp) ([] ++ pinsAt fp s7.heap) (wipe σ8 vs1) H' s' ∧ tn1 j s'.heap ∧ (∀ b ∈ fp1, H' b = none) ∧ Pw j H') ?_ n1
          ⟨0, H11, (Nat.sub_zero n1).symm, Nat.zero_le n1, I11.weak (wipe_length _ _) (fun j v e => (wipe_some e).1), st11, fun b hb => (f11 b hb).1, w0⟩
        rintro m s12 ⟨j, H12, rfl, hjn, I12, st12, n12, p12⟩
        by_cases hj : j < n1
        case neg =>
          obtain rfl : j = n1 := Nat.le_antisymm hjn (Nat.le_of_not_lt hj)
          refine thnF (T1.done (X.blk s3 H3 scope ce fp) rfl rfl rfl hc j _ s12 (wipe σ8 vs1) H12 (fun _ _ => False) I12 (stat1 n12) st12 (fin1 H12 p12).1) fun r s13 ⟨hr, I13⟩ => ?_
          subst hr
          have pinO : ∀ b ∈ fp, ∀ o, s7.heap.get? b = some o → s13.heap.get? b = some o ∧ H12 b = none := fun b hb o e =>
            let z := I13.pin (b, o) (List.mem_append_right _ (List.mem_append_right _ (mem_pinsAt hb e)))
            ⟨z.1, z.2.1⟩
          refine ⟨n - (i + 1), by omega, i + 1, H12, rfl, hlt, (I13.unpinned (pins := [])).weak (hl8.trans (wipe_length σ8 vs1).symm) hk9, T.keep _ _ _ st7 fun b hb o e => (pinO b hb o e).1, fun b hb => ?_, (fin1 H12 p12).2⟩
          obtain ⟨o, e, _⟩ := T.obj _ _ st7 b hb
          exact (pinO b hb o e).2
        case pos =>
          obtain ⟨go1, hst1⟩ := stp1 j H12 hj p12
          refine thnF (T1.item (X.blk s3 H3 scope ce fp) rfl rfl rfl hc j _ s12 (wipe σ8 vs1) H12 (fun _ _ => False) I12 (stat1 n12) st12 go1) fun r s13 ⟨u1, hr, h13⟩ => ?_
          subst hr
          refine thnF h13 fun _ s14 ⟨x1, H14, I14, r14, y14, st14, n14⟩ => ?_
          have I14' := I14.pinned (stat1 n14) (T1.obj _ _ st14)
          refine thnF (pg1.run _ s14 (wipe σ8 vs1) H14 x1 u1 _ I14' r14 (hst1 x1 H14 y14)) fun _ s15 ⟨σ15, H15, I15, hw15, q15⟩ => ?_
          refine thnF (pk.run _ s15 σ15 H15 _ I15 q15) fun z s16 ⟨yk, H16, I16, r16, q16⟩ => ?_
          refine thnF (pe.run _ s16 σ15 H16 _ I16 q16) fun z2 s17 ⟨yv, H17, I17, r17, kvs, k, ek, hD17, hz17, nx⟩ => ?_
          subst ek
          refine d_dictSet (X := X.blk s3 H3 scope ce fp) I17 hD17 hz17 r16 r17 fun s18 I18 => ?_
          have pinI : ∀ b ∈ fp1, ∀ o, s14.heap.get? b = some o → s18.heap.get? b = some o ∧ (upd H17 D (.dK (putK kvs k yv))) b = none := fun b hb o e =>
            let z := I18.pin (b, o) (List.mem_append_right _ (List.mem_append_right _ (mem_pinsAt hb e)))
            ⟨z.1, z.2.1⟩
          refine ⟨n1 - (j + 1), by omega, j + 1, _, rfl, hj, I18.unpinned.weak (by rw [← hw15, wipe_length]) (fun j v e => by rw [← hw15] at e; exact (wipe_some e).1), T1.keep _ _ _ st14 fun b hb o e => (pinI b hb o e).1, fun b hb => ?_, nx⟩
          obtain ⟨o, e, _⟩ := T1.obj _ _ st14 b hb
          exact (pinI b hb o e).2
      exact dstart1 inner (T1.self X.A 0 _ _ _ st11 inner)
  exact codeAny_compStart_dict loop (T.self X.A 0 _ _ _ st4 loop)
end
end K1
end
section
set_option Elab.async false
set_option linter.all false
set_option maxRecDepth 100000
set_option maxHeartbeats 2000000
/-! sorted(d) of a dict with int keys, any number; max(xs, default=v) of a list of ints. -/
namespace K1
open PySem PySem.Spec PyProof.Rows L2
section
variable {X : Cx}
/-- sorted(d), int keys, any number of them -/
theorem cr_sortedDict (hcalm : X.calm = true) : CallR X (.builtin "sorted") (fun xs H Q => ∃ (a : Addr) (kvs : List (Key × V)) (ks : List Int), xs = [.ref a] ∧ Rd H a (.dK kvs) ∧ kvs.map (·.1) = ks.map Sum.inl ∧
    ∀ (ys : List Int) (p : Addr), ys.Perm ks → ys.Pairwise (· ≤ ·) → H p = none → Q (.ref p) (upd H p (.lst (ys.map V.int)))) := by
  intro pins s σ H xs us Q I r q
  obtain ⟨a, kvs, ks, ex, hd, hks, q⟩ := q
  subst ex
  obtain ⟨u, eu, rx⟩ := vals1 r
  subst eu
  obtain rfl : u = Value.ref a := rx
  obtain ⟨z, lo, vs, rel, dd⟩ := dk_rd I.hok hd
  obtain ⟨ep, hat⟩ := dd.dictAt
  have hkeys : vs.map (·.1) = ks.map Sum.inl := rel.keys.symm.trans hks
  have hl : vs.length = ks.length := by
    have e := congrArg List.length hkeys
    simpa using e
  have h16 : vs.length ≤ sizeLine := by rw [← rel.length]; exact z
  refine Calls.call_function_entry PyProof.Rows.kind_sorted PyProof.Rows.plain_sorted PyProof.Rows.entry_sorted (PyProof.Rows.args_sorted1 _) ?_
  unfold Builtin.«sorted»
  refine wpAny_bind (m := checkCount "sorted" 1 1 _) (wpAny_pure ?_)
  refine wpAny_bind (PySem.W.kdu_collect (A := X.A.in1) (PySem.W.kdl_dict (knd := mixKind X.prog X.w) (kvs := vs) (ep := ep) lo) (I.ok.hd hcalm) hat h16 fun h' tk acc hk hacc => ?_)
  have hal : acc.toList.length = ks.length := by rw [Array.length_toList, hacc.1, hl]
  have hS : IntsAre acc.toList ks := ints_each hal fun j v e => by
    obtain ⟨k, x, e1, e2⟩ := hacc.2 j v (by rw [← Array.getElem?_toList]; exact e)
    have e3 : (vs.map (·.1))[j]? = some k := by rw [List.getElem?_map, e1]; rfl
    rw [hkeys, List.getElem?_map] at e3
    cases e4 : ks[j]? with
    | none => rw [e4] at e3; exact nomatch e3
    | some y =>
      rw [e4] at e3
      obtain rfl : Sum.inl y = k := Option.some.inj e3
      rcases keyIs_shape (show keyIs (Sum.inl y) v = true from e2) with ⟨i, t, ek, ev⟩ | ⟨z, t, ek, ev⟩
      · obtain rfl := Sum.inl.inj ek
        exact ⟨y, t, rfl, ev⟩
      · exact nomatch ek
  have I1 : Inv X pins σ H { s with heap := h', toks := tk } := I.kept hk
  have hal16 : acc.toList.length ≤ sizeLine := by rw [hal, ← hl]; exact h16
  refine wpAny_bind (wpAny_newList ?_ hal16)
  have hoL : (h'.push (seqObj "list" acc.toList.toArray 0)).get? h'.objs.size = some (seqObj "list" acc.toList.toArray 0) := Heap.get?_push_size _ rfl
  show wpAny _ _ _ _ _ { s with heap := h'.push (seqObj "list" acc.toList.toArray 0), toks := tk }
  refine wpAny_bind (wpAny_holding (wpAny_call_entry PyProof.Rows.slot_list_sort ⟨_, hoL, rfl⟩ PyProof.Rows.entry_list_sort
    (SrtO.list_sort_ord (s := { s with heap := h'.push (seqObj "list" acc.toList.toArray 0), toks := tk }) SrtO.swo_int hoL hal16 (fun h2 => SrtO.ints_sortable hS h2) fun out g1 g2 => ⟨_, rfl, ?_⟩) (PyProof.Rows.args_list_sort _)))
  obtain ⟨k1, k2, k3⟩ := SrtO.ints_out hS g1 g2
  obtain ⟨e', he'⟩ := PyProof.Rows.sortedHeap_at (vs := acc.toList) (out := out.toArray) hoL
  have hlen : ((out.map SrtO.iv).map V.int).length ≤ sizeLine := by
    rw [List.length_map, k2.length_eq, ← hl]
    exact h16
  refine wpAny_pure ⟨_, rfl, .ref h'.objs.size, upd H h'.objs.size (.lst ((out.map SrtO.iv).map V.int)), I1.laid (t' := tk) (fun b u e => ?_) (Nat.le_refl _)
    (show ObjOk X.prog X.w _ _ _ (.lst ((out.map SrtO.iv).map V.int)) from ⟨hlen, out, e', vals_of_ints k1, he'⟩), rfl, q _ _ k2 k3 (I1.hok.fresh (Nat.le_refl _))⟩
  have hb : b < h'.objs.size := Heap.lt_size e
  rw [PyProof.Rows.sortedHeap_old (Nat.ne_of_lt hb) (by rw [size_push']; exact Nat.lt_succ_of_lt hb)]
  exact Heap.get?_push_of_some _ e

theorem reads_ints {h : Heap} : ∀ {vs : List Value} {ns : List Int}, IntsAre vs ns → ∃ as, ReadsAll h vs (ns.map PyData.int) as
  | _, _, .nil => ⟨_, ReadsAll.nil⟩
  | _, _, .cons n t r => by
    obtain ⟨as, q⟩ := reads_ints (h := h) r
    exact ⟨_, ReadsAll.cons (Reads.int n t) q⟩
theorem alike_ints (ns : List Int) : PySem.W.AlikeAll (ns.map PyData.int) := by
  refine ⟨fun x hx y hy => ?_, fun x hx z => ?_⟩
  · obtain ⟨a, _, rfl⟩ := List.mem_map.mp hx
    obtain ⟨b, _, rfl⟩ := List.mem_map.mp hy
    simp [PySem.W.alike]
  · obtain ⟨a, _, rfl⟩ := List.mem_map.mp hx
    exact nomatch z
theorem depth_ints : ∀ ns : List Int, PyData.depthAll (ns.map PyData.int) ≤ 1
  | [] => by simp [PyData.depthAll]
  | n :: ns => by
    have := depth_ints ns
    simp only [List.map_cons, PyData.depthAll, PyData.depth]
    omega
theorem foldl_max_ge : ∀ (ns : List Int) (n : Int), n ≤ ns.foldl max n ∧ (∀ y ∈ ns, y ≤ ns.foldl max n) ∧ (ns.foldl max n = n ∨ ns.foldl max n ∈ ns)
  | [], n => ⟨Int.le_refl n, fun _ h => absurd h List.not_mem_nil, Or.inl rfl⟩
  | m :: ns, n => by
    obtain ⟨h1, h2, h3⟩ := foldl_max_ge ns (max n m)
    refine ⟨?_, fun y hy => ?_, ?_⟩
    · show n ≤ ns.foldl max (max n m)
      omega
    · show y ≤ ns.foldl max (max n m)
      rcases List.mem_cons.mp hy with rfl | hy
      · omega
      · exact h2 y hy
    · show ns.foldl max (max n m) = n ∨ ns.foldl max (max n m) ∈ m :: ns
      rcases h3 with h3 | h3
      · rcases Int.le_total n m with q | q
        · right
          rw [h3, Int.max_eq_right q]
          exact List.mem_cons_self
        · left
          rw [h3, Int.max_eq_left q]
      · exact Or.inr (List.mem_cons_of_mem _ h3)
/-- max(xs, default=v), ints -/
def rMaxD (K : PySem.W.Frag) : List V → List V → Hp → VK → Prop := fun vs zs H Q => ∃ (a : Addr) (ns : List Int) (d : Int), vs = [V.ref a] ∧ zs = [V.int d] ∧ SqL K H a (ns.map V.int) ∧
  ∀ m : Int, (ns = [] ∧ m = d) ∨ (m ∈ ns ∧ ∀ y ∈ ns, y ≤ m) → Q (.int m) H
theorem cr_maxD {k : Nat} (hr : Room k X.A) : CallRK X (.builtin "max") [Str.ofString "default"] (rMaxD X.K) := by
  intro pins s σ H vs zs us ws Q I r rz h
  obtain ⟨a, ns, d, rfl, rfl, hs, q⟩ := h
  obtain rfl := Vals.ref1 r
  obtain ⟨w1, rfl, t0, rfl⟩ := vals1 rz
  obtain ⟨its, rv, hl, hz⟩ := I.list hs
  obtain ⟨as, hR⟩ := reads_ints (h := s.heap) rv.ints
  have hu := hr.un
  have hd := depth_ints ns
  refine PySem.W.max_list_default hr.hd hl.isList (show ReadsAll s.heap its.toArray.toList (ns.map PyData.int) as from hR) (alike_ints ns) (by omega) (fun e h' tk hk => ?_) fun y ys i v h' tk bs e hv hrd hk => ?_
  · exact ⟨.int d, H, I.kept hk, ⟨t0, rfl⟩, q d (Or.inl ⟨by simpa using e, rfl⟩)⟩
  · cases ns with
    | nil => exact nomatch e
    | cons n r =>
      rw [List.map_cons] at e
      obtain ⟨rfl, rfl⟩ := List.cons.inj e
      rw [PySem.W.maxD_ints] at hrd
      obtain ⟨h1, h2, h3⟩ := foldl_max_ge r n
      have hv2 : ∃ t, v = Value.int (r.foldl max n) t := by
        generalize hD : PyData.int (r.foldl max n) = D at hrd
        cases hrd with
        | int i t => cases hD; exact ⟨t, rfl⟩
        | _ => exact nomatch hD
      obtain ⟨t, rfl⟩ := hv2
      refine ⟨.int (r.foldl max n), H, I.kept hk, ⟨t, rfl⟩, q _ (Or.inr ⟨?_, fun y hy => ?_⟩)⟩
      · rcases h3 with h3 | h3
        · rw [h3]; exact List.mem_cons_self
        · exact List.mem_cons_of_mem _ h3
      · rcases List.mem_cons.mp hy with rfl | hy
        · exact h1
        · exact h2 y hy
end
end K1
end
section
set_option Elab.async false
set_option maxRecDepth 100000
namespace K1
open PySem L2
/-! the text by places -/
def top (i : Nat) : Stmt := PySem.Challenge.pw_notetrail_k01_evidence_cut.main.body.getD i (.Pass ⟨0, 0, 0, 0⟩)
abbrev sInit : Stmt := inClass (top 2) 0
abbrev sIsNumber : Stmt := top 11
abbrev sIsFlag : Stmt := top 12
abbrev sIsParty : Stmt := top 13
abbrev sIsEntry : Stmt := top 14
abbrev sIsFind : Stmt := top 15
abbrev sAscend : Stmt := top 16
abbrev sIsFile : Stmt := top 17
abbrev sIsParties : Stmt := top 18
abbrev sAreFinds : Stmt := top 19
abbrev sIsEvidence : Stmt := top 20
abbrev sEntryNumbers : Stmt := top 21
abbrev sLastNumber : Stmt := top 22
abbrev sWithFind : Stmt := top 23
abbrev sPicked : Stmt := top 24
abbrev sCut : Stmt := top 25
abbrev sWithout : Stmt := top 26
abbrev sAllNumbers : Stmt := top 27
abbrev sCell : Stmt := top 29
abbrev sDraws : Stmt := top 30
abbrev sParties : Stmt := top 31
abbrev sNoted : Stmt := top 32
abbrev sHonest : Stmt := top 33
abbrev sLied : Stmt := top 34
abbrev sDeed : Stmt := top 35
abbrev sBegun : Stmt := top 36
abbrev sDid : Stmt := top 37
abbrev sWorld : Stmt := top 38
abbrev sEvidence : Stmt := top 39
abbrev sTold : Stmt := top 40
abbrev sLaw : Stmt := top 41
end K1
end
section
set_option Elab.async false
set_option linter.all false
set_option maxRecDepth 100000
set_option maxHeartbeats 4000000
/-! Refused(what): an own error over an own error over ValueError, its __init__ saying super().__init__(what) and keeping what. -/
namespace K1
open PySem PySem.W PySem.Calls PyProof.Rows PySem.HandSPX
/-- what the written part says of Refused, at C, of its __init__, at fI (its code at cd, its class's cell at cc) -/
structure RefTxt (P : Program) (K : Frag) (mg : Str → Option Value) (C fI cd cc : Addr) : Prop where
  gC : mg "Refused" = some (.ref C)
  cls : ∃ nm q N bs bm sn sub ab col dd k0 k1 k2 k3 k5, K.lookup C = some (excClassObj nm q C N bs bm true sn sub ab col dd k0 k1 k2 k3 k5 "ValueError.__new__") ∧ refsVE bm = true
  sa : findIn K (.ref C) "__setattr__" = some (some (.builtin "object.__setattr__"))
  ga : findIn K (.ref C) "__getattribute__" = some (some (.builtin "BaseException.__getattribute__"))
  gg : findIn K (.ref C) "__getattr__" = some none
  noN : findIn K (.ref C) "what" = some none
  iC : findIn K (.ref C) "__init__" = some (some (.ref fI))
  tC : typeIn K (.ref fI) = some (.type "function")
  kC : keepIn K (.ref C) = true
  exC : subIn K (.ref C) (.type "BaseException") = some true
  veC : subIn K (.ref C) (.type "ValueError") = some true
  tyC : typeIn K (.ref C) = some (.type "type")
  hdC : hasDictIn K C = true
  te : exmOne K (.ref C) (.ref C) = some true
  fn : ∃ (oc : Value) (od : Option Addr) (kV doc pm : Value) (an : Option Addr) (ct : Value) (osl : Array (Option Value)),
    K.lookup fI = some ⟨oc, od, .func (ksFn "__init__" "Refused.__init__" (L2.defArgs sInit) (L2.defBody sInit) (L2.defScope sInit) .none kV doc pm an (.ref cd) ct cc), osl⟩ ∧ codeIn K (.ref cd) "Refused.__init__" = true
  code : ∃ (o1 : Value) (o2 : Option Addr) (vs : Array Value) (o3 : Array (Option Value)) (file : Str) (tf : Tok), K.lookup cd = some ⟨o1, o2, .fields vs, o3⟩ ∧ vs[2]? = some (.str file tf) ∧ ((P.main.file : Str) == file) = true
  cell : ∃ (o1 : Value) (o2 : Option Addr) (o3 : Array (Option Value)), K.lookup cc = some ⟨o1, o2, .cell (some (.ref C)), o3⟩
  sub : mroIn K C (.ref C) = some true
  op : nsIn K cStatics "thirdparty.any" = some none
  sup : ks_superIn K C C "__init__" = some (some (.builtin "ValueError.__init__"))
  top : (P.main.scope.names.lookup ("super" : Str)).isSome = false
theorem one_le (v : Value) : [v].length ≤ sizeLine := by
  rw [sizeLine_eq]
  exact (by decide : 1 ≤ 16777216)
/-- what __init__ leaves of a fresh error at x -/
structure InitEnd (h h' : Heap) (x C dx t1 : Addr) (v : Value) : Prop where
  keep : ∀ b o, b ≠ x → h.get? b = some o → h'.get? b = some o
  obj : h'.get? x = some { cls := .ref C, dict := some dx, data := .fields #[.ref t1, .none, .none, .none, .bool false, .none] }
  dbig : h.objs.size ≤ dx
  dne : dx ≠ x
  ns : h'.Ns1 dx (fun y => if y = "what" then some v else none)
/-- a made Refused -/
structure RefMade (h h' : Heap) (e C d : Addr) (v : Value) : Prop where
  keep : ∀ b o, h.get? b = some o → h'.get? b = some o
  new : h.objs.size ≤ e
  obj : ∃ oe vs, h'.get? e = some oe ∧ oe.cls = .ref C ∧ oe.dict = some d ∧ oe.data = .fields vs ∧ vs[1]? = some .none
  dbig : h.objs.size ≤ d
  dne : d ≠ e
  ns : h'.Ns1 d (fun y => if y = "what" then some v else none)
section
variable {prog : Program} {w : World} {A : Around} {E : Value → Shared → Prop} {R : Result → Shared → Prop} {s : Shared} {K : Frag} {mg mb : Str → Option Value} {C fI cd cc : Addr}
/-- the method-wrapper of ValueError.__init__, called -/
theorem call_mw {hp : Heap} {g : Array GenState} {d : Drawn} {t : Nat} {os : OsState} {nm q : Str} {N u e t0 : Addr} {bs bm : List Value} {hdct : Bool} {sn : List Str} {sub : List Value} {ab : Bool} {col : Option Bool} {dd : Option Addr} {k0 k1 k2 k3 k5 : Option Value} {rest : List Value} {Q : Value → Shared → Prop}
    (hC : hp.get? C = some (excClassObj nm q C N bs bm hdct sn sub ab col dd k0 k1 k2 k3 k5 "ValueError.__new__")) (he : hp.get? e = some (excO C t0)) (hu : hp.get? u = some (kxs_mw "ValueError.__init__" e)) (hrest : rest.length ≤ sizeLine)
    (hq : ∀ h' t1, (∀ b o, b ≠ e → hp.get? b = some o → h'.get? b = some o) → h'.get? e = some (excO C t1) → Q .none ⟨h', g, d, t, os⟩) :
    wpAny (model prog w) A (call (.ref u) rest) Q E ⟨hp, g, d, t, os⟩ := by
  refine wpAny_call (codeAny_of_tree ?_)
  show wpAny _ A.in1 (callAny (.ref u) ⟨rest, []⟩) _ _ _
  simp only [callAny]
  refine wpAny_bind (wpAny_load hu ?_)
  simp only [kxs_mw, show (Value.type "method-wrapper" == Value.type "method" || Value.type "method-wrapper" == Value.type "builtin_function_or_method" || Value.type "method-wrapper" == Value.type "method-wrapper") = true by decide, if_true]
  refine KFB.if_so (by decide) ?_
  refine wpAny_bind (check_bound_init F.excBase_ValueError.toExcCallFacts hC he rfl ?_)
  refine wpAny_bind (wpAny_pure (wpAny_pure ?_))
  refine ⟨plainId_quiet F.excBase_ValueError.init.plain _, codeAny_builtin F.excBase_ValueError.initEntry ?_⟩
  rw [Around.under_plainId F.excBase_ValueError.init.plain _]
  exact exc_init_tree (cls := .ref C) (t0 := t0) (dv := none) (c2 := .none) (c3 := .none) (b4 := .bool false) he hrest fun h' k1 k2 _ => hq h' hp.objs.size k1 k2
theorem k_super : (L2.defScope sInit).names.lookup ("super" : Str) = some .globalImplicit := by decide +kernel
theorem k_what : (L2.defScope sInit).names.lookup ("what" : Str) = some .local := by decide +kernel
theorem k_self : (L2.defScope sInit).names.lookup ("self" : Str) = some .local := by decide +kernel
theorem k_class : (L2.defScope sInit).names.lookup ("__class__" : Str) = some .free := by decide +kernel
theorem ne_ws : ¬ (("what" : Str) = "self") := by decide +kernel
theorem bindW {x v : Value} : ([(("self" : Str), x), ("what", v)].reverse).lookup ("what" : Str) = some v := by
  show List.lookup ("what" : Str) [(("what" : Str), v), ("self", x)] = _
  rw [List.lookup_cons, beq_self_eq_true]
theorem bindS {x v : Value} : ([(("self" : Str), x), ("what", v)].reverse).lookup ("self" : Str) = some x := by
  show List.lookup ("self" : Str) [(("what" : Str), v), ("self", x)] = _
  rw [List.lookup_cons, show (("self" : Str) == ("what" : Str)) = false by decide +kernel, List.lookup_cons, beq_self_eq_true]
theorem locW {x v : Value} : ∀ p ∈ [(("self" : Str), x), ("what", v)], (L2.defScope sInit).names.lookup p.1 = some .local := by
  intro p hp
  rcases List.mem_cons.mp hp with e | hp
  · rw [e]; exact k_self
  · rcases List.mem_cons.mp hp with e | hp
    · rw [e]; exact k_what
    · exact absurd hp (by simp)
theorem nocW : ∀ p ∈ (L2.defScope sInit).names, p.2 ≠ .cell := by decide +kernel
theorem ref_init (T : RefTxt prog K mg C fI cd cc) {x t0 : Addr} {v : Value} (X : K.In s.heap) (hG : s.heap.Ns mainGlobals mg) (hsup : mg "super" = none) (hB : s.heap.Ns builtinsNs mb) (hBB : mb "super" = bootBuiltins "super") (hlim : s.heap.NoLimit)
    (hx : s.heap.get? x = some (excO C t0)) (hnx : K.lookup x = none) (hroom : A.depth < recursionLimit)
    (hq : ∀ h' tk dx t1, InitEnd s.heap h' x C dx t1 v → R (.ok (.ret .none)) { s with heap := h', toks := tk }) :
    codeAny (model prog w) A (.call (.ref fI) ⟨[.ref x, v], []⟩) R s := by
  obtain ⟨oc, od, kV, doc, pm, an, ct, osl, ho, hcd⟩ := T.fn
  obtain ⟨nm, q, N, bs, bm, sn, sub, ab, col, dd, k0, k1, k2, k3, k5, hC, hbm⟩ := T.cls
  obtain ⟨o1, o2, vs, o3, file, tf, hcode, hvs, hfile⟩ := T.code
  obtain ⟨p1, p2, p3, hcell⟩ := T.cell
  have hcl : clsIn K C = some { name := nm, bases := bs, mro := .ref C :: bm, ns := N, qualname := q, hasDict := true, slotNames := sn, subclasses := sub, abstract := ab, collection := col, hasDel := false } := by unfold clsIn; rw [hC] <;> rfl
  have hxC : x ≠ C := fun z => by
    rw [z, hC] at hnx
    exact nomatch hnx
  refine ks_codeAny_call_defAt (fd := ksFn "__init__" "Refused.__init__" (L2.defArgs sInit) (L2.defBody sInit) (L2.defScope sInit) .none kV doc pm an (.ref cd) ct cc) (body := L2.defBody sInit) (binds := [("self", .ref x), ("what", v)])
    hroom (X _ _ ho) rfl hlim (codeRec_of X hcd) rfl (BindsTo.of_eq (by first | rfl | with_unfolding_all rfl)) nocW locW (fun h₁ hns hk₁ => ?_) rfl rfl rfl
  have X₁ : K.In h₁ := X.keeps hk₁
  have hx₁ := hk₁ _ _ hx
  have hxL : s.heap.objs.size ≠ x := Nat.ne_of_gt (Heap.lt_size hx)
  -- super().__init__(what)
  show _root_.PySem.wpAt _ (A.deeper (ksEnv "Refused.__init__" (L2.defScope sInit) s.heap.objs.size fI (.ref cd) cc)) (.func (L2.defBody sInit) (ksEnv "Refused.__init__" (L2.defScope sInit) s.heap.objs.size fI (.ref cd) cc)) (execs (L2.defBody sInit) (ksEnv "Refused.__init__" (L2.defScope sInit) s.heap.objs.size fI (.ref cd) cc)) _ _ _
  refine ks_wpAt_execs_cons (ks_wpAt_Expr_any (ks_wpAt_MethodCall ?_))
  refine ks_wpAt_super_base (env := ksEnv "Refused.__init__" (L2.defScope sInit) s.heap.objs.size fI (.ref cd) cc) (by rfl) (by rfl) (by rfl) rfl (X₁ _ _ ho) rfl (by rfl) rfl (X₁ _ _ hcode) rfl hvs hfile T.top ?_
  refine ks_loadName_global rfl k_super (loadGlobal_builtin (env := ksEnv "Refused.__init__" (L2.defScope sInit) s.heap.objs.size fI (.ref cd) cc) (hG.keeps hk₁) hsup (hB.keeps hk₁) (hBB.trans (show bootBuiltins "super" = some (.type "super") by decide +kernel)) ⟨rfl, ?_⟩)
  refine wpAny_loadName_free rfl k_class rfl ⟨_, X₁ _ _ hcell, rfl⟩ ?_
  refine wpAny_loadName_local rfl k_self hns (v := .ref x) bindS ?_
  have hC1 := X₁ _ _ hC
  refine ks_wpAny_isType_cls hC1 rfl ⟨rfl, ?_⟩
  refine ks_wpAny_call_super hC1 rfl hx₁ rfl (fun c e => nomatch e) (looks_mroIn X₁ T.sub) (fun h₂ hso hk₂ => ?_)
  have X₂ : K.In h₂ := X₁.keeps hk₂
  have hx₂ := hk₂ _ _ hx₁
  have hsl := T.sup
  unfold ks_superIn at hsl
  rw [hcl] at hsl
  have I2 : W.InstAt h₂ x (excO C t0) C none := ⟨hx₂, rfl, rfl, trivial⟩
  refine kxs_getMethod kxs_ValueError hso (looks_opaque X₂ T.op) (l₀ := .ref C :: bm) (fun A Q E s k q => wpAny_bind ((looks_clsIn X₂ hcl) A _ E s k (wpAny_pure q))) rfl X₂ hsl (I2.type.andThen (looks_subIn X₂ T.veC)) hxC (by decide +kernel) ?_
  have hmw : (h₂.push (kxs_mw "ValueError.__init__" x)).get? h₂.objs.size = some (kxs_mw "ValueError.__init__" x) := Heap.get?_push_size _ rfl
  have kp₃ : ∀ b o, h₂.get? b = some o → (h₂.push (kxs_mw "ValueError.__init__" x)).get? b = some o := fun b o e => Heap.get?_push_of_some _ e
  have hns₃ := hns.keeps fun b o e => kp₃ b o (hk₂ b o e)
  refine kxs_callWith (i := "ValueError.__init__") (x := x) rfl ?_
  refine evalArgs_plain ?_
  refine Calls.spliced_cons (ESX.ldL (v := v) hns₃ bindW (Calls.spliced_nil ⟨hmw, ?_⟩) rfl k_what)
  refine call_mw (kp₃ _ _ (X₂ _ _ hC)) (kp₃ _ _ hx₂) hmw (one_le v) fun h₄ t1 k₄ hx₄ => ?_
  have kp₄ : ∀ b o, b ≠ x → h₁.get? b = some o → h₄.get? b = some o := fun b o hb e => k₄ b o hb (kp₃ b o (hk₂ b o e))
  have X₄ : K.In h₄ := fun b o e => kp₄ b o (fun z => by rw [z, hnx] at e; exact nomatch e) (X₁ b o e)
  have hns₄ : h₄.Ns s.heap.objs.size (fun y => [(("self" : Str), Value.ref x), ("what", v)].reverse.lookup y) := hns.at' fun o e => kp₄ _ o hxL e
  -- self.what = what
  refine ks_wpAt_execs_cons (ks_wpAt_Assign_Attr ?_)
  refine wpAt_of_wpAny (ESX.ldL (v := v) hns₄ bindW ?_ rfl k_what)
  refine ESX.ldL (v := .ref x) hns₄ bindS ?_ rfl k_self
  refine set_plain X₄ (ox := excO C t1) (od := none) ⟨hx₄, rfl, rfl, trivial⟩ T.sa ?_
  refine exc_osa X₄ hx₄ hcl (show refsVE (.ref C :: bm) = true from hbm) rfl T.noN (fun h₅ tk₅ dx k₅ dn dne hx₅ hn₅ => ?_)
  refine wpAt_of_wpAny (wpAny_execs_nil (hq h₅ tk₅ dx t1 ⟨fun b o hb e => k₅ b o hb (kp₄ b o hb (hk₁ b o e)), hx₅, ?_, dne, hn₅⟩))
  have z1 : s.heap.objs.size < h₁.objs.size := hns.lt
  have z4 : s.heap.objs.size < h₄.objs.size := hns₄.lt
  exact Nat.le_of_lt (Nat.lt_of_lt_of_le z4 dn)
end
end K1
end
section
set_option Elab.async false
set_option linter.all false
set_option maxRecDepth 100000
set_option maxHeartbeats 4000000
/-! Refused made, raised, its field read, asked for its classes. -/
namespace K1
open PySem PySem.W PySem.Calls PyProof.Rows PySem.HandSPX
section
variable {prog : Program} {w : World} {A : Around} {E : Value → Shared → Prop} {R : Result → Shared → Prop} {s : Shared} {K : Frag} {mg mb : Str → Option Value} {C fI cd cc : Addr}
theorem ref_made (T : RefTxt prog K mg C fI cd cc) {v : Value} (KX : K.In s.heap) (hG : s.heap.Ns mainGlobals mg) (hsup : mg "super" = none) (hB : s.heap.Ns builtinsNs mb) (hBB : mb "super" = bootBuiltins "super") (lim : s.heap.NoLimit) (room : A.depth + 1 < recursionLimit)
    (hq : ∀ h' tk e d, RefMade s.heap h' e C d v → R (.ok (.ret (.ref e))) { s with heap := h', toks := tk }) :
    codeAny (model prog w) A (.call (.ref C) ⟨[v], []⟩) R s := by
  obtain ⟨nm, q, N, bs, bm, sn, sub, ab, col, dd, k0, k1, k2, k3, k5, hC, hbm⟩ := T.cls
  obtain ⟨hp, g, dr, tk, os⟩ := s
  have kept : ∀ b o, hp.get? b = some o → ((hp.push (kdv_tup [v])).push (excO C hp.objs.size)).get? b = some o := fun b o e => Heap.get?_push_of_some _ (Heap.get?_push_of_some _ e)
  have fresh : ((hp.push (kdv_tup [v])).push (excO C hp.objs.size)).get? (hp.objs.size + 1) = some (excO C hp.objs.size) := by heap_get
  have notK : K.lookup (hp.objs.size + 1) = none := by
    cases e : K.lookup (hp.objs.size + 1) with
    | none => rfl
    | some o =>
      have z : hp.get? (hp.objs.size + 1) = some o := KX _ _ e
      exact absurd (Nat.lt_of_succ_lt (Heap.lt_size z)) (Nat.lt_irrefl _)
  refine call_own F.excBase_ValueError (fun z => refsVE_contains z bm hbm) (KX _ _ hC) (looks_findIn KX T.iC) (fun self => bind_fn KX self T.tC) (one_le v) ?_
  refine ref_init (mb := mb) (s := ⟨(hp.push (kdv_tup [v])).push (excO C hp.objs.size), g, dr, tk, os⟩) T (KX.keeps kept) (hG.keeps kept) hsup (hB.keeps kept) hBB (lim.keeps kept) fresh notK (show A.depth + 1 < recursionLimit from room) fun h' tk' dx t1 IE => ?_
  have old : ∀ b o, hp.get? b = some o → h'.get? b = some o := fun b o e => IE.keep b o (Nat.ne_of_lt (Nat.lt_succ_of_lt (Heap.lt_size e))) (kept b o e)
  have z : hp.objs.size + 1 + 1 ≤ dx := by
    first
      | (simpa only [Heap.size_push] using IE.dbig)
      | exact IE.dbig
  exact ⟨rfl, hq h' tk' (hp.objs.size + 1) dx ⟨old, Nat.le_succ _, ⟨_, _, IE.obj, rfl, rfl, rfl, rfl⟩, Nat.le_trans (Nat.le_trans (Nat.le_succ _) (Nat.le_succ _)) z, IE.dne, IE.ns⟩⟩
end
end K1
namespace K1
open PySem PySem.Spec PyProof.Rows L2
theorem relO_what {v : V} {v' : Value} (r : RelV v v') (f : Str) : RelO (List.lookup f [(("what" : Str), v)]) (if f = "what" then some v' else none) := by
  by_cases hw : f = "what"
  · rw [if_pos hw, hw, List.lookup_cons, beq_self_eq_true]
    exact r
  · rw [if_neg hw, List.lookup_cons, show (f == ("what" : Str)) = false by simpa using hw]
    trivial
section
variable {X : Cx} {C fI cd cc : Addr}
def tMkRef (C : Addr) (ta : TA) : L2.St → Hp → XK → Prop := fun σ H Q => ta σ H fun vs H1 => ∃ v, vs = [v] ∧ ∀ d, H1 d = none → Q (.ref C) (some d) (upd H1 d (.xd [(("what" : Str), v)]))
theorem pmk_ref {a : Expr} {ta : TA} {p pos : Pos} {k : Nat} (T : RefTxt X.prog X.K X.mg C fI cd cc) (hsup : X.mg "super" = none) (hr : Room k X.A) (ha : PA X [a] ta) (hg : Gl X "Refused" := by rfl)
    (he : starEach (a :: []) X.env = (false, eval a X.env) :: starEach [] X.env := by rfl) (hpl : (backTo pos (starEach [] X.env)).any (·.1) = false := by rfl) :
    PMk X (.Call (.Name "Refused" p) [a] [] pos) (tMkRef C ta) := by
  intro pins s σ H Q I h
  refine wpAny_Call_Name_kw (ld_glob I hg T.gC ?_)
  refine PySem.W.callWith_K (h₀ := X.base) I.ok.mod.kin T.kC (thn (ha.run pos pins s σ H _ I h) fun us s1 hh => ?_) he hpl
  obtain ⟨vs, H1, I1, r1, v, rfl, q1⟩ := hh
  refine ⟨I1.kIn, ?_⟩
  cases r1 with
  | cons rv rn =>
    rename_i v' us'
    cases rn
    show wpAny _ _ (call (.ref C) [v']) _ _ _
    have lim := I1.nolimit
    have hG : s1.heap.Ns mainGlobals X.mg := I1.mod.glob.keeps I1.bk
    obtain ⟨mb, hB0, hBB⟩ := I1.mod.blt
    have hB := hB0.keeps I1.bk
    obtain ⟨hp, g, dr, tk, os⟩ := s1
    refine wpAny_call (ref_made T I1.kIn hG hsup hB (hBB "super" (by decide +kernel)) lim (by have := hr.dp; omega) fun h' tk' e d M => ?_)
    show MkP X pins σ Q (.ref e) ⟨h', g, dr, tk', os⟩
    obtain ⟨oe, fv, hoe, hc, hd, hdat, h1⟩ := M.obj
    have hns := M.ns
    obtain ⟨G, g1, g2⟩ := restrict h' fun b => decide (b ≠ e)
    have gk : ∀ b, b ≠ e → G.get? b = h'.get? b := fun b hb => g1 b (decide_eq_true hb)
    have ge : G.get? e = none := g2 e (by simp)
    have old : ∀ b o, hp.get? b = some o → G.get? b = some o := fun b o q => (gk b (Nat.ne_of_lt (Nat.lt_of_lt_of_le (Heap.lt_size q) M.new))).trans (M.keep b o q)
    have ob : ObjOk X.prog X.w (upd H1 d (.xd [(("what" : Str), v)])) G d (.xd [(("what" : Str), v)]) :=
      ⟨_, hns.at (fun o q => (gk d M.dne).trans q), fun f => relO_what rv f⟩
    have J : Inv X pins σ (upd H1 d (.xd [(("what" : Str), v)])) ⟨G, g, dr, tk', os⟩ := I1.laid (t' := tk') old M.dbig ob
    refine ⟨e, oe, fv, ⟨G, g, dr, tk', os⟩, _, .ref C, some d, rfl, J, fun b o q => ?_, ge, hoe, ⟨hc, hd⟩, hdat, h1, ?_, rfl, I1.bare, raises_own T.exC T.tyC, q1 d (I1.hok.fresh M.dbig)⟩
    · by_cases hb : b = e
      · have q' : G.get? b = some o := q
        rw [hb, ge] at q'
        cases q'
      · exact (gk b hb).symm.trans q
    · rw [upd_ne (Ne.symm M.dne)]
      exact I1.hok.fresh M.new
def tRaiseRef (C : Addr) (W : WX) (ta : TA) : TS := fun _ σ H => tMkRef C ta σ H fun cls d H' => W cls d σ H'
/-- raise Refused(e) -/
theorem ps_raiseRef {a : Expr} {ta : TA} {W : WX} {p pos pos2 : Pos} {k : Nat} (hc : X.calm = true) (T : RefTxt X.prog X.K X.mg C fI cd cc) (hsup : X.mg "super" = none) (hr : Room k X.A) (tk : Takes X W) (ha : PA X [a] ta) (hg : Gl X "Refused" := by rfl)
    (he : starEach (a :: []) X.env = (false, eval a X.env) :: starEach [] X.env := by rfl) (hpl : (backTo pos (starEach [] X.env)).any (·.1) = false := by rfl) :
    PS X (.Raise (some (.Call (.Name "Refused" p) [a] [] pos)) none pos2) (tRaiseRef C W ta) := ps_raise hc tk (pmk_ref T hsup hr ha hg he hpl)
/-- e.what, e the error that the suite holds -/
def tWhat (C : Addr) (a : Addr) (cls : Value) (d : Option Addr) (te : TE) : TE := fun σ H Q => te σ H fun x H1 => x = .ref a ∧ cls = .ref C ∧ ∃ (dd : Addr) (v : V), d = some dd ∧ H1 dd = some (.xd [(("what" : Str), v)]) ∧ Q v H1
theorem pe_what {a : Addr} {oe : Obj} {cls : Value} {d : Option Addr} {pn : List (Addr × Obj)} {e : Expr} {te : TE} {pos : Pos} (T : RefTxt X.prog X.K X.mg C fI cd cc) (hz : Zc cls d oe) (hf : ∃ vs, oe.data = .fields vs) (he : PE (X.suite a ((a, oe) :: pn)) e te)
    (hb : attributeBase e "what" X.env (eval e X.env) = eval e X.env := by rfl) :
    PE (X.suite a ((a, oe) :: pn)) (.Attribute e "what" pos) (tWhat C a cls d te) := by
  refine ⟨fun pins s σ H Q I h => ?_⟩
  refine attr_of hb (thn (he.run pins s σ H _ I h) fun u s1 hh => ?_)
  obtain ⟨x, H1, I1, rx, rfl, rfl, dd, v, rfl, ea, q⟩ := hh
  obtain rfl : u = Value.ref a := rx
  obtain ⟨ha, _⟩ := I1.pin (a, oe) (List.mem_append_left _ List.mem_cons_self)
  obtain ⟨vs, hd⟩ := hf
  obtain ⟨mA, hns, hr⟩ := (show ObjOk X.prog X.w H1 s1.heap dd (.xd [(("what" : Str), v)]) from I1.hok dd _ ea)
  obtain ⟨od, ho, hl⟩ := lookIn_ns hns
  have l : List.lookup ("what" : Str) [(("what" : Str), v)] = some v := by rw [List.lookup_cons, beq_self_eq_true]
  obtain ⟨u, hu, ru⟩ := RelO.some_of (v := v) (o := mA "what") (by rw [← l]; exact hr "what")
  have J : PySem.W.InstAt s1.heap a oe C (some od) := ⟨ha, hz.1, by unfold PySem.W.notCls; rw [hd] <;> rfl, by rw [hz.2]; exact ho⟩
  exact HandSPX.exc_get I1.kIn J T.ga T.gg T.exC (PySem.W.findObj_own T.hdC T.noN rfl (by rw [hl, hu])) (handed_of ru) ⟨v, H1, I1.tok _, ru, q⟩
end
end K1
/-! isinstance(e, ..) where e has a dict of its own -/
namespace K1
open PySem PySem.Spec PySem.Calls PyProof.Rows PySem.W L2
section
variable {prog : Program} {w : World} {A : Around} {E : Value → Shared → Prop} {s : Shared} {K : Frag} {x D : Addr} {ox : Obj}
theorem found_cls {name : Str} {a g : Value} {od : Option Obj} (hc : (clsIn K D).isSome = true) (ha : findIn K (.ref D) name = some (some a)) (hg : specialIn K a "__get__" = some (some g)) (ht : takesIn K a = some true) : findObj K D od name = some (.bind g a) := by
  obtain ⟨cd, hc⟩ := Option.isSome_iff_exists.mp hc
  unfold findObj
  rw [hc, Option.bind_some, ha, Option.bind_some]
  simp [hg, ht]
theorem ask_class {od : Option Obj} {Q : Option Value → Shared → Prop} (C : ExcC K D) (KX : K.In s.heap) (I : PySem.W.InstAt s.heap x ox D od) (h : Q (some (.ref D)) { s with toks := s.toks + 1 }) : wpAny (model prog w) A (getAttr? (.ref x) "__class__") Q E s := by
  have hf : findObj K D od "__class__" = some (.bind (.builtin "getset_descriptor.__get__") (.builtin "object.__class__")) := found_cls (by obtain ⟨cd, hc, _⟩ := any_some C.hd; rw [hc]; rfl) C.ha C.hn C.ht
  obtain ⟨hp, g, d, t, os⟩ := s
  have T0 := I.type (M := model prog w)
  have T1 := looks_findIn (M := model prog w) KX C.hg
  have T2 := looks_findIn (M := model prog w) KX C.hk
  have T3 := looks_find (M := model prog w) KX I hf
  have sb : Looks (model prog w) hp (isInstance (.ref x) (.type "BaseException")) true := T0.andThen (looks_subIn KX C.hs)
  have n0 : (false && onTheHeap (Value.builtin "BaseException.__getattribute__")) = false := rfl
  have n1 : (onTheHeap (Value.ref D) && Value.builtin "BaseException.__getattribute__" == Value.builtin "object.__getattribute__") = false := by
    rw [show (Value.builtin "BaseException.__getattribute__" == Value.builtin "object.__getattribute__") = false by decide +kernel]; rfl
  unfold getAttr? getAttrBy? getAttrBy
  refine wpAny_bind (wpAny_mkText (wpAny_bind (wpAny_attempt (wpAny_holding (wpAny_bind (T0.at (wpAny_bind (T1.at ?_))))))))
  show wpAny _ _ (if (onTheHeap (Value.ref D) && Value.builtin "BaseException.__getattribute__" == Value.builtin "object.__getattribute__") = true then _ else _) _ _ _
  rw [n1, if_neg Bool.false_ne_true]
  unfold getAttrByItsOwn hookBefore
  refine wpAny_bind ?_
  rw [if_pos (show onTheHeap (Value.ref D) = true from rfl)]
  refine T2.at (wpAny_bind (wpAny_attempt (wpAny_holding ?_)))
  unfold callGetattribute
  rw [n0, if_neg Bool.false_ne_true]
  unfold boundAndCalled
  rw [PySem.F.excAttr_ValueError.ga.bind (.ref x)]
  refine wpAny_bind (wpAny_pure ?_)
  show wpAny _ _ (call (.builtin "BaseException.__getattribute__") [.ref x, .str "__class__" t]) _ _ _
  refine wpAny_call (codeAny_call_builtin PySem.F.excAttr_ValueError.ga.plain PySem.F.entry_bexc_ga ?_)
  refine @check_slot (model prog w) _ _ ⟨hp, g, d, t + 1, os⟩ "BaseException.__getattribute__" "BaseException" "__getattribute__" (.ref x) [.str "__class__" t] [] _ (by decide +kernel) (by decide +kernel) sb (PySem.F.args_bexc_ga (.ref x) (.str "__class__" t)) ?_
  unfold Builtin.«object.__getattribute__»
  refine wpAny_bind (wpAny_of_eq (a := ((Value.ref x : Value), [Value.str "__class__" t])) (by first | rfl | (simp only [slotArgs]; rfl)) ?_)
  refine wpAny_bind (wpAny_pure (wpAny_bind (T0.at (wpAny_bind (T3.at ?_)))))
  show wpAny _ _ (holding [Value.builtin "object.__class__"] (call (.builtin "getset_descriptor.__get__") [.builtin "object.__class__", .ref x, .ref D]) >>= ret) _ _ _
  refine wpAny_bind (wpAny_holding (wpAny_call (class_get (s := ⟨hp, g, d, t + 1, os⟩) (ox := ox) (od := od) KX I C.hm ?_)))
  refine wpAny_pure ?_
  show wpAny _ _ (handedOut (.ref D)) _ _ _
  rw [handedOut_of (v := .ref D) rfl]
  first
    | exact wpAny_pure (wpAny_pure h)
    | exact wpAny_pure h
    | exact wpAny_pure (wpAny_bind (wpAny_pure (wpAny_pure h)))
theorem kit_own (C : ExcC K D) : KitX K (.ref x) (.ref D) (fun h => ∃ od, PySem.W.InstAt h x ox D od) where
  ty := fun _ _ _ ⟨_, I⟩ => I.type
  it := fun _ _ KX _ => by
    obtain ⟨cdD, hcD, _⟩ := any_some C.hd
    unfold clsIn at hcD
    split at hcD
    · rename_i c' d' cd' sl' ho
      intro A' Q' E' s' k q
      unfold isType loadHead
      exact wpAny_bind (wpAny_loadPart (k _ _ (KX _ _ ho)) (wpAny_pure q))
    · cases hcD
  ne := fun h tp dd its n sl KX htp => by
    obtain ⟨cdD, hcD, _⟩ := any_some C.hd
    refine Bool.eq_false_iff.mpr fun q => ?_
    obtain rfl : D = tp := Value.ref.inj (beq_iff_eq.mp q)
    unfold clsIn at hcD
    split at hcD
    · rename_i c' d' cd' sl' ho
      have z := (KX _ _ ho).symm.trans htp
      cases z
    · cases hcD
  ca := fun KX ⟨_, I⟩ k => ask_class C KX I k
end
/-- isinstance(e, c) of the suite's error, with fields of its own -/
theorem call_isR {X : Cx} {a D dd : Addr} {oe : Obj} {pn : List (Addr × Obj)} (C : ExcC X.K D) (hz : Zc (.ref D) (some dd) oe) (hf : ∃ vs, oe.data = .fields vs) :
    CallR (X.suite a ((a, oe) :: pn)) (.builtin "isinstance") (fun xs H Q => ∃ (c : V) (cv : Value) (b : Bool), xs = [.ref a, c] ∧ (∃ fs, H dd = some (.xd fs)) ∧ (∀ u, RelV c u → u = cv) ∧ kitOne X.K (.ref D) cv = some b ∧ Q (.bl b) H) := by
  intro pins s σ H xs us Q I r h
  obtain ⟨c, cv, b, rfl, ⟨fs, hdd⟩, hcv, e, q⟩ := h
  cases r with
  | cons rx rr =>
    cases rr with
    | cons rt rr =>
      cases rr
      cases rx
      obtain rfl := hcv _ rt
      obtain ⟨hget, _⟩ := I.pin (a, oe) (List.mem_append.mpr (.inl List.mem_cons_self))
      obtain ⟨vs, hv⟩ := hf
      obtain ⟨mA, ⟨od, es, ep, eo, _⟩, _⟩ := (show ObjOk X.prog X.w H s.heap dd (.xd fs) from I.hok dd _ hdd)
      have J : PySem.W.InstAt s.heap a oe D (some od) := ⟨hget, hz.1, by unfold PySem.W.notCls; rw [hv] <;> rfl, by rw [hz.2]; exact eo⟩
      exact kia_one (kit_own C) I.kIn ⟨_, J⟩ e (fun z => nomatch z) fun tk => ⟨.bl b, H, I.kept (t' := tk) fun _ _ z => z, rfl, q⟩
end K1
end
section
set_option Elab.async false
set_option linter.all false
set_option maxRecDepth 100000
set_option maxHeartbeats 4000000
namespace K1
open PySem PySem.Spec PyProof.Rows L2
/-- repr(t), nothing under way -/
theorem cr_repr {X : Cx} (hg : X.A.guards = some []) (hu : X.A.units + 80 < cLine) : CallR X (.builtin "repr") (fun xs H Q => ∃ (a : Addr) (d : PyData), xs = [V.ref a] ∧ Dp X.K H (.ref a) d ∧ d.showable = true ∧ d.hasDict = false ∧ d.depth ≤ 60 ∧ d.shown.length ≤ sizeLine ∧ Q (.str d.shown) H) := by
  intro pins s σ H xs us Q I rx h
  obtain ⟨a, d, rfl, hd, hs, hn, hdp, hz, q⟩ := h
  rw [Vals.ref1 rx]
  obtain ⟨as, r⟩ := Dp.reads I d _ _ hd (show RelV (.ref a) (Value.ref a) from rfl)
  refine repr_of_reads' r hs (fun z => by rw [hn] at z; cases z) hg (by omega) (fun _ _ e => e) (fun h' u tk kp => ⟨.str d.shown, H, I.kept (t' := tk) kp, ⟨u, rfl⟩, q⟩) hz
end K1
end
section
set_option Elab.async false
set_option linter.all false
set_option maxRecDepth 100000
set_option maxHeartbeats 4000000
/-! enumerate(t), t a tuple -/
namespace K1
open PySem
open Sem (wp)
open AutoSeq1 (wpAny_loadPart')
theorem makes_enum {v : Value} {o : Obj} {Z : Heap → Prop} (B : Begins v o Z) :
    Meets (Builtin.«enumerate.__new__» ⟨[.type "enumerate", v], []⟩) (fun _ R s => Z s.heap ∧
      R (.ok (.ret (.ref (s.heap.push o).objs.size))) { s with heap := (s.heap.push o).push { cls := .type "enumerate", data := .fields #[.none, .bool false, .ref s.heap.objs.size, rawInt 0, .none, .none] } }) :=
  .of_wp fun prog w A R s h => by
    obtain ⟨hp, g, d, tk, os⟩ := s
    obtain ⟨h1, h⟩ := h
    have isSub := sub_enumerate
    have go : ∀ {A' : Around} {E : Value → Shared → Prop} {Q : Value → Shared → Prop}, Q (.ref hp.objs.size) ⟨hp.push o, g, d, tk, os⟩ → wpAny (model prog w) A' (pyIter v) Q E ⟨hp, g, d, tk, os⟩ :=
      fun q => B.iter prog w _ _ ⟨hp, g, d, tk, os⟩ _ h1 q
    wp_walk using go
    refine wpAny_stack_any fun st => wpAny_pure ?_
    split
    · rename_i c _ _ _ _ _
      cases (c == Value.type "enumerate") <;> (wp_walk using go; exact ⟨_, rfl, h⟩)
    · wp_walk using go
      exact ⟨_, rfl, h⟩
section
variable {prog : Program} {w : World} {A : Around} {E : Value → Shared → Prop} {s : Shared}
theorem call_enum {v : Value} {o : Obj} {Z : Heap → Prop} {Q : Value → Shared → Prop} (B : Begins v o Z) (h1 : Z s.heap)
    (h : ∀ h', IsEnum h' (s.heap.objs.size + 1) s.heap.objs.size 0 .none → h'.get? s.heap.objs.size = some o →
      (∀ b u, s.heap.get? b = some u → h'.get? b = some u) → Q (.ref (s.heap.objs.size + 1)) { s with heap := h' }) :
    wpAny (model prog w) A (call (.type "enumerate") [v]) Q E s := by
  refine callType_new F.called_enumerate (by decide) (F.typeCall_enumerate_1 _) (F.newCall_enumerate_1 _) (fun ob => F.args_object_init_2 ob _) F.entry_enumerate_new (makes_enum B) ⟨h1, ?_⟩
  have sz : (s.heap.push o).objs.size = s.heap.objs.size + 1 := Heap.size_push ..
  show _ ∧ _
  rw [sz]
  have e0 : IsEnum ((s.heap.push o).push { cls := .type "enumerate", data := .fields #[.none, .bool false, .ref s.heap.objs.size, rawInt 0, .none, .none] }) (s.heap.objs.size + 1) s.heap.objs.size 0 .none := by
    have q := Heap.get?_push_size (s.heap.push o) (o := { cls := .type "enumerate", data := .fields #[.none, .bool false, .ref s.heap.objs.size, rawInt 0, .none, .none] }) rfl
    rw [sz] at q
    exact q
  exact ⟨⟨_, e0, rfl⟩, h _ e0 (Heap.get?_push_of_some _ (Heap.get?_push_size _ B.free)) fun b u x => Heap.get?_push_of_some _ (Heap.get?_push_of_some _ x)⟩
end
end K1
namespace K1
open PySem PySem.Spec PyProof.Rows L2
/-- the tuple at a, each item in a new pair with its number -/
def IteT (K : PySem.W.Frag) (a : Addr) : It :=
  ⟨fun i H => ∃ (xs : List V) (x : V), SqT K H a xs ∧ xs[i]? = some x, fun i H v H' => ∃ T x, v = .ref T ∧ H T = none ∧ H' = upd H T (.tup [.int (i : Nat), x]) ∧ ∀ xs, SqT K H a xs → xs[i]? = some x, fun i H => ∃ xs : List V, SqT K H a xs ∧ xs.length = i⟩
theorem turn_enumT {P : Program} {w : World} {K : PySem.W.Frag} {elts : List Expr} {kk : Nat} {tpos : Pos} (a e it : Addr) :
    Turn P w K (.Tuple elts kk tpos) (IteT K a) [e, it] e (fun i h => (∃ old, IsEnum h e it ((i : Nat) : Int) old) ∧ h.IsTupleIter it a i ∧ e ≠ it) where
  mem := by simp
  obj := fun i h st b hb => by
    obtain ⟨⟨old, he⟩, ⟨o, ho, hc, hd⟩, _⟩ := st
    rcases (show b = e ∨ b = it by simpa using hb) with z | z
    · rw [z]; exact ⟨_, he, fun v q => nomatch q⟩
    · rw [z]; exact ⟨o, ho, fun v q => by rw [hd] at q; cases q⟩
  keep := fun i h h' st k => let ⟨⟨old, he⟩, hi, hne⟩ := st; ⟨⟨old, k e (by simp) _ he⟩, hi.at fun o q => k it (by simp) o q, hne⟩
  item := by
    intro X hP hw hK hc i pins s σ H E I hf st hg
    subst hP hw hK
    obtain ⟨⟨old, he⟩, hit, hne⟩ := st
    obtain ⟨xs, x, hq, hx⟩ := hg
    obtain ⟨its, rv, p, hz⟩ := I.tuple hq
    obtain ⟨u, hu, ru⟩ := rv.get hx
    have hel : e < s.heap.objs.size := Heap.lt_size he
    have hil : it < s.heap.objs.size := by obtain ⟨_, q, _⟩ := id hit; exact Heap.lt_size q
    obtain ⟨oa, hoa, hca, na, hda⟩ := id p
    have hae : e ≠ a := fun z => by
      have q : s.heap.get? a = some _ := z ▸ he
      rw [hoa] at q
      cases q
      exact absurd (show Value.type "enumerate" = Value.type "tuple" from hca) (by decide)
    have hai : a ≠ it := fun z => by
      obtain ⟨o', e1, e2, _⟩ := id hit
      rw [← z, hoa] at e1
      cases e1
      rw [hca] at e2
      exact absurd e2 (by decide)
    have hi : i < its.toArray.size := by
      obtain ⟨h', _⟩ := List.getElem?_eq_some_iff.mp hu
      simpa using h'
    have hd : X.A.in1.handled = none := I.ok.hd hc
    refine wpAny_pyNext_enum_itemD (Draws.tuple hd it a hai its.toArray) he ⟨hit, show s.heap.IsTuple a its.toArray from p⟩ hi hne (by simp [hne, hae]) fun x' h' tk hP ho hst hT hsz hk => ?_
    have hxu : x' = u := by
      have q : its.toArray[i]? = some x' := hP
      rw [show its.toArray[i]? = its[i]? by simp, hu] at q
      exact (Option.some.inj q).symm
    rw [hxu] at ho hT
    refine ⟨_, rfl, wpAny_letOwnedTupleGo_enum (s := { s with heap := h', toks := tk + 1 }) ho fun h'' he' sb => ?_⟩
    have hT2 : h''.get? s.heap.objs.size = some { cls := .type "tuple", data := .seq #[.int i tk, u] } := (sb.2 _ (Nat.ne_of_gt hel)).trans hT
    have new : ObjOk X.prog X.w (upd H s.heap.objs.size (.tup [.int (i : Nat), x])) h'' s.heap.objs.size (.tup [.int (i : Nat), x]) :=
      ⟨by show 2 ≤ sizeLine; decide, [.int i tk, u], .cons ⟨_, rfl⟩ (.cons ru .nil), ⟨_, hT2, rfl, _, rfl⟩⟩
    have I1 : Inv X pins σ (upd H s.heap.objs.size (.tup [.int (i : Nat), x])) { s with heap := h'', toks := tk + 1 } :=
      I.turnedNew (ch := [e, it]) (fun b ob hb q => (sb.2 b (fun z => hb (by simp [z]))).trans (hk b ob (fun z => hb (by simp [z])) (fun z => hb (by simp [z])) q)) hf (Nat.le_refl _) new
    refine ⟨.ref s.heap.objs.size, _, I1, rfl, ⟨_, x, rfl, I.hok.fresh (Nat.le_refl _), rfl, fun ys hy => by rw [I.tuple_inj hy hq]; exact hx⟩, ⟨⟨u, ?_⟩, hst.1.at fun o q => (sb.2 it (Ne.symm hne)).trans q, hne⟩, fun b hb => ?_⟩
    · rw [show ((i + 1 : Nat) : Int) = (i : Int) + 1 by omega]
      exact he'
    · have hb' : b < s.heap.objs.size := by
        rcases (show b = e ∨ b = it by simpa using hb) with z | z
        · rw [z]; exact hel
        · rw [z]; exact hil
      rw [upd_ne (Nat.ne_of_lt hb')]
      exact (hf b hb).1
  done := by
    intro X hP hw hK hc i pins s σ H E I hf st hg
    subst hP hw hK
    obtain ⟨⟨old, he⟩, hit, hne⟩ := st
    obtain ⟨xs, hq, hx⟩ := hg
    obtain ⟨its, rv, p, hz⟩ := I.tuple hq
    obtain ⟨f0, f1, f2, f3, f4, f5⟩ := hf it (by simp)
    obtain ⟨oa, hoa, hca, na, hda⟩ := id p
    have hai : a ≠ it := fun z => by
      obtain ⟨o', e1, e2, _⟩ := id hit
      rw [← z, hoa] at e1
      cases e1
      rw [hca] at e2
      exact absurd e2 (by decide)
    have hn : its.toArray.size = i := by
      rw [List.size_toArray, ← rv.length]
      exact hx
    have hd : X.A.in1.handled = none := I.ok.hd hc
    exact wpAny_pyNext_enum_endD (Draws.tuple hd it a hai its.toArray) he (by rw [hn]; exact ⟨hit, show s.heap.IsTuple a its.toArray from p⟩) fun h' eb => ⟨rfl, I.turned (t' := s.toks) (fun b o hb q => eb b o hb q) f0 f1 f3 f4 f5⟩
  self := fun A i s Q E st h => let ⟨⟨_, he⟩, _⟩ := st; wpAny_pyIter_enum he h
def iEnumT (K : PySem.W.Frag) (ta : TA) : TI := fun σ H R => ta σ H fun vs H1 => ∃ a xs, vs = [.ref a] ∧ SqT K H1 a xs ∧ R (IteT K a) H1
theorem pi_enumT {X : Cx} {e : Expr} {ta : TA} {p pos tpos : Pos} {elts : List Expr} {kk : Nat} (hg : Gl X "enumerate") (hm : X.mg "enumerate" = none) (ha : PA X [e] ta) (hs : starEach [e] X.env = [(false, eval e X.env)] := by rfl) :
    PI X (.Tuple elts kk tpos) (.Call (.Name "enumerate" p) [e] [] pos) (iEnumT X.K ta) := by
  refine ⟨fun pins s σ H R I h => ?_⟩
  refine Call_ (ld_blt I hg hm boot_enumerate (PyProof.Rows.callWith_type1 (thn (ha.run pos pins s σ H _ I h) fun us s1 ⟨vs, H1, I1, r1, q1⟩ => ?_) hs rfl))
  obtain ⟨a, xs, rfl, hq, q⟩ := q1
  cases r1 with
  | cons r rr =>
    cases rr
    cases r
    obtain ⟨its, rv, p', hz⟩ := I1.tuple hq
    refine call_enum (begins_tuple a its.toArray) (show s1.heap.IsTuple a its.toArray from p') fun h' he hit hk => wpAny_pyIter_enum he ?_
    have I2 : Inv X pins σ H1 { s1 with heap := h' } := I1.kept (t' := s1.toks) hk
    refine ⟨s1.heap.objs.size + 1, [s1.heap.objs.size + 1, s1.heap.objs.size], _, _, H1, rfl, I2, turn_enumT a (s1.heap.objs.size + 1) s1.heap.objs.size, ⟨⟨.none, he⟩, ⟨_, hit, rfl, rfl⟩, Nat.succ_ne_self _⟩, fun b hb => ?_, q⟩
    have hle : s1.heap.objs.size ≤ b := by
      rcases (show b = s1.heap.objs.size + 1 ∨ b = s1.heap.objs.size by simpa using hb) with z | z
      · rw [z]; exact Nat.le_add_right _ _
      · rw [z]; exact Nat.le_refl _
    exact I1.fpOk hle (I1.hok.fresh hle)
end K1
end
section
set_option Elab.async false
set_option linter.all false
set_option maxRecDepth 100000
set_option maxHeartbeats 2000000
namespace K1
open PySem PyProof.Rows L2
/-- the built-ins' names that the program has not taken -/
structure Blt (mg : Str → Option Value) : Prop where
  isi : mg "isinstance" = none
  len : mg "len" = none
  all : mg "all" = none
  any : mg "any" = none
  enum : mg "enumerate" = none
  tup : mg "tuple" = none
  sorted : mg "sorted" = none
  max : mg "max" = none
  repr : mg "repr" = none
  range : mg "range" = none
  int : mg "int" = none
  str : mg "str" = none
  bool : mg "bool" = none
  sup : mg "super" = none
  verr : mg "ValueError" = none
def KTup (K : PySem.W.Frag) (a : Addr) (xs : List V) : Prop := ∃ (o : Obj) (its : Array Value) (n : Nat), K.lookup a = some o ∧ o.cls = .type "tuple" ∧ o.data = .seq its n ∧ its.size ≤ sizeLine ∧ Vals xs its.toList
theorem KTup.sq {K : PySem.W.Frag} {a : Addr} {xs : List V} (h : KTup K a xs) (H : Hp) : SqT K H a xs := .inr h
/-- the module's constants -/
structure Cst (K : PySem.W.Frag) (mg : Str → Option Value) (pa ca : Addr) : Prop where
  kinds : ∃ t, mg "KINDS_MOST" = some (.int 3 t)
  parties : ∃ t, mg "PARTIES_MOST" = some (.int 8 t)
  rows : ∃ t, mg "ROWS_MOST" = some (.int 200 t)
  number : ∃ t, mg "NUMBER_MOST" = some (.int 1000000000 t)
  amount : ∃ t, mg "AMOUNT_MOST" = some (.int 1000000000000 t)
  plain : mg "PLAIN_DEEDS" = some (.ref pa)
  copy : mg "COPY_DEEDS" = some (.ref ca)
  kplain : KTup K pa [.str "made", .str "treated"]
  kcopy : KTup K ca [.str "gave", .str "took"]
/-- a def of the module stands at f -/
structure DefAt (K : PySem.W.Frag) (mg : Str → Option Value) (x : Str) (st : Stmt) (ps : List Str) (f : Addr) (fd : FuncData) : Prop where
  F : Fun K x x st f fd
  g : mg x = some (.ref f)
  b : Binds K fd ps []
theorem DefAt.k {K : PySem.W.Frag} {mg : Str → Option Value} {x : Str} {st : Stmt} {ps : List Str} {f : Addr} {fd : FuncData} (D : DefAt K mg x st ps f fd) : PySem.W.keepIn K (.ref f) = true := D.F.kp
/-- the same, its code object known -/
structure FunC (K : PySem.W.Frag) (x : Str) (st : Stmt) (f : Addr) (fd : FuncData) (c : Addr) : Prop where
  ex : ∃ (oc : Value) (od : Option Addr) (kV doc pm : Value) (an : Option Addr) (ct : Value) (osl : Array (Option Value)),
    fd = PySem.W.fnOf x x (defArgs st) (defBody st) (defScope st) .none kV doc pm an (.ref c) ct ∧ K.lookup f = some ⟨oc, od, .func fd, osl⟩ ∧ PySem.W.codeIn K (.ref c) x = true
  kp : PySem.W.keepIn K (.ref f) = true
structure DefC (K : PySem.W.Frag) (mg : Str → Option Value) (x : Str) (st : Stmt) (ps : List Str) (f : Addr) (fd : FuncData) (c : Addr) : Prop where
  F : FunC K x st f fd c
  g : mg x = some (.ref f)
  b : Binds K fd ps []
section
variable {P : Program} {w : World} {K : PySem.W.Frag} {mg : Str → Option Value} {base : Heap}
theorem FunC.ok {x : Str} {st : Stmt} {f c : Addr} {fd : FuncData} {N ps : List Str} {k : Nat} {sp : Sp} (F : FunC K x st f fd c) (S : FnScope N ps (defScope st)) (len : ∀ vs H Q E, sp vs H Q E → vs.length = ps.length)
    (body : ∀ (A : Around) (outer : List Env) (s : Shared) (H : Hp) (vs : List V) (Q : VK) (E : XK), Room k (A.deeper (envOfC x (defScope st) s.heap.objs.size f (.ref c))) → sp vs H Q E →
      ∃ t, PSs (cxOf CX0 P w K mg base N x (defScope st) f (.ref c) A outer s H E).nox (defBody st) t ∧ t { nx := fun _ H' => Q .non H', rt := Q } (start N vs) H) : FnOk P w K mg base CX0 (k + 1) f fd ps sp := by
  obtain ⟨oc, od, kV, doc, pm, an, ct, osl, rfl, lk, hcd⟩ := F.ex
  refine fn_of lk hcd S len fun A outer s H vs Q E hr hsp => ?_
  obtain ⟨t, h, q⟩ := body A outer s H vs Q E hr hsp
  exact ⟨t, h.nox, q⟩
end
/-- isinstance's answers for what the data holds -/
inductive IsA : String → Hp → V → Bool → Prop
  | tup {H : Hp} {a : Addr} {xs : List V} (h : H a = some (.tup xs)) : IsA "tuple" H (.ref a) true
  | int {H : Hp} (i : Int) : IsA "int" H (.int i) true
  | notB {H : Hp} (i : Int) : IsA "bool" H (.int i) false
  | bl {H : Hp} (b : Bool) : IsA "bool" H (.bl b) true
  | str {H : Hp} (x : Str) : IsA "str" H (.str x) true
def tIsA (T : String) (te : TE) : TE := fun σ H Q => te σ H fun x H1 => ∃ b, IsA T H1 x b ∧ Q (.bl b) H1
section
variable {X : Cx} {e : Expr} {te : TE}
theorem is_run {T : String} {H : Hp} {x : V} {b : Bool} (h : IsA T H x b) : ∃ t, TyX X.K H x t ∧ PySem.W.kitOne X.K t (.type T) = some b := by
  cases h with
  | tup h => exact ⟨_, .base (.tup h), kit_ty (by decide +kernel)⟩
  | int i => exact ⟨_, .base (.int i), kit_ty (by decide +kernel)⟩
  | notB i => exact ⟨_, .base (.int i), kit_ty (by decide +kernel)⟩
  | bl b => exact ⟨_, .base (.bl b), kit_ty (by decide +kernel)⟩
  | str x => exact ⟨_, .base (.str x), kit_ty (by decide +kernel)⟩
theorem PE.weak {t u : TE} (h : PE X e t) (w : ∀ σ H Q, u σ H Q → t σ H Q) : PE X e u := ⟨fun pins s σ H Q I hu => h.run pins s σ H Q I (w σ H Q hu)⟩
end
section
variable {X : Cx} {e : Expr} {te : TE} {p p2 pos : Pos}
def rIsA : List V → Hp → VK → Prop := fun xs H Q => ∃ (x : V) (T : String) (b : Bool), xs = [x, .ty T] ∧ IsA T H x b ∧ Q (.bl b) H
theorem isa_call : CallR X (.builtin "isinstance") rIsA := by
  intro pins s σ H xs us Q I rx h
  obtain ⟨x, T, b, rfl, ia, q⟩ := h
  obtain ⟨t, ty, kt⟩ := is_run (X := X) ia
  exact call_isi pins s σ H _ us Q I rx ⟨x, .ty T, t, .type T, b, rfl, .ty T, ty, kt, q⟩
/-- isinstance(e, T) -/
theorem pe_isa {T : String} {t : Str} (B : Blt X.mg) (hg : Gl X "isinstance") (hT : Gl X t) (hm : X.mg t = none) (hv : bootBuiltins t = some (.type T)) (he : PE X e te) (hn : t ≠ "__name__" := by decide) (hd : (t == ("__debug__" : Str)) = false := by decide)
    (h1 : starEach [e, .Name t p2] X.env = (false, eval e X.env) :: starEach [.Name t p2] X.env := by rfl) (h2 : (backTo pos (starEach [Expr.Name t p2] X.env)).any (·.1) = false := by rfl)
    (h3 : starEach [Expr.Name t p2] X.env = (false, eval (.Name t p2) X.env) :: starEach [] X.env := by rfl) : PE X (.Call (.Name "isinstance" p) [e, .Name t p2] [] pos) (tCB rIsA (tCons te (tCons (tC (.ty T)) tNil))) :=
  pe_callB isa_call hg B.isi (show bootBuiltins "isinstance" = some (.builtin "isinstance") by decide +kernel) (pa_cons he (pa_cons (pe_bltn hT hm hv (v := .ty T) rfl hn hd) pa_nil h3) h1) (he := h1) (hpl := h2)
end
theorem iteN {c : Bool} {A B : Prop} (e : c = false) (h : B) : if c = true then A else B := by
  rw [e]
  exact iteF h
theorem iteY {c : Bool} {A B : Prop} (e : c = true) (h : A) : if c = true then A else B := by
  rw [e]
  exact iteT h
/-- the tuple at v holds the items xs -/
def TpV (H : Hp) (v : V) (xs : List V) : Prop := ∃ a, v = .ref a ∧ H a = some (.tup xs)
/-- a tuple whose items stand for bs -/
def TupOf {α : Type} (R : V → α → Prop) (H : Hp) (v : V) (bs : List α) : Prop := ∃ vs, TpV H v vs ∧ Paired R vs bs
def FileAt (H : Hp) : V → List (List V) → Prop := TupOf (TpV H) H
def FilesAt (H : Hp) : V → List (List (List V)) → Prop := TupOf (FileAt H) H
structure Ev where
  kinds : Int
  parties : List (List V)
  files : List (List (List V))
  finds : List (List V)
def EvAt (H : Hp) (v : V) (e : Ev) : Prop := ∃ p f g, TpV H v [.int e.kinds, p, f, g] ∧ FileAt H p e.parties ∧ FilesAt H f e.files ∧ FileAt H g e.finds
/-- tuples stay -/
def Kp (H H' : Hp) : Prop := ∀ b xs, H b = some (.tup xs) → H' b = some (.tup xs)
theorem Kp.refl {H : Hp} : Kp H H := fun _ _ h => h
theorem Kp.trans {H H1 H2 : Hp} (a : Kp H H1) (b : Kp H1 H2) : Kp H H2 := fun c xs h => b c xs (a c xs h)
theorem Same.kp {H H' : Hp} (h : Same H H') : Kp H H' := fun b xs e => h b _ e
theorem Kp.tp {H H' : Hp} (k : Kp H H') {v : V} {xs : List V} (h : TpV H v xs) : TpV H' v xs := let ⟨a, e, q⟩ := h; ⟨a, e, k a xs q⟩
theorem Kp.file {H H' : Hp} (k : Kp H H') {v : V} {rs : List (List V)} (h : FileAt H v rs) : FileAt H' v rs := let ⟨vs, q, p⟩ := h; ⟨vs, k.tp q, Paired.mapP p fun _ _ z => k.tp z⟩
theorem Kp.files {H H' : Hp} (k : Kp H H') {v : V} {fs : List (List (List V))} (h : FilesAt H v fs) : FilesAt H' v fs := let ⟨vs, q, p⟩ := h; ⟨vs, k.tp q, Paired.mapP p fun _ _ z => k.file z⟩
theorem Kp.ev {H H' : Hp} (k : Kp H H') {v : V} {e : Ev} (h : EvAt H v e) : EvAt H' v e := let ⟨p, f, g, a, b, c, d⟩ := h; ⟨p, f, g, k.tp a, k.file b, k.files c, k.file d⟩
/-- every object stays but the tables, which stay tables -/
structure Kt (H H' : Hp) : Prop where
  keep : ∀ b o, H b = some o → (∀ ps, o ≠ .tbl ps) → H' b = some o
  tab : ∀ P, GxR.TabG H P → GxR.TabG H' P
theorem Kt.refl {H : Hp} : Kt H H := ⟨fun _ _ h _ => h, fun _ h => h⟩
theorem Kt.trans {H H1 H2 : Hp} (a : Kt H H1) (b : Kt H1 H2) : Kt H H2 := ⟨fun c o h n => b.keep c o (a.keep c o h n) n, fun P h => b.tab P (a.tab P h)⟩
theorem Kt.kp {H H' : Hp} (h : Kt H H') : Kp H H' := fun b xs e => h.keep b _ e fun ps z => nomatch z
theorem Kt.same {H H' : Hp} (h : Same H H') : Kt H H' := ⟨fun b o e _ => h b o e, fun P ⟨ps, e, t⟩ => ⟨ps, h P _ e, t⟩⟩
theorem Kt.grown {H H' : Hp} {P : Addr} (g : GxR.TabG H P) (h : GxR.Tabbed P H H') : Kt H H' := by
  obtain ⟨⟨ps, e, t⟩, k⟩ := h
  refine ⟨fun b o eb n => ?_, fun Z hz => ?_⟩
  · by_cases hb : b = P
    · obtain ⟨p0, e0, _⟩ := g
      rw [hb, e0] at eb
      exact absurd (Option.some.inj eb).symm (n p0)
    · rw [k b hb]; exact eb
  · by_cases hb : Z = P
    · rw [hb]; exact ⟨ps, e, t⟩
    · obtain ⟨p2, e2, t2⟩ := hz
      exact ⟨p2, (k Z hb).trans e2, t2⟩
end K1
end
section
set_option Elab.async false
set_option linter.all false
set_option maxRecDepth 100000
set_option maxHeartbeats 2000000
namespace K1
open PySem PyProof.Rows L2
section
variable {P : Program} {w : World} {K : PySem.W.Frag} {mg : Str → Option Value} {base : Heap}
theorem b_int : bootBuiltins "int" = some (.type "int") := by decide +kernel
theorem b_bool : bootBuiltins "bool" = some (.type "bool") := by decide +kernel
theorem b_str : bootBuiltins "str" = some (.type "str") := by decide +kernel
theorem b_tuple : bootBuiltins "tuple" = some (.type "tuple") := by decide +kernel
theorem b_len : bootBuiltins "len" = some (.builtin "len") := PySem.boot_len
def spNum : Sp := fun vs H Q _ => ∃ n a b : Int, vs = [.int n, .int a, .int b] ∧ a ≤ n ∧ n ≤ b ∧ Q (.bl true) H
theorem scNum : FnScope ["thing", "least", "most"] ["thing", "least", "most"] (defScope sIsNumber) := ⟨rfl, rfl, rfl, by decide +kernel, rfl, by decide +kernel, by decide +kernel⟩
theorem ok_num {f : Addr} {fd : FuncData} (D : DefAt K mg "is_number" sIsNumber ["thing", "least", "most"] f fd) (B : Blt mg) : FnOk P w K mg base CX0 1 f fd ["thing", "least", "most"] spNum := by
  refine D.F.ok scNum (fun vs H Q E h => ?_) (fun cdv A outer s H vs Q E hr h => ?_)
  · obtain ⟨n, a, b, rfl, _⟩ := h
    rfl
  · obtain ⟨n, a, b, rfl, h1, h2, k⟩ := h
    refine ⟨_, pss_one (ps_ret (pe_and (pe_isa B (by rfl) (by rfl) B.int b_int (pv 0)) (pe_and (pe_not (pe_isa B (by rfl) (by rfl) B.bool b_bool (pv 0))) (pe_one (pe_chain op_le op_le (pv 1) (pv 0) (pv 2)))))), ?_⟩
    refine ⟨_, rfl, _, _, _, rfl, .int n, true, rfl, ?_⟩
    refine iteT ?_
    refine ⟨_, rfl, _, _, _, rfl, .notB n, false, rfl, true, rfl, ?_⟩
    refine iteT ?_
    refine ⟨_, rfl, _, rfl, _, _, rfl, rfl, true, ?_, ?_⟩
    · show V.bl (decide (a ≤ n)) = _
      rw [decide_eq_true h1]
    refine iteT ?_
    refine ⟨_, rfl, _, _, rfl, rfl, ?_⟩
    show Q (.bl (decide (n ≤ b))) H
    rw [decide_eq_true h2]
    exact k
def spFlag : Sp := fun vs H Q _ => ∃ b : Bool, vs = [.bl b] ∧ Q (.bl true) H
theorem scFlag : FnScope ["thing"] ["thing"] (defScope sIsFlag) := ⟨rfl, rfl, rfl, by decide +kernel, rfl, by decide +kernel, by decide +kernel⟩
theorem ok_flag {f : Addr} {fd : FuncData} (D : DefAt K mg "is_flag" sIsFlag ["thing"] f fd) (B : Blt mg) : FnOk P w K mg base CX0 1 f fd ["thing"] spFlag := by
  refine D.F.ok scFlag (fun vs H Q E h => ?_) (fun cdv A outer s H vs Q E hr h => ?_)
  · obtain ⟨b, rfl, _⟩ := h
    rfl
  · obtain ⟨b, rfl, k⟩ := h
    exact ⟨_, pss_one (ps_ret (pe_isa B (by rfl) (by rfl) B.bool b_bool (pv 0))), _, rfl, _, _, _, rfl, .bl b, k⟩
def spParty : Sp := fun vs H Q _ => ∃ (v : V) (a b : Bool), vs = [v] ∧ TpV H v [.bl a, .bl b] ∧ Q (.bl true) H
theorem scParty : FnScope ["thing"] ["thing"] (defScope sIsParty) := ⟨rfl, rfl, rfl, by decide +kernel, rfl, by decide +kernel, by decide +kernel⟩
theorem ok_party {f fF : Addr} {fd fdF : FuncData} (D : DefAt K mg "is_party" sIsParty ["thing"] f fd) (B : Blt mg) (DF : DefAt K mg "is_flag" sIsFlag ["thing"] fF fdF) : FnOk P w K mg base CX0 2 f fd ["thing"] spParty := by
  have GF : FnOk P w K mg base CX0 1 fF fdF ["thing"] spFlag := ok_flag DF B
  refine D.F.ok scParty (fun vs H Q E h => ?_) (fun cdv A outer s H vs Q E hr h => ?_)
  · obtain ⟨v, a, b, rfl, _⟩ := h
    rfl
  · obtain ⟨v, a, b, rfl, ⟨x, rfl, hx⟩, k⟩ := h
    have hu := hu_of hr
    refine ⟨_, pss_one (ps_ret (pe_and (pe_isa B (by rfl) (by rfl) B.tup b_tuple (pv 0)) (pe_and (pe_cmpR op_eq (pe_callB call_len_seq (by rfl) B.len b_len (pa_cons (pv 0) pa_nil)) pe_int (nomark _))
      (pe_and (pe_call GF hr (by rfl) DF.g DF.k DF.b .nil pass0 (pa_cons (pe_ix ix_tup (pv 0) pe_int (fun _ _ => rfl)) pa_nil)) (pe_one (pe_call GF hr (by rfl) DF.g DF.k DF.b .nil pass0 (pa_cons (pe_ix ix_tup (pv 0) pe_int (fun _ _ => rfl)) pa_nil))))))), ?_⟩
    (repeat (first | refine ⟨_, _, rfl, .inr (SqT.of upd_same), rfl, rfl, ?_⟩ |  refine ⟨_, _, _, _, rfl, rfl, SqT.of (by assumption), rfl, ?_⟩ | refine ⟨_, _, _, rfl, .int _, ?_⟩ | refine ⟨_, _, _, rfl, .bl _, ?_⟩ | refine ⟨_, _, _, rfl, .str _, ?_⟩ | refine ⟨_, _, _, rfl, .tup (by assumption), ?_⟩ | refine ⟨_, _, rfl, .inr (SqT.of (by assumption)), ?_⟩ | refine ⟨_, _, rfl, rfl, _, rfl, ?_⟩ | refine ⟨_, _, _, rfl, (by first | assumption | omega), (by first | assumption | omega), ?_⟩ | refine ⟨_, rfl, ?_⟩ | refine ⟨_, _, rfl, rfl, ?_⟩ | refine ⟨rfl, ?_⟩ | refine iteT ?_ | refine iteF ?_))
    exact k
def okEntry (k p o : Int) (r : List V) : Prop := ∃ n kd am : Int, (1 ≤ n ∧ n ≤ 1000000000) ∧ (0 ≤ kd ∧ kd ≤ k - 1) ∧ (1 ≤ am ∧ am ≤ 1000000000000) ∧
  ((∃ d : Str, (d = "made" ∨ d = "treated") ∧ r = [.int n, .str d, .int kd, .int am]) ∨ ∃ (d : Str) (ot : Int) (b : Bool), (d = "gave" ∨ d = "took") ∧ 0 ≤ ot ∧ ot ≤ p - 1 ∧ ot ≠ o ∧ r = [.int n, .str d, .int kd, .int am, .int ot, .bl b])
def spEntry : Sp := fun vs H Q _ => ∃ (v : V) (k p o : Int) (r : List V), vs = [v, .int k, .int p, .int o] ∧ TpV H v r ∧ okEntry k p o r ∧ ∀ H', Same H H' → Q (.bl true) H'
theorem scEntry : FnScope ["thing", "kinds", "parties", "owner", "deeds"] ["thing", "kinds", "parties", "owner"] (defScope sIsEntry) := ⟨rfl, rfl, rfl, by decide +kernel, rfl, by decide +kernel, by decide +kernel⟩
theorem ok_entry {f fN fF pa ca : Addr} {fd fdN fdF : FuncData} (D : DefAt K mg "is_entry" sIsEntry ["thing", "kinds", "parties", "owner"] f fd) (B : Blt mg) (C : Cst K mg pa ca) (DN : DefAt K mg "is_number" sIsNumber ["thing", "least", "most"] fN fdN) (DF : DefAt K mg "is_flag" sIsFlag ["thing"] fF fdF) :
    FnOk P w K mg base CX0 2 f fd ["thing", "kinds", "parties", "owner"] spEntry := by
  have GF : FnOk P w K mg base CX0 1 fF fdF ["thing"] spFlag := ok_flag DF B
  have GN : FnOk P w K mg base CX0 1 fN fdN ["thing", "least", "most"] spNum := ok_num DN B
  obtain ⟨tn, cN⟩ := C.number
  obtain ⟨ta, cA⟩ := C.amount
  refine D.F.ok scEntry (fun vs H Q E h => ?_) (fun cdv A outer s H vs Q E hr h => ?_)
  · obtain ⟨v, k, p, o, r, rfl, _⟩ := h
    rfl
  · obtain ⟨v, k, p, o, r, rfl, ⟨x, rfl, hx⟩, hok, q⟩ := h
    have hu := hu_of hr
    have nd := scEntry.nd
    refine ⟨_, pss_cons (ps_if (PW.pt (pw_or (pt_not (pt_val (pe_isa B (by rfl) (by rfl) B.tup b_tuple (pv 0)))) (pw_or1 (pt_cmpR op_notIn_seq (pe_callB call_len_seq (by rfl) B.len b_len (pa_cons (pv 0) pa_nil)) (pe_tup (pa_cons pe_int (pa_cons pe_int pa_nil))) (by with_unfolding_all rfl))))) (pss_one (ps_ret pe_bl)) pss_nil)
      (pss_cons (ps_set (i := 4) nd rfl (Or.inl rfl) (pe_ifExp (pt_cmpR op_eq (pe_callB call_len_seq (by rfl) B.len b_len (pa_cons (pv 0) pa_nil)) pe_int (nomark _)) (pe_glob (v := .ref pa) rfl C.plain rfl) (pe_glob (v := .ref ca) rfl C.copy rfl)))
      (pss_cons (ps_if (PW.pt (pw_or (pt_not (pt_val (pe_call GN hr (by rfl) DN.g DN.k DN.b .nil pass0 (pa_cons (pe_ix ix_tup (pv 0) pe_int (fun _ _ => rfl)) (pa_cons pe_int (pa_cons (pe_glob (v := .int 1000000000) rfl cN ⟨_, rfl⟩) pa_nil))))))
          (pw_or (pt_not (pt_val (pe_isa B (by rfl) (by rfl) B.str b_str (pe_ix ix_tup (pv 0) pe_int (fun _ _ => rfl))))) (pw_or1 (pt_cmpR op_notIn_seq (pe_ix ix_tup (pv 0) pe_int (fun _ _ => rfl)) (pv 4) (by with_unfolding_all rfl)))))) (pss_one (ps_ret pe_bl)) pss_nil)
      (pss_cons (ps_if (PW.pt (pw_or (pt_not (pt_val (pe_call GN hr (by rfl) DN.g DN.k DN.b .nil pass0 (pa_cons (pe_ix ix_tup (pv 0) pe_int (fun _ _ => rfl)) (pa_cons pe_int (pa_cons (pe_op op_sub (pv 1) pe_int) pa_nil))))))
          (pw_or1 (pt_not (pt_val (pe_call GN hr (by rfl) DN.g DN.k DN.b .nil pass0 (pa_cons (pe_ix ix_tup (pv 0) pe_int (fun _ _ => rfl)) (pa_cons pe_int (pa_cons (pe_glob (v := .int 1000000000000) rfl cA ⟨_, rfl⟩) pa_nil))))))))) (pss_one (ps_ret pe_bl)) pss_nil)
      (pss_cons (ps_if (pt_cmpR op_eq (pe_callB call_len_seq (by rfl) B.len b_len (pa_cons (pv 0) pa_nil)) pe_int (nomark _)) (pss_one (ps_ret pe_bl)) pss_nil)
      (pss_one (ps_ret (pe_and (pe_call GN hr (by rfl) DN.g DN.k DN.b .nil pass0 (pa_cons (pe_ix ix_tup (pv 0) pe_int (fun _ _ => rfl)) (pa_cons pe_int (pa_cons (pe_op op_sub (pv 2) pe_int) pa_nil))))
          (pe_and (pe_cmpR op_ne (pe_ix ix_tup (pv 0) pe_int (fun _ _ => rfl)) (pv 3) (nomark _)) (pe_one (pe_call GF hr (by rfl) DF.g DF.k DF.b .nil pass0 (pa_cons (pe_ix ix_tup (pv 0) pe_int (fun _ _ => rfl)) pa_nil))))))))))), ?_⟩
    obtain ⟨n, kd, am, ⟨n1, n2⟩, ⟨k1, k2⟩, ⟨a1, a2⟩, hrow⟩ := hok
    rcases hrow with ⟨d, hd, rfl⟩ | ⟨d, ot, b, hd, o1, o2, o3, rfl⟩
    · (repeat (first | refine ⟨_, _, rfl, .inr (SqT.of upd_same), rfl, rfl, ?_⟩ |  refine ⟨_, _, _, _, rfl, rfl, SqT.of (by assumption), rfl, ?_⟩ | refine ⟨_, _, _, rfl, .int _, ?_⟩ | refine ⟨_, _, _, rfl, .bl _, ?_⟩ | refine ⟨_, _, _, rfl, .str _, ?_⟩ | refine ⟨_, _, _, rfl, .tup (by assumption), ?_⟩ | refine ⟨_, _, rfl, .inr (SqT.of (by assumption)), ?_⟩ | refine ⟨_, _, rfl, rfl, _, rfl, ?_⟩ | refine ⟨_, _, _, rfl, (by first | assumption | omega), (by first | assumption | omega), ?_⟩ | refine ⟨_, rfl, ?_⟩ | refine ⟨_, _, rfl, rfl, ?_⟩ | refine ⟨rfl, ?_⟩ | refine iteT ?_ | refine iteF ?_))
      refine ⟨by show 2 ≤ sizeLine; decide, fun t ht => ?_⟩
      have hx' : upd H t (.tup [.int 4, .int 6]) x = some _ := (upd_ne (ne_of_none hx ht)).trans hx
      have sm : Same H (upd H t (.tup [.int 4, .int 6])) := fun b o e => (upd_ne (ne_of_none e ht)).trans e
      have hi : inV (.str d) [.str "made", .str "treated"] = true := by
        rcases hd with rfl | rfl <;> decide +kernel
      (repeat (first | refine ⟨_, _, rfl, .inr (SqT.of upd_same), rfl, rfl, ?_⟩ |  refine ⟨_, _, _, _, rfl, rfl, SqT.of (by assumption), rfl, ?_⟩ | refine ⟨_, _, _, rfl, .int _, ?_⟩ | refine ⟨_, _, _, rfl, .bl _, ?_⟩ | refine ⟨_, _, _, rfl, .str _, ?_⟩ | refine ⟨_, _, _, rfl, .tup (by assumption), ?_⟩ | refine ⟨_, _, rfl, .inr (SqT.of (by assumption)), ?_⟩ | refine ⟨_, _, rfl, rfl, _, rfl, ?_⟩ | refine ⟨_, _, _, rfl, (by first | assumption | omega), (by first | assumption | omega), ?_⟩ | refine ⟨_, rfl, ?_⟩ | refine ⟨_, _, rfl, rfl, ?_⟩ | refine ⟨rfl, ?_⟩ | refine iteT ?_ | refine iteF ?_))
      refine ⟨_, _, rfl, .inr (C.kplain.sq _), rfl, rfl, ?_⟩
      rw [hi]
      (repeat (first | refine ⟨_, _, rfl, .inr (SqT.of upd_same), rfl, rfl, ?_⟩ |  refine ⟨_, _, _, _, rfl, rfl, SqT.of (by assumption), rfl, ?_⟩ | refine ⟨_, _, _, rfl, .int _, ?_⟩ | refine ⟨_, _, _, rfl, .bl _, ?_⟩ | refine ⟨_, _, _, rfl, .str _, ?_⟩ | refine ⟨_, _, _, rfl, .tup (by assumption), ?_⟩ | refine ⟨_, _, rfl, .inr (SqT.of (by assumption)), ?_⟩ | refine ⟨_, _, rfl, rfl, _, rfl, ?_⟩ | refine ⟨_, _, _, rfl, (by first | assumption | omega), (by first | assumption | omega), ?_⟩ | refine ⟨_, rfl, ?_⟩ | refine ⟨_, _, rfl, rfl, ?_⟩ | refine ⟨rfl, ?_⟩ | refine iteT ?_ | refine iteF ?_))
      exact q _ sm
    · (repeat (first | refine ⟨_, _, rfl, .inr (SqT.of upd_same), rfl, rfl, ?_⟩ |  refine ⟨_, _, _, _, rfl, rfl, SqT.of (by assumption), rfl, ?_⟩ | refine ⟨_, _, _, rfl, .int _, ?_⟩ | refine ⟨_, _, _, rfl, .bl _, ?_⟩ | refine ⟨_, _, _, rfl, .str _, ?_⟩ | refine ⟨_, _, _, rfl, .tup (by assumption), ?_⟩ | refine ⟨_, _, rfl, .inr (SqT.of (by assumption)), ?_⟩ | refine ⟨_, _, rfl, rfl, _, rfl, ?_⟩ | refine ⟨_, _, _, rfl, (by first | assumption | omega), (by first | assumption | omega), ?_⟩ | refine ⟨_, rfl, ?_⟩ | refine ⟨_, _, rfl, rfl, ?_⟩ | refine ⟨rfl, ?_⟩ | refine iteT ?_ | refine iteF ?_))
      refine ⟨by show 2 ≤ sizeLine; decide, fun t ht => ?_⟩
      have hx' : upd H t (.tup [.int 4, .int 6]) x = some _ := (upd_ne (ne_of_none hx ht)).trans hx
      have sm : Same H (upd H t (.tup [.int 4, .int 6])) := fun b o e => (upd_ne (ne_of_none e ht)).trans e
      have hi : inV (.str d) [.str "gave", .str "took"] = true := by
        rcases hd with rfl | rfl <;> decide +kernel
      (repeat (first | refine ⟨_, _, rfl, .inr (SqT.of upd_same), rfl, rfl, ?_⟩ |  refine ⟨_, _, _, _, rfl, rfl, SqT.of (by assumption), rfl, ?_⟩ | refine ⟨_, _, _, rfl, .int _, ?_⟩ | refine ⟨_, _, _, rfl, .bl _, ?_⟩ | refine ⟨_, _, _, rfl, .str _, ?_⟩ | refine ⟨_, _, _, rfl, .tup (by assumption), ?_⟩ | refine ⟨_, _, rfl, .inr (SqT.of (by assumption)), ?_⟩ | refine ⟨_, _, rfl, rfl, _, rfl, ?_⟩ | refine ⟨_, _, _, rfl, (by first | assumption | omega), (by first | assumption | omega), ?_⟩ | refine ⟨_, rfl, ?_⟩ | refine ⟨_, _, rfl, rfl, ?_⟩ | refine ⟨rfl, ?_⟩ | refine iteT ?_ | refine iteF ?_))
      refine ⟨_, _, rfl, .inr (C.kcopy.sq _), rfl, rfl, ?_⟩
      rw [hi]
      (repeat (first | refine ⟨_, _, rfl, .inr (SqT.of upd_same), rfl, rfl, ?_⟩ |  refine ⟨_, _, _, _, rfl, rfl, SqT.of (by assumption), rfl, ?_⟩ | refine ⟨_, _, _, rfl, .int _, ?_⟩ | refine ⟨_, _, _, rfl, .bl _, ?_⟩ | refine ⟨_, _, _, rfl, .str _, ?_⟩ | refine ⟨_, _, _, rfl, .tup (by assumption), ?_⟩ | refine ⟨_, _, rfl, .inr (SqT.of (by assumption)), ?_⟩ | refine ⟨_, _, rfl, rfl, _, rfl, ?_⟩ | refine ⟨_, _, _, rfl, (by first | assumption | omega), (by first | assumption | omega), ?_⟩ | refine ⟨_, rfl, ?_⟩ | refine ⟨_, _, rfl, rfl, ?_⟩ | refine ⟨rfl, ?_⟩ | refine iteT ?_ | refine iteF ?_))
      rw [if_pos (by simp [o3])]
      (repeat (first | refine ⟨_, _, rfl, .inr (SqT.of upd_same), rfl, rfl, ?_⟩ |  refine ⟨_, _, _, _, rfl, rfl, SqT.of (by assumption), rfl, ?_⟩ | refine ⟨_, _, _, rfl, .int _, ?_⟩ | refine ⟨_, _, _, rfl, .bl _, ?_⟩ | refine ⟨_, _, _, rfl, .str _, ?_⟩ | refine ⟨_, _, _, rfl, .tup (by assumption), ?_⟩ | refine ⟨_, _, rfl, .inr (SqT.of (by assumption)), ?_⟩ | refine ⟨_, _, rfl, rfl, _, rfl, ?_⟩ | refine ⟨_, _, _, rfl, (by first | assumption | omega), (by first | assumption | omega), ?_⟩ | refine ⟨_, rfl, ?_⟩ | refine ⟨_, _, rfl, rfl, ?_⟩ | refine ⟨rfl, ?_⟩ | refine iteT ?_ | refine iteF ?_))
      exact q _ sm
def okFind (k p : Int) (r : List V) : Prop := ∃ n pt kd am : Int, (1 ≤ n ∧ n ≤ 1000000000) ∧ (0 ≤ pt ∧ pt ≤ p - 1) ∧ (0 ≤ kd ∧ kd ≤ k - 1) ∧ (0 ≤ am ∧ am ≤ 1000000000000) ∧ r = [.int n, .int pt, .int kd, .int am]
def spFind : Sp := fun vs H Q _ => ∃ (v : V) (k p : Int) (r : List V), vs = [v, .int k, .int p] ∧ TpV H v r ∧ okFind k p r ∧ Q (.bl true) H
theorem scFind : FnScope ["thing", "kinds", "parties"] ["thing", "kinds", "parties"] (defScope sIsFind) := ⟨rfl, rfl, rfl, by decide +kernel, rfl, by decide +kernel, by decide +kernel⟩
theorem ok_find {f fN pa ca : Addr} {fd fdN : FuncData} (D : DefAt K mg "is_find" sIsFind ["thing", "kinds", "parties"] f fd) (B : Blt mg) (C : Cst K mg pa ca) (DN : DefAt K mg "is_number" sIsNumber ["thing", "least", "most"] fN fdN) :
    FnOk P w K mg base CX0 2 f fd ["thing", "kinds", "parties"] spFind := by
  have GN : FnOk P w K mg base CX0 1 fN fdN ["thing", "least", "most"] spNum := ok_num DN B
  obtain ⟨tn, cN⟩ := C.number
  obtain ⟨ta, cA⟩ := C.amount
  refine D.F.ok scFind (fun vs H Q E h => ?_) (fun cdv A outer s H vs Q E hr h => ?_)
  · obtain ⟨v, k, p, r, rfl, _⟩ := h
    rfl
  · obtain ⟨v, k, p, r, rfl, ⟨x, rfl, hx⟩, hok, q⟩ := h
    have hu := hu_of hr
    refine ⟨_, (pss_cons (ps_if (PW.pt (pw_or (pt_not (pt_val (pe_isa B (by rfl) (by rfl) B.tup b_tuple (pv 0)))) (pw_or (pt_cmpR op_ne (pe_callB call_len_seq (by rfl) B.len b_len (pa_cons (pv 0) pa_nil)) pe_int (nomark _)) (pw_or1 (pt_not (pt_val (pe_call GN hr (by rfl) DN.g DN.k DN.b .nil pass0 (pa_cons (pe_ix ix_tup (pv 0) pe_int (fun _ _ => rfl)) (pa_cons pe_int (pa_cons (pe_glob (v := .int 1000000000) rfl cN ⟨_, rfl⟩) pa_nil)))))))))) (pss_one (ps_ret pe_bl)) pss_nil)
      (pss_cons (ps_if (PW.pt (pw_or (pt_not (pt_val (pe_call GN hr (by rfl) DN.g DN.k DN.b .nil pass0 (pa_cons (pe_ix ix_tup (pv 0) pe_int (fun _ _ => rfl)) (pa_cons pe_int (pa_cons (pe_op op_sub (pv 2) pe_int) pa_nil)))))) (pw_or1 (pt_not (pt_val (pe_call GN hr (by rfl) DN.g DN.k DN.b .nil pass0 (pa_cons (pe_ix ix_tup (pv 0) pe_int (fun _ _ => rfl)) (pa_cons pe_int (pa_cons (pe_op op_sub (pv 1) pe_int) pa_nil))))))))) (pss_one (ps_ret pe_bl)) pss_nil)
      (pss_one (ps_ret (pe_call GN hr (by rfl) DN.g DN.k DN.b .nil pass0 (pa_cons (pe_ix ix_tup (pv 0) pe_int (fun _ _ => rfl)) (pa_cons pe_int (pa_cons (pe_glob (v := .int 1000000000000) rfl cA ⟨_, rfl⟩) pa_nil)))))))), ?_⟩
    obtain ⟨n, pt, kd, am, ⟨n1, n2⟩, ⟨p1, p2⟩, ⟨k1, k2⟩, ⟨a1, a2⟩, rfl⟩ := hok
    (repeat (first | refine ⟨_, _, rfl, .inr (SqT.of upd_same), rfl, rfl, ?_⟩ |  refine ⟨_, _, _, _, rfl, rfl, SqT.of (by assumption), rfl, ?_⟩ | refine ⟨_, _, _, rfl, .int _, ?_⟩ | refine ⟨_, _, _, rfl, .bl _, ?_⟩ | refine ⟨_, _, _, rfl, .str _, ?_⟩ | refine ⟨_, _, _, rfl, .tup (by assumption), ?_⟩ | refine ⟨_, _, rfl, .inr (SqT.of (by assumption)), ?_⟩ | refine ⟨_, _, rfl, rfl, _, rfl, ?_⟩ | refine ⟨_, _, _, rfl, (by first | assumption | omega), (by first | assumption | omega), ?_⟩ | refine ⟨_, rfl, ?_⟩ | refine ⟨_, _, rfl, rfl, ?_⟩ | refine ⟨rfl, ?_⟩ | refine iteT ?_ | refine iteF ?_))
    exact q
end
end K1
end
section
set_option Elab.async false
set_option linter.all false
set_option maxRecDepth 100000
set_option maxHeartbeats 2000000
namespace K1
open PySem PyProof.Rows L2
/-- the number of a row -/
def hdI : List V → Int
  | .int n :: _ => n
  | _ => 0
def IsRow (r : List V) : Prop := ∃ t, r = .int (hdI r) :: t
def Asc (rs : List (List V)) : Prop := ∀ (i : Nat) (r r' : List V), rs[i]? = some r → rs[i + 1]? = some r' → hdI r < hdI r'
theorem Paired.get {α β : Type} {R : α → β → Prop} : ∀ {xs : List α} {ys : List β} {i : Nat} {y : β}, Paired R xs ys → ys[i]? = some y → ∃ x, xs[i]? = some x ∧ R x y
  | _, _, _, _, .nil, e => by simp at e
  | _, _, 0, _, .cons r t, e => by simp at e; subst e; exact ⟨_, rfl, r⟩
  | _, _, i + 1, y, .cons _ t, e => by
    simp at e
    obtain ⟨x, h, r⟩ := Paired.get t e
    exact ⟨x, by simpa using h, r⟩
theorem Paired.getL {α β : Type} {R : α → β → Prop} : ∀ {xs : List α} {ys : List β} {i : Nat} {x : α}, Paired R xs ys → xs[i]? = some x → ∃ y, ys[i]? = some y ∧ R x y
  | _, _, _, _, .nil, e => by simp at e
  | _, _, 0, _, .cons r t, e => by simp at e; subst e; exact ⟨_, rfl, r⟩
  | _, _, i + 1, y, .cons _ t, e => by
    simp at e
    obtain ⟨x, h, r⟩ := Paired.getL t e
    exact ⟨x, by simpa using h, r⟩
section
variable {X : Cx}
theorem ixT (K : PySem.W.Frag) (h : X.K = K := by rfl) : IxR X (rIxT K) := h ▸ ix_tup
theorem pgT (K : PySem.W.Frag) (n : Nat) {es : List Expr} {k : Nat} {t : TGs} {pos : Pos} (hc : X.calm = true) (h : PGs X es t) (hK : X.K = K := by rfl)
    (hn : (assignEach es X.env).length = n := by rfl) (hst : (assignEach es X.env).findIdx? (·.1) = none := by rfl) : PG X (.Tuple es k pos) (gTup K n t) := hK ▸ pg_tup hc h hn hst
def rLen (K : PySem.W.Frag) : List V → Hp → VK → Prop := fun xs H Q => ∃ p ys, xs = [.ref p] ∧ (SqL K H p ys ∨ SqT K H p ys) ∧ Q (.int ys.length) H
theorem lenK (K : PySem.W.Frag) (h : X.K = K := by rfl) : CallR X (.builtin "len") (rLen K) := h ▸ call_len_seq
end
section
variable {P : Program} {w : World} {K : PySem.W.Frag} {mg : Str → Option Value} {base : Heap}
theorem b_all : bootBuiltins "all" = some (.builtin "all") := by decide +kernel
def spAscend (T : Addr) : Sp := fun vs H Q _ => ∃ (v : V) (rs : List (List V)), vs = [v] ∧ FileAt H v rs ∧ (∀ r ∈ rs, IsRow r) ∧ Asc rs ∧ GxR.TabG H T ∧ ∀ H', Kt H H' → Q (.bl true) H'
theorem scAscend : FnScope ["rows", "at", "row"] ["rows"] (defScope sAscend) := ⟨rfl, rfl, rfl, by decide +kernel, rfl, by decide +kernel, by decide +kernel⟩
theorem ok_ascend {f c T : Addr} {fd : FuncData} (D : DefC K mg "ascend" sAscend ["rows"] f fd c) (B : Blt mg) (TB : GxR.TabB base mg c T) : FnOk P w K mg base CX0 2 f fd ["rows"] (spAscend T) := by
  refine D.F.ok scAscend (fun vs H Q E h => ?_) (fun A outer s H vs Q E hr h => ?_)
  · obtain ⟨v, rs, rfl, _⟩ := h
    rfl
  · obtain ⟨v, rs, rfl, ⟨vs, ⟨x, rfl, hx⟩, hp⟩, hrow, hasc, hT, q⟩ := h
    have hu := hu_of hr
    have nd := scAscend.nd
    refine ⟨_, pss_one (ps_ret (pe_allB (k := 0) (own := [("at", 1), ("row", 2)]) rfl hr (by rfl) B.all TB rfl nd (pi_enumT (by rfl) B.enum (pa_cons (pe_slice sl_tupA (pv 0) (po_some pe_int) po_none) pa_nil)) (blkOk_by (N := ["rows", "at", "row"]) (sc := defScope sAscend) (by decide +kernel))
      (fun _ _ _ _ _ _ => pgT K 2 rfl (pgs_cons (pg_name (i := 1) nd rfl (Or.inl rfl)) (pgs_cons (pg_name (i := 2) nd rfl (Or.inl rfl)) pgs_nil)))
      (fun _ _ _ _ _ _ _ => pe_cmpR op_lt (pe_ix (ixT K) (pe_ix (ixT K) (pv 0) (pv 1) (fun _ _ => rfl)) pe_int (fun _ _ => rfl)) (pe_ix (ixT K) (pv 2) pe_int (fun _ _ => rfl)) (nomark _)))), ?_⟩
    refine ⟨_, rfl, _, rfl, x, vs, rfl, SqT.of hx, fun hw => ?_, fun hw p hp0 => ?_⟩
    · have e : vs = [] := by
        have h1 := hw.1
        rw [show HT.sIx vs.length 0 (some 1) = min 1 vs.length from HT.sIx_nat vs.length 0 1] at h1
        exact List.length_eq_zero_iff.mp (by omega)
      subst e
      exact ⟨x, [], rfl, SqT.of hx, hT, fun H2 g => ⟨0, fun _ H3 => Kt H H3, Kt.grown hT g, fun i H3 hi => absurd hi (Nat.not_lt_zero i), fun H3 p3 => ⟨⟨[], SqT.of (p3.kp _ _ hx), rfl⟩, q H3 p3⟩⟩⟩
    · have ec : cutV vs (some 1) none = vs.drop 1 := by
        unfold cutV
        rw [show HT.sIx vs.length 0 (some 1) = min 1 vs.length from HT.sIx_nat vs.length 0 1, HT.sIx_none]
        cases vs with
        | nil => rfl
        | cons y ys => simp
      rw [ec]
      generalize hH1 : upd H p (.tup (vs.drop 1)) = H1
      have sm : Same H H1 := fun b o e => by rw [← hH1, upd_ne (ne_of_none e hp0)]; exact e
      have hp1 : H1 p = some (.tup (vs.drop 1)) := by rw [← hH1]; exact upd_same
      have hT1 : GxR.TabG H1 T := (Kt.same sm).tab T hT
      refine ⟨p, _, rfl, SqT.of hp1, hT1, fun H2 g => ⟨(vs.drop 1).length, fun _ H3 => Kt H1 H3, Kt.grown hT1 g, fun i H3 hi k3 => ?_, fun H3 k3 => ⟨⟨_, SqT.of (k3.kp _ _ hp1), rfl⟩, q H3 ((Kt.same sm).trans k3)⟩⟩⟩
      have hp3 := k3.kp _ _ hp1
      have hx3 := k3.kp _ _ ((Kt.same sm).kp _ _ hx)
      have h1 : (vs.drop 1)[i]? = vs[i + 1]? := by rw [List.getElem?_drop, Nat.add_comm]
      have hi' : i + 1 < vs.length := by rw [List.length_drop] at hi; omega
      obtain ⟨y, hy⟩ : ∃ y, vs[i + 1]? = some y := ⟨_, List.getElem?_eq_getElem hi'⟩
      obtain ⟨z, hz⟩ : ∃ z, vs[i]? = some z := ⟨_, List.getElem?_eq_getElem (by omega)⟩
      obtain ⟨r', hr', ay, rfl, hay⟩ := Paired.getL hp hy
      obtain ⟨r, hr0, az, rfl, haz⟩ := Paired.getL hp hz
      obtain ⟨t, et⟩ := hrow r (List.mem_of_getElem? hr0)
      obtain ⟨t', et'⟩ := hrow r' (List.mem_of_getElem? hr')
      refine ⟨⟨_, _, SqT.of hp3, h1.trans hy⟩, ?_⟩
      rintro v H' ⟨Z, x', rfl, hZ, rfl, hall⟩
      have ex : x' = V.ref ay := by
        have e := hall _ (SqT.of hp3)
        rw [h1, hy] at e
        exact (Option.some.inj e).symm
      subst ex
      have s3 : Same H3 (upd H3 Z (.tup [.int (i : Nat), .ref ay])) := fun b o e => (upd_ne (ne_of_none e hZ)).trans e
      have g1 := (Kt.same s3).kp _ _ hx3
      have g2 := (Kt.same s3).kp _ _ (k3.kp _ _ ((Kt.same sm).kp _ _ haz))
      have g3 := (Kt.same s3).kp _ _ (k3.kp _ _ ((Kt.same sm).kp _ _ hay))
      rw [et] at g2
      rw [et'] at g3
      refine ⟨_, _, rfl, SqT.of upd_same, rfl, _, _, rfl, _, _, rfl, rfl, rfl, ?_⟩
      refine ⟨_, rfl, _, rfl, _, _, _, _, rfl, rfl, SqT.of g1, atI_nat hz, ?_⟩
      refine ⟨_, _, _, _, rfl, rfl, SqT.of g2, atI_nat (j := 0) rfl, ?_⟩
      refine ⟨_, rfl, _, _, _, _, rfl, rfl, SqT.of g3, atI_nat (j := 0) rfl, ?_⟩
      refine ⟨_, _, rfl, rfl, ?_, k3.trans (Kt.same s3)⟩
      show V.bl (decide (hdI r < hdI r')) = _
      rw [decide_eq_true (hasc i r r' hr0 hr')]
end
end K1
end
section
set_option Elab.async false
set_option linter.all false
set_option maxRecDepth 100000
set_option maxHeartbeats 2000000
namespace K1
open PySem PyProof.Rows L2
section
variable {X : Cx}
/-- a walk of a tuple in all(..), any(..) -/
theorem gen_tup {K : PySem.W.Frag} {te : TE} {T : Addr} {b : Bool} {vs : List Nat} {σ : L2.St} {H : Hp} {Q : VK} {s i : Nat} {a : Addr} {xs : List V} (hs : σ[s]? = some (some (.ref a))) (ha : H a = some (.tup xs)) (hT : GxR.TabG H T)
    (turn : ∀ (j : Nat) (x : V) (H3 : Hp), xs[j]? = some x → Kt H H3 → wipe ((wipe σ vs).set i (some x)) vs = wipe σ vs ∧ te ((wipe σ vs).set i (some x)) H3 fun y H4 => y = .bl b ∧ Kt H H4)
    (k : ∀ H', Kt H H' → Q (.bl b) H') : tGenB (iTup K (tVar s)) (gName i) te T b vs σ H Q := by
  refine ⟨_, hs, a, rfl, ⟨_, SqT.of ha⟩, hT, fun H2 g => ⟨xs.length, fun _ H3 => Kt H H3, Kt.grown hT g, fun j H3 hj k3 => ?_, fun H3 k3 => ⟨?_, k H3 k3⟩⟩⟩
  · obtain ⟨x, hx⟩ : ∃ x, xs[j]? = some x := ⟨_, List.getElem?_eq_getElem hj⟩
    refine ⟨⟨xs, x, SqT.of (k3.kp _ _ ha), hx⟩, ?_⟩
    rintro v H' ⟨eH, hall⟩
    rw [eH]
    have e := hall _ (SqT.of (k3.kp _ _ ha))
    rw [hx] at e
    cases e
    obtain ⟨t1, t2⟩ := turn j x H3 hx k3
    exact ⟨t1, t2⟩
  · exact ⟨xs, SqT.of (k3.kp _ _ ha), Nat.le_refl _⟩
end
theorem paired_len {α β : Type} {R : α → β → Prop} {xs : List α} {ys : List β} (h : Paired R xs ys) : xs.length = ys.length := Paired.length h
section
variable {P : Program} {w : World} {K : PySem.W.Frag} {mg : Str → Option Value} {base : Heap}
def spFile (T T2 : Addr) : Sp := fun vs H Q _ => ∃ (v : V) (k p o : Int) (rs : List (List V)), vs = [v, .int k, .int p, .int o] ∧ FileAt H v rs ∧ rs.length ≤ 200 ∧ (∀ r ∈ rs, okEntry k p o r) ∧ Asc rs ∧ GxR.TabG H T ∧ GxR.TabG H T2 ∧ ∀ H', Kt H H' → Q (.bl true) H'
theorem okEntry.row {k p o : Int} {r : List V} (h : okEntry k p o r) : IsRow r := by
  obtain ⟨n, kd, am, _, _, _, ⟨d, _, rfl⟩ | ⟨d, ot, b, _, _, _, _, rfl⟩⟩ := h
  · exact ⟨_, rfl⟩
  · exact ⟨_, rfl⟩
theorem okFind.row {k p : Int} {r : List V} (h : okFind k p r) : IsRow r := by
  obtain ⟨n, pt, kd, am, _, _, _, _, rfl⟩ := h
  exact ⟨_, rfl⟩
theorem scFile : FnScope ["thing", "kinds", "parties", "owner", "entry"] ["thing", "kinds", "parties", "owner"] (defScope sIsFile) := ⟨rfl, rfl, rfl, by decide +kernel, rfl, by decide +kernel, by decide +kernel⟩
theorem ok_file {f fE fA c T T2 : Addr} {fd fdE fdA : FuncData} (D : DefC K mg "is_file" sIsFile ["thing", "kinds", "parties", "owner"] f fd c) (B : Blt mg) {pa ca : Addr} (C : Cst K mg pa ca) (TB : GxR.TabB base mg c T)
    (DE : DefAt K mg "is_entry" sIsEntry ["thing", "kinds", "parties", "owner"] fE fdE) (GE : FnOk P w K mg base CX0 2 fE fdE ["thing", "kinds", "parties", "owner"] spEntry)
    {cA : Addr} (DA : DefC K mg "ascend" sAscend ["rows"] fA fdA cA) (GA : FnOk P w K mg base CX0 2 fA fdA ["rows"] (spAscend T2)) : FnOk P w K mg base CX0 4 f fd ["thing", "kinds", "parties", "owner"] (spFile T T2) := by
  obtain ⟨tr, cR⟩ := C.rows
  refine D.F.ok scFile (fun vs H Q E h => ?_) (fun A outer s H vs Q E hr h => ?_)
  · obtain ⟨v, k, p, o, rs, rfl, _⟩ := h
    rfl
  · obtain ⟨v, k, p, o, rs, rfl, ⟨vs, ⟨x, rfl, hx⟩, hp⟩, hl, hok, hasc, hT, hT2, q⟩ := h
    have hu := hu_of hr
    have nd := scFile.nd
    have hr2 := hr.mono (show 2 ≤ 3 by decide)
    refine ⟨_, (pss_cons (ps_if (PW.pt (pw_or (pt_not (pt_val (pe_isa B (by rfl) (by rfl) B.tup b_tuple (pv 0)))) (pw_or1 (pt_cmpR op_gt (pe_callB call_len_seq (by rfl) B.len b_len (pa_cons (pv 0) pa_nil)) (pe_glob (v := .int 200) rfl cR ⟨_, rfl⟩) (nomark _))))) (pss_one (ps_ret pe_bl)) pss_nil)
      (pss_one (ps_ret (pe_and (pe_allB (k := 2) (own := [("entry", 4)]) rfl hr (by rfl) B.all TB rfl nd (pi_tup (pv 0)) (blkOk_by (N := ["thing", "kinds", "parties", "owner", "entry"]) (sc := defScope sIsFile) (by decide +kernel)) (fun _ _ _ _ _ _ => pg_name (i := 4) nd rfl (Or.inl rfl)) (fun _ _ _ _ _ _ hr3 => pe_call GE hr3 (by rfl) DE.g DE.k DE.b .nil pass0 (pa_cons (pv 4) (pa_cons (pv 1) (pa_cons (pv 2) (pa_cons (pv 3) pa_nil)))))) (pe_one (pe_call GA hr2 (by rfl) DA.g DA.F.kp DA.b .nil pass0 (pa_cons (pv 0) pa_nil))))))), ?_⟩
    have hlen : (vs.length : Int) ≤ 200 := by
      have := paired_len hp
      omega
    (repeat (first | refine ⟨_, _, rfl, .inr (SqT.of upd_same), rfl, rfl, ?_⟩ |  refine ⟨_, _, _, _, rfl, rfl, SqT.of (by assumption), rfl, ?_⟩ | refine ⟨_, _, _, rfl, .int _, ?_⟩ | refine ⟨_, _, _, rfl, .bl _, ?_⟩ | refine ⟨_, _, _, rfl, .str _, ?_⟩ | refine ⟨_, _, _, rfl, .tup (by assumption), ?_⟩ | refine ⟨_, _, rfl, .inr (SqT.of (by assumption)), ?_⟩ | refine ⟨_, _, rfl, rfl, _, rfl, ?_⟩ | refine ⟨_, _, _, rfl, (by first | assumption | omega), (by first | assumption | omega), ?_⟩ | refine ⟨_, rfl, ?_⟩ | refine ⟨_, _, rfl, rfl, ?_⟩ | refine ⟨rfl, ?_⟩ | refine iteT ?_ | refine iteF ?_))
    refine iteN (decide_eq_false (by omega)) ?_
    unfold tNext tRet tAndV
    dsimp only
    refine gen_tup rfl hx hT (fun j y H3 hy k3 => ⟨by rfl, ?_⟩) fun H3 k3 => ?_
    · obtain ⟨r, hr0, hr1⟩ := Paired.getL hp hy
      exact ⟨_, rfl, _, rfl, _, rfl, _, rfl, y, k, p, o, r, rfl, k3.kp.tp hr1, hok r (List.mem_of_getElem? hr0), fun H4 s4 => ⟨rfl, k3.trans (Kt.same s4)⟩⟩
    · refine ⟨true, rfl, ?_⟩
      refine iteT ?_
      exact ⟨_, rfl, _, rs, rfl, k3.kp.file ⟨vs, ⟨x, rfl, hx⟩, hp⟩, fun r hr => (hok r hr).row, hasc, k3.tab _ hT2, fun H4 k4 => q H4 (k3.trans k4)⟩
end
end K1
end
section
set_option Elab.async false
set_option linter.all false
set_option maxRecDepth 100000
set_option maxHeartbeats 2000000
namespace K1
open PySem PyProof.Rows L2
section
variable {K : PySem.W.Frag}
theorem upd_get {H : Hp} {D a : Addr} {o u : HO} (h : H a = some o) (n : H D = none) : upd H D u a = some o := (upd_ne (ne_of_none h n)).trans h
/-- [te for x in t if tt], the parts reading alone -/
theorem lcT {tl : TE} {tt : TT} {te : TE} {vs : List Nat} {σ : L2.St} {H : Hp} {Q : VK} {i : Nat} {a : Addr} {xs : List V} (p : V → Bool) (f : V → V) (hs : ∀ R : VK, R (.ref a) H → tl σ H R) (ha : H a = some (.tup xs)) (hz : xs.length ≤ 1000)
    (hw : ∀ x : V, wipe ((wipe σ vs).set i (some x)) vs = wipe σ vs)
    (turn : ∀ (j : Nat) (x : V) (H3 : Hp), xs[j]? = some x → Same H H3 → (∀ R : Bool → Hp → Prop, R (p x) H3 → tt ((wipe σ vs).set i (some x)) H3 R) ∧ (p x = true → ∀ R : VK, R (f x) H3 → te ((wipe σ vs).set i (some x)) H3 R))
    (k : ∀ D, H D = none → Q (.ref D) (upd H D (.lst ((xs.filter p).map f)))) : tLc (iTup K tl) (gName i) tt te vs σ H Q := by
  refine hs _ ⟨a, rfl, ⟨_, SqT.of ha⟩, fun D hD => ?_⟩
  refine lc_tup (K := K) (a := a) (xs := xs) (fun j H3 => H3 = upd H D (.lst (((xs.take j).filter p).map f))) (by rfl) (fun j H3 _ e => by rw [e]; exact SqT.of (upd_get ha hD)) ?_ ?_
  · rintro j x H3 hx rfl
    refine ⟨hw x, ?_⟩
    have hj : j < xs.length := (List.getElem?_eq_some_iff.mp hx).1
    obtain ⟨t1, t2⟩ := turn j x _ hx (fun b o e => upd_get e hD)
    have et : xs.take (j + 1) = xs.take j ++ [x] := by rw [List.take_add_one, hx]; rfl
    refine t1 _ ?_
    cases hp : p x with
    | false =>
      refine iteN rfl ?_
      rw [et, List.filter_append, List.filter_cons_of_neg (by rw [hp]; exact Bool.false_ne_true), List.filter_nil, List.append_nil]
    | true =>
      refine iteY rfl ?_
      refine t2 hp _ ⟨_, upd_same, ?_, ?_⟩
      · rw [List.length_map]
        exact Nat.lt_of_le_of_lt (List.length_filter_le _ _) (small1000 (by rw [List.length_take]; omega))
      · rw [upd_upd, et, List.filter_append, List.filter_cons_of_pos hp, List.filter_nil, List.map_append]
        rfl
  · rintro H3 rfl
    rw [List.take_length]
    exact k D hD
/-- the same over a list -/
theorem lcL {tl : TE} {tt : TT} {te : TE} {vs : List Nat} {σ : L2.St} {H : Hp} {Q : VK} {i : Nat} {a : Addr} {xs : List V} (p : V → Bool) (f : V → V) (hs : ∀ R : VK, R (.ref a) H → tl σ H R) (ha : H a = some (.lst xs)) (hz : xs.length ≤ 1000)
    (hw : ∀ x : V, wipe ((wipe σ vs).set i (some x)) vs = wipe σ vs)
    (turn : ∀ (j : Nat) (x : V) (H3 : Hp), xs[j]? = some x → Same H H3 → (∀ R : Bool → Hp → Prop, R (p x) H3 → tt ((wipe σ vs).set i (some x)) H3 R) ∧ (p x = true → ∀ R : VK, R (f x) H3 → te ((wipe σ vs).set i (some x)) H3 R))
    (k : ∀ D, H D = none → Q (.ref D) (upd H D (.lst ((xs.filter p).map f)))) : tLc (iList K tl) (gName i) tt te vs σ H Q := by
  refine hs _ ⟨a, rfl, ⟨_, SqL.of ha⟩, fun D hD => ?_⟩
  refine lc_list (K := K) (a := a) (xs := xs) (fun j H3 => H3 = upd H D (.lst (((xs.take j).filter p).map f))) (by rfl) (fun j H3 _ e => by rw [e]; exact SqL.of (upd_get ha hD)) ?_ ?_
  · rintro j x H3 hx rfl
    refine ⟨hw x, ?_⟩
    have hj : j < xs.length := (List.getElem?_eq_some_iff.mp hx).1
    obtain ⟨t1, t2⟩ := turn j x _ hx (fun b o e => upd_get e hD)
    have et : xs.take (j + 1) = xs.take j ++ [x] := by rw [List.take_add_one, hx]; rfl
    refine t1 _ ?_
    cases hp : p x with
    | false =>
      refine iteN rfl ?_
      rw [et, List.filter_append, List.filter_cons_of_neg (by rw [hp]; exact Bool.false_ne_true), List.filter_nil, List.append_nil]
    | true =>
      refine iteY rfl ?_
      refine t2 hp _ ⟨_, upd_same, ?_, ?_⟩
      · rw [List.length_map]
        exact Nat.lt_of_le_of_lt (List.length_filter_le _ _) (small1000 (by rw [List.length_take]; omega))
      · rw [upd_upd, et, List.filter_append, List.filter_cons_of_pos hp, List.filter_nil, List.map_append]
        rfl
  · rintro H3 rfl
    rw [List.take_length]
    exact k D hD
theorem sum_take {α : Type} {fs : List (List α)} {j : Nat} {f : List α} (h : fs[j]? = some f) : (fs.take (j + 1)).flatten = (fs.take j).flatten ++ f := by
  rw [List.take_add_one, h]
  simp
theorem flat_le {α : Type} {fs : List (List α)} {j i : Nat} {f : List α} (h : fs[j]? = some f) : ((fs.take j).flatten ++ f.take i).length ≤ fs.flatten.length := by
  have e : fs.flatten = (fs.take (j + 1)).flatten ++ (fs.drop (j + 1)).flatten := by rw [← List.flatten_append, List.take_append_drop]
  rw [e, sum_take h, List.length_append, List.length_append, List.length_append, List.length_take]
  omega
theorem mem_flat {α : Type} {fs : List (List α)} {j i : Nat} {f : List α} {r : α} (h : fs[j]? = some f) (h2 : f[i]? = some r) : r ∈ fs.flatten := List.mem_flatten.mpr ⟨f, List.mem_of_getElem? h, List.mem_of_getElem? h2⟩
/-- [te for file in t for row in file] -/
theorem lc2F {tl : TE} {te : TE} {vs vs1 : List Nat} {σ : L2.St} {H : Hp} {Q : VK} {i j : Nat} {a : Addr} {fs : List (List (List V))} (f : List V → V) (hs : ∀ R : VK, R (.ref a) H → tl σ H R) (ha : FilesAt H (.ref a) fs) (hz : fs.flatten.length ≤ 1000)
    (hw : ∀ x : V, wipe ((wipe σ vs).set i (some x)) vs = wipe σ vs) (hi : ∀ x : V, ((wipe σ vs).set i (some x))[i]? = some (some x))
    (hw1 : ∀ x y : V, wipe ((wipe ((wipe σ vs).set i (some x)) vs1).set j (some y)) vs1 = wipe ((wipe σ vs).set i (some x)) vs1) (hj : ∀ x y : V, ((wipe ((wipe σ vs).set i (some x)) vs1).set j (some y))[j]? = some (some y))
    (turn : ∀ (σ3 : L2.St) (v : V) (r : List V) (H3 : Hp), σ3[j]? = some (some v) → r ∈ fs.flatten → TpV H3 v r → ∀ R : VK, R (f r) H3 → te σ3 H3 R)
    (k : ∀ D, H D = none → Q (.ref D) (upd H D (.lst (fs.flatten.map f)))) : tLc2 (iTup K tl) (gName i) tYes (iTup K (tVar i)) (gName j) tYes te vs vs1 σ H Q := by
  obtain ⟨ws, ⟨a', ea, ha⟩, hp⟩ := ha
  cases ea
  refine hs _ ⟨_, rfl, ⟨_, SqT.of ha⟩, fun D hD => ?_⟩
  refine ⟨fun n m H3 => m = ws.length - n ∧ n ≤ ws.length ∧ H3 = upd H D (.lst ((fs.take n).flatten.map f)), ⟨ws.length, rfl, Nat.zero_le _, rfl⟩, ?_⟩
  rintro n m H3 ⟨rfl, hn, rfl⟩
  have hK : Kp H (upd H D (.lst ((fs.take n).flatten.map f))) := fun b xs e => upd_get e hD
  by_cases hlt : n < ws.length
  · obtain ⟨x, hx⟩ : ∃ x, ws[n]? = some x := ⟨_, List.getElem?_eq_getElem hlt⟩
    refine .inr ⟨⟨ws, x, SqT.of (hK _ _ ha), hx⟩, fun H4 => H4 = upd H D (.lst ((fs.take (n + 1)).flatten.map f)), fun H4 e => ⟨ws.length - (n + 1), by omega, rfl, hlt, e⟩, ?_⟩
    rintro x' H' ⟨e, hall⟩
    subst e
    have e := hall _ (SqT.of (hK _ _ ha))
    rw [hx] at e
    cases e
    refine ⟨hw x, ?_⟩
    unfold tYes
    refine iteT ?_
    obtain ⟨rs, hrs, ys, ⟨b, rfl, hb⟩, hq⟩ := Paired.getL hp hx
    refine ⟨_, hi _, b, rfl, ⟨_, SqT.of (hK _ _ hb)⟩, ?_⟩
    refine ⟨fun q m H3 => m = ys.length - q ∧ q ≤ ys.length ∧ H3 = upd H D (.lst (((fs.take n).flatten ++ rs.take q).map f)), ⟨ys.length, rfl, Nat.zero_le _, by rw [List.take_zero, List.append_nil]⟩, ?_⟩
    rintro q m H3 ⟨rfl, hqn, rfl⟩
    have hK2 : Kp H (upd H D (.lst (((fs.take n).flatten ++ rs.take q).map f))) := fun b xs e => upd_get e hD
    have hl := paired_len hq
    by_cases hlt2 : q < ys.length
    · obtain ⟨y, hy⟩ : ∃ y, ys[q]? = some y := ⟨_, List.getElem?_eq_getElem hlt2⟩
      refine .inr ⟨⟨ys, y, SqT.of (hK2 _ _ hb), hy⟩, fun H4 => H4 = upd H D (.lst (((fs.take n).flatten ++ rs.take (q + 1)).map f)), fun H4 e => ⟨ys.length - (q + 1), by omega, rfl, hlt2, e⟩, ?_⟩
      rintro y' H' ⟨e, hall⟩
      subst e
      have e := hall _ (SqT.of (hK2 _ _ hb))
      rw [hy] at e
      cases e
      refine ⟨hw1 _ _, ?_⟩
      refine iteT ?_
      obtain ⟨r, hr0, hr1⟩ := Paired.getL hq hy
      refine turn _ y r _ (hj _ _) (mem_flat hrs hr0) (hK2.tp hr1) _ ⟨_, upd_same, ?_, ?_⟩
      · rw [List.length_map]
        exact small1000 (Nat.le_trans (flat_le hrs) hz)
      · dsimp only
        rw [upd_upd, List.take_add_one, hr0]
        simp
    · have eq : q = ys.length := by omega
      refine .inl ⟨⟨ys, SqT.of (hK2 _ _ hb), by omega⟩, ?_⟩
      dsimp only
      rw [sum_take hrs, eq, hl, List.take_length]
  · have en : n = ws.length := by omega
    refine .inl ⟨⟨ws, SqT.of (hK _ _ ha), by omega⟩, ?_⟩
    rw [en, paired_len hp, List.take_length]
    exact k D hD
/-- the keys of ns, each once, as they come -/
def keysOf (ns : List Int) : List (Key × V) := ns.foldl (fun kvs n => putK kvs (.inl n) (.bl true)) []
theorem keysOf_snoc (ns : List Int) (n : Int) : keysOf (ns ++ [n]) = putK (keysOf ns) (.inl n) (.bl true) := by
  unfold keysOf
  rw [List.foldl_append]
  rfl
theorem keysOf_len (ns : List Int) : (keysOf ns).length ≤ ns.length := by
  have h : ∀ (ns : List Int) (kvs : List (Key × V)), (ns.foldl (fun kvs n => putK kvs (.inl n) (.bl true)) kvs).length ≤ kvs.length + ns.length := by
    intro ns
    induction ns with
    | nil => exact fun _ => Nat.le_refl _
    | cons a l ih =>
      intro kvs
      have h1 := length_putK kvs (.inl a) (.bl true)
      have h2 := ih (putK kvs (.inl a) (.bl true))
      rw [List.foldl_cons, List.length_cons]
      omega
  have q := h ns []
  rw [List.length_nil, Nat.zero_add] at q
  exact q
/-- {te: True for file in t for row in file} -/
theorem dc2F {tl : TE} {te : TE} {vs vs1 : List Nat} {σ : L2.St} {H : Hp} {Q : VK} {i j : Nat} {a : Addr} {fs : List (List (List V))} (f : List V → Int) (hs : ∀ R : VK, R (.ref a) H → tl σ H R) (ha : FilesAt H (.ref a) fs) (hz : fs.flatten.length ≤ 1000)
    (hw : ∀ x : V, wipe ((wipe σ vs).set i (some x)) vs = wipe σ vs) (hi : ∀ x : V, ((wipe σ vs).set i (some x))[i]? = some (some x))
    (hw1 : ∀ x y : V, wipe ((wipe ((wipe σ vs).set i (some x)) vs1).set j (some y)) vs1 = wipe ((wipe σ vs).set i (some x)) vs1) (hj : ∀ x y : V, ((wipe ((wipe σ vs).set i (some x)) vs1).set j (some y))[j]? = some (some y))
    (turn : ∀ (σ3 : L2.St) (v : V) (r : List V) (H3 : Hp), σ3[j]? = some (some v) → r ∈ fs.flatten → TpV H3 v r → ∀ R : VK, R (.int (f r)) H3 → te σ3 H3 R)
    (k : ∀ D, H D = none → Q (.ref D) (upd H D (.dK (keysOf (fs.flatten.map f))))) : tDc2 (iTup K tl) (gName i) (iTup K (tVar i)) (gName j) te (tC (.bl true)) vs vs1 σ H Q := by
  obtain ⟨ws, ⟨a', ea, ha⟩, hp⟩ := ha
  cases ea
  refine hs _ ⟨_, rfl, ⟨_, SqT.of ha⟩, fun D hD => ?_⟩
  refine ⟨ws.length, fun n H3 => H3 = upd H D (.dK (keysOf ((fs.take n).flatten.map f))), rfl, ?_, ?_⟩
  · rintro n H3 hlt rfl
    have hK : Kp H (upd H D (.dK (keysOf ((fs.take n).flatten.map f)))) := fun b xs e => upd_get e hD
    obtain ⟨x, hx⟩ : ∃ x, ws[n]? = some x := ⟨_, List.getElem?_eq_getElem hlt⟩
    refine ⟨⟨ws, x, SqT.of (hK _ _ ha), hx⟩, ?_⟩
    rintro x' H' ⟨e, hall⟩
    subst e
    have e := hall _ (SqT.of (hK _ _ ha))
    rw [hx] at e
    cases e
    refine ⟨hw x, ?_⟩
    obtain ⟨rs, hrs, ys, ⟨b, rfl, hb⟩, hq⟩ := Paired.getL hp hx
    have hl := paired_len hq
    refine ⟨_, hi _, b, rfl, ⟨_, SqT.of (hK _ _ hb)⟩, ?_⟩
    refine ⟨ys.length, fun q H3 => H3 = upd H D (.dK (keysOf (((fs.take n).flatten ++ rs.take q).map f))), by dsimp only; rw [List.take_zero, List.append_nil], ?_, ?_⟩
    · rintro q H3 hlt2 rfl
      have hK2 : Kp H (upd H D (.dK (keysOf (((fs.take n).flatten ++ rs.take q).map f)))) := fun b xs e => upd_get e hD
      obtain ⟨y, hy⟩ : ∃ y, ys[q]? = some y := ⟨_, List.getElem?_eq_getElem hlt2⟩
      refine ⟨⟨ys, y, SqT.of (hK2 _ _ hb), hy⟩, ?_⟩
      rintro y' H' ⟨e, hall⟩
      subst e
      have e := hall _ (SqT.of (hK2 _ _ hb))
      rw [hy] at e
      cases e
      refine ⟨hw1 _ _, ?_⟩
      obtain ⟨r, hr0, hr1⟩ := Paired.getL hq hy
      refine turn _ y r _ (hj _ _) (mem_flat hrs hr0) (hK2.tp hr1) _ ⟨_, .inl (f r), rfl, upd_same, ?_, ?_⟩
      · refine Nat.lt_of_le_of_lt (keysOf_len _) ?_
        rw [List.length_map]
        exact small1000 (Nat.le_trans (flat_le hrs) hz)
      · dsimp only
        rw [upd_upd, List.take_add_one, hr0, ← keysOf_snoc]
        simp
    · rintro H3 rfl
      have hK2 : Kp H (upd H D (.dK (keysOf (((fs.take n).flatten ++ rs.take ys.length).map f)))) := fun b xs e => upd_get e hD
      refine ⟨⟨ys, SqT.of (hK2 _ _ hb), Nat.le_refl _⟩, ?_⟩
      dsimp only
      rw [sum_take hrs, hl, List.take_length]
  · rintro H3 rfl
    have hK : Kp H (upd H D (.dK (keysOf ((fs.take ws.length).flatten.map f)))) := fun b xs e => upd_get e hD
    refine ⟨⟨ws, SqT.of (hK _ _ ha), Nat.le_refl _⟩, ?_⟩
    rw [paired_len hp, List.take_length]
    exact k D hD
end
end K1
end
section
set_option Elab.async false
set_option linter.all false
set_option maxRecDepth 100000
set_option maxHeartbeats 2000000
namespace K1
open PySem PyProof.Rows L2
section
variable {X : Cx}
theorem piT (K : PySem.W.Frag) {l tg : Expr} {tl : TE} (hl : PE X l tl) (h : X.K = K := by rfl) : PI X tg l (iTup K tl) := h ▸ pi_tup hl
theorem piL (K : PySem.W.Frag) {l tg : Expr} {tl : TE} (hl : PE X l tl) (h : X.K = K := by rfl) : PI X tg l (iList K tl) := h ▸ pi_list hl
end
def rowOf (H : Hp) : V → List V
  | .ref a => match H a with
    | some (.tup r) => r
    | _ => []
  | _ => []
theorem rowOf_eq {H : Hp} {v : V} {r : List V} (h : TpV H v r) : rowOf H v = r := by
  obtain ⟨a, rfl, e⟩ := h
  show (match H a with
    | some (.tup r) => r
    | _ => []) = r
  rw [e]
theorem rows_map {α : Type} {H : Hp} (p : List V → Bool) (f : List V → α) : ∀ {vs : List V} {rs : List (List V)}, Paired (TpV H) vs rs → ((vs.filter fun x => p (rowOf H x)).map fun x => f (rowOf H x)) = (rs.filter p).map f
  | _, _, .nil => rfl
  | _, _, .cons h t => by
    have ih := rows_map p f t
    have e := rowOf_eq h
    rename_i v r vs rs
    cases hp : p r with
    | true => rw [List.filter_cons_of_pos (by rw [e]; exact hp), List.filter_cons_of_pos hp, List.map_cons, List.map_cons, ih, e]
    | false => rw [List.filter_cons_of_neg (by rw [e, hp]; exact Bool.false_ne_true), List.filter_cons_of_neg (by rw [hp]; exact Bool.false_ne_true), ih]
theorem rows_filter {H : Hp} (p : List V → Bool) : ∀ {vs : List V} {rs : List (List V)}, Paired (TpV H) vs rs → Paired (TpV H) (vs.filter fun x => p (rowOf H x)) (rs.filter p)
  | _, _, .nil => .nil
  | _, _, .cons h t => by
    have ih := rows_filter p t
    have e := rowOf_eq h
    rename_i v r vs rs
    cases hp : p r with
    | true =>
      rw [List.filter_cons_of_pos (by rw [e]; exact hp), List.filter_cons_of_pos hp]
      exact .cons h ih
    | false =>
      rw [List.filter_cons_of_neg (by rw [e, hp]; exact Bool.false_ne_true), List.filter_cons_of_neg (by rw [hp]; exact Bool.false_ne_true)]
      exact ih
section
variable {K : PySem.W.Frag}
/-- [f(row) for row in file if p(row)] -/
theorem lcR1 {tl : TE} {tt : TT} {te : TE} {vs : List Nat} {σ : L2.St} {H : Hp} {Q : VK} {i : Nat} {a : Addr} {rs : List (List V)} (p : List V → Bool) (f : List V → V) (hs : ∀ R : VK, R (.ref a) H → tl σ H R) (ha : FileAt H (.ref a) rs) (hz : rs.length ≤ 1000)
    (hw : ∀ x : V, wipe ((wipe σ vs).set i (some x)) vs = wipe σ vs)
    (turn : ∀ (b : Addr) (r : List V) (H3 : Hp), r ∈ rs → Same H H3 → H3 b = some (.tup r) → (∀ R : Bool → Hp → Prop, R (p r) H3 → tt ((wipe σ vs).set i (some (.ref b))) H3 R) ∧ (p r = true → ∀ R : VK, R (f r) H3 → te ((wipe σ vs).set i (some (.ref b))) H3 R))
    (k : ∀ D, H D = none → Q (.ref D) (upd H D (.lst ((rs.filter p).map f)))) : tLc (iTup K tl) (gName i) tt te vs σ H Q := by
  obtain ⟨ws, ⟨a', ea, ha⟩, hp⟩ := ha
  cases ea
  have hl := paired_len hp
  refine lcT (fun x => p (rowOf H x)) (fun x => f (rowOf H x)) hs ha (by omega) hw (fun j x H3 hx sm => ?_) fun D hD => ?_
  · obtain ⟨r, hr0, b, rfl, hb⟩ := Paired.getL hp hx
    rw [rowOf_eq ⟨b, rfl, hb⟩]
    exact turn b r H3 (List.mem_of_getElem? hr0) sm (sm _ _ hb)
  · rw [rows_map p f hp]
    exact k D hD
/-- [row for row in file if p(row)] -/
theorem lcR2 {tl : TE} {tt : TT} {te : TE} {vs : List Nat} {σ : L2.St} {H : Hp} {Q : VK} {i : Nat} {a : Addr} {rs : List (List V)} (p : List V → Bool) (hs : ∀ R : VK, R (.ref a) H → tl σ H R) (ha : FileAt H (.ref a) rs) (hz : rs.length ≤ 1000)
    (hw : ∀ x : V, wipe ((wipe σ vs).set i (some x)) vs = wipe σ vs)
    (turn : ∀ (b : Addr) (r : List V) (H3 : Hp), r ∈ rs → Same H H3 → H3 b = some (.tup r) → (∀ R : Bool → Hp → Prop, R (p r) H3 → tt ((wipe σ vs).set i (some (.ref b))) H3 R) ∧ (p r = true → ∀ R : VK, R (.ref b) H3 → te ((wipe σ vs).set i (some (.ref b))) H3 R))
    (k : ∀ D xs, H D = none → Paired (TpV H) xs (rs.filter p) → Q (.ref D) (upd H D (.lst xs))) : tLc (iTup K tl) (gName i) tt te vs σ H Q := by
  obtain ⟨ws, ⟨a', ea, ha⟩, hp⟩ := ha
  cases ea
  have hl := paired_len hp
  refine lcT (fun x => p (rowOf H x)) (fun x => x) hs ha (by omega) hw (fun j x H3 hx sm => ?_) fun D hD => ?_
  · obtain ⟨r, hr0, b, rfl, hb⟩ := Paired.getL hp hx
    rw [rowOf_eq ⟨b, rfl, hb⟩]
    exact turn b r H3 (List.mem_of_getElem? hr0) sm (sm _ _ hb)
  · rw [List.map_id']
    exact k D _ hD (rows_filter p hp)
end
theorem filter_all {α : Type} (l : List α) : l.filter (fun _ => true) = l := List.filter_eq_self.mpr fun _ _ => rfl
section
variable {P : Program} {w : World} {K : PySem.W.Frag} {mg : Str → Option Value} {base : Heap}
theorem b_max : bootBuiltins "max" = some (.builtin "max") := by decide +kernel
theorem b_sorted : bootBuiltins "sorted" = some (.builtin "sorted") := by decide +kernel
def numsOf (e : Ev) : List Int := e.files.flatten.map hdI ++ e.finds.map hdI
/-- rows that begin with their numbers, not too many -/
structure EvOk (e : Ev) : Prop where
  rows : ∀ r ∈ e.files.flatten, IsRow r
  finds : ∀ r ∈ e.finds, IsRow r
  many : e.files.flatten.length ≤ 400
  manyF : e.finds.length ≤ 400
def IsMax0 (m : Int) (ns : List Int) : Prop := (ns = [] ∧ m = 0) ∨ (m ∈ ns ∧ ∀ y ∈ ns, y ≤ m)
def spLast : Sp := fun vs H Q _ => ∃ (v : V) (e : Ev), vs = [v] ∧ EvAt H v e ∧ EvOk e ∧ ∀ H' m, Same H H' → IsMax0 m (numsOf e) → Q (.int m) H'
theorem scLast : FnScope ["evidence", "numbers", "file", "entry", "find"] ["evidence"] (defScope sLastNumber) := ⟨rfl, rfl, rfl, by decide +kernel, rfl, by decide +kernel, by decide +kernel⟩
theorem ok_last {f : Addr} {fd : FuncData} (D : DefAt K mg "last_number" sLastNumber ["evidence"] f fd) (B : Blt mg) : FnOk P w K mg base CX0 1 f fd ["evidence"] spLast := by
  refine D.F.ok scLast (fun vs H Q E h => ?_) (fun cdv A outer s H vs Q E hr h => ?_)
  · obtain ⟨v, e, rfl, _⟩ := h
    rfl
  · obtain ⟨v, e, rfl, ⟨p, fl, g, ⟨x, rfl, hx⟩, hp, hf, hg⟩, ok, q⟩ := h
    have nd := scLast.nd
    refine ⟨_, pss_cons (ps_set (i := 1) nd rfl (Or.inl rfl) (pe_op op_cat
        (pe_lc2 (own := [("file", 2), ("entry", 3)]) (vs1 := [3]) rfl nd (piT K (pe_ix (ixT K) (pv 0) pe_int (fun _ _ => rfl))) (blkOk_by (N := ["evidence", "numbers", "file", "entry", "find"]) (sc := defScope sLastNumber) (by decide +kernel)) (by decide)
          (fun _ _ _ _ _ => pg_name (i := 2) nd rfl (Or.inl rfl)) (fun _ _ _ _ _ => pts_nil) (fun _ _ _ _ _ => piT K (pv 2)) (fun _ _ _ _ _ => pg_name (i := 3) nd rfl (Or.inl rfl)) (fun _ _ _ _ _ => pts_nil) (fun _ _ _ _ _ => pe_ix (ixT K) (pv 3) pe_int (fun _ _ => rfl)))
        (pe_lc (own := [("find", 4)]) rfl nd (piT K (pe_ix (ixT K) (pv 0) pe_int (fun _ _ => rfl))) (blkOk_by (N := ["evidence", "numbers", "file", "entry", "find"]) (sc := defScope sLastNumber) (by decide +kernel))
          (fun _ _ _ _ _ => pg_name (i := 4) nd rfl (Or.inl rfl)) (fun _ _ _ _ _ => pts_nil) (fun _ _ _ _ _ => pe_ix (ixT K) (pv 4) pe_int (fun _ _ => rfl)))))
      (pss_one (ps_ret (pe_callBK (cr_maxD hr) (by rfl) B.max b_max (pa_cons (pv 1) pa_nil) (pk_cons pe_int pk_nil)))), ?_⟩
    obtain ⟨a, rfl⟩ : ∃ a, fl = .ref a := by
      obtain ⟨ws, ⟨a, e, _⟩, _⟩ := id hf
      exact ⟨a, e⟩
    obtain ⟨b, rfl⟩ : ∃ a, g = .ref a := by
      obtain ⟨ws, ⟨a, e, _⟩, _⟩ := id hg
      exact ⟨a, e⟩
    unfold tSeq tAsg tOp
    dsimp only
    refine lc2F (fun r => V.int (hdI r)) (fun R h => ⟨_, rfl, _, _, _, _, rfl, rfl, SqT.of hx, rfl, h⟩) hf (Nat.le_trans ok.many (by decide)) (fun x => by rfl) (fun x => by rfl) (fun x y => by rfl) (fun x y => by rfl) (fun σ3 v r H3 h1 h2 h3 R hR => ?_) fun D hD => ?_
    · obtain ⟨c, rfl, hc⟩ := h3
      obtain ⟨t, et⟩ := ok.rows r h2
      rw [et] at hc
      exact ⟨_, h1, c, _, 0, _, rfl, rfl, SqT.of hc, atI_nat (j := 0) rfl, hR⟩
    · have sm1 : Same H (upd H D (.lst (e.files.flatten.map fun r => V.int (hdI r)))) := fun c o z => upd_get z hD
      refine lcR1 (fun _ => true) (fun r => V.int (hdI r)) (fun R h => ⟨_, rfl, _, _, _, _, rfl, rfl, SqT.of (sm1 _ _ hx), rfl, h⟩) ((Kt.same sm1).kp.file hg) (Nat.le_trans ok.manyF (by decide)) (fun x => by rfl) (fun c r H3 hr sm3 hc => ⟨fun R h => h, fun _ R hR => ?_⟩) fun D2 hD2 => ?_
      · obtain ⟨t, et⟩ := ok.finds r hr
        rw [et] at hc
        exact ⟨_, rfl, c, _, 0, _, rfl, rfl, SqT.of hc, atI_nat (j := 0) rfl, hR⟩
      · rw [filter_all]
        refine ⟨_, _, _, _, rfl, rfl, upd_get upd_same hD2, upd_same, ?_, fun L hL => ?_⟩
        · have h1 := ok.many
          have h2 := ok.manyF
          rw [List.length_map, List.length_map]
          exact Nat.le_of_lt (small1000 (by omega))
        · refine ⟨_, rfl, L, numsOf e, 0, rfl, rfl, SqL.of ?_, fun m hm => q _ m (fun c o z => upd_get (upd_get (sm1 c o z) hD2) hL) hm⟩
          rw [upd_same]
          unfold numsOf
          rw [List.map_append, List.map_map, List.map_map]
          rfl
def spEntryNums : Sp := fun vs H Q _ => ∃ (v : V) (fs : List (List (List V))), vs = [v] ∧ FilesAt H v fs ∧ (∀ r ∈ fs.flatten, IsRow r) ∧ fs.flatten.length ≤ 1000 ∧ ∀ D, H D = none → Q (.ref D) (upd H D (.dK (keysOf (fs.flatten.map hdI))))
theorem scEntryNums : FnScope ["files", "file", "entry"] ["files"] (defScope sEntryNumbers) := ⟨rfl, rfl, rfl, by decide +kernel, rfl, by decide +kernel, by decide +kernel⟩
theorem ok_entryNums {f : Addr} {fd : FuncData} (D : DefAt K mg "entry_numbers" sEntryNumbers ["files"] f fd) : FnOk P w K mg base CX0 1 f fd ["files"] spEntryNums := by
  refine D.F.ok scEntryNums (fun vs H Q E h => ?_) (fun cdv A outer s H vs Q E hr h => ?_)
  · obtain ⟨v, fs, rfl, _⟩ := h
    rfl
  · obtain ⟨v, fs, rfl, hf, hrow, hz, q⟩ := h
    have nd := scEntryNums.nd
    refine ⟨_, pss_one (ps_ret (pe_dc2 (own := [("file", 1), ("entry", 2)]) (vs1 := [2]) rfl nd (piT K (pv 0)) (blkOk_by (N := ["files", "file", "entry"]) (sc := defScope sEntryNumbers) (by decide +kernel)) (by decide)
      (fun _ _ _ _ _ => pg_name (i := 1) nd rfl (Or.inl rfl)) (fun _ _ _ _ _ => piT K (pv 1)) (fun _ _ _ _ _ => pg_name (i := 2) nd rfl (Or.inl rfl)) (fun _ _ _ _ _ => pe_ix (ixT K) (pv 2) pe_int (fun _ _ => rfl)) (fun _ _ _ _ _ => pe_bl))), ?_⟩
    obtain ⟨a, rfl⟩ : ∃ a, v = .ref a := by
      obtain ⟨ws, ⟨a, e, _⟩, _⟩ := id hf
      exact ⟨a, e⟩
    unfold tRet
    refine dc2F hdI (fun R h => ⟨_, rfl, h⟩) hf hz (fun x => by rfl) (fun x => by rfl) (fun x y => by rfl) (fun x y => by rfl) (fun σ3 v r H3 h1 h2 h3 R hR => ?_) q
    obtain ⟨b, rfl, hb⟩ := h3
    obtain ⟨t, et⟩ := hrow r h2
    rw [et] at hb
    exact ⟨_, h1, b, _, 0, _, rfl, rfl, SqT.of hb, atI_nat (j := 0) rfl, hR⟩
def IsAsc (l ns : List Int) : Prop := l.Pairwise (· < ·) ∧ ∀ x, x ∈ l ↔ x ∈ ns
def spAllNums : Sp := fun vs H Q _ => ∃ (v : V) (e : Ev), vs = [v] ∧ EvAt H v e ∧ EvOk e ∧ ∀ H' l ms, Same H H' → H l = none → H' l = some (.lst (ms.map V.int)) → IsAsc ms (numsOf e) → Q (.ref l) H'
theorem scAllNums : FnScope ["evidence", "known", "find"] ["evidence"] (defScope sAllNumbers) := ⟨rfl, rfl, rfl, by decide +kernel, rfl, by decide +kernel, by decide +kernel⟩
theorem keys_old {kvs : List (Key × V)} {k : Key} (v : V) (h : k ∈ kvs.map (·.1)) : (putK kvs k v).map (·.1) = kvs.map (·.1) := by
  unfold putK
  have e : (kvs.any fun kv => decide (kv.1 = k)) = true := by
    obtain ⟨p, hp, rfl⟩ := List.mem_map.mp h
    exact List.any_eq_true.mpr ⟨p, hp, decide_eq_true rfl⟩
  rw [if_pos e, List.map_map]
  apply List.map_congr_left
  intro p _
  show (if p.1 = k then (p.1, v) else p).1 = p.1
  split <;> rfl
theorem keys_new {kvs : List (Key × V)} {k : Key} (v : V) (h : ¬ k ∈ kvs.map (·.1)) : (putK kvs k v).map (·.1) = kvs.map (·.1) ++ [k] := by
  unfold putK
  have e : (kvs.any fun kv => decide (kv.1 = k)) = false := by
    rw [Bool.eq_false_iff]
    intro z
    obtain ⟨p, hp, hk⟩ := List.any_eq_true.mp z
    exact h (List.mem_map.mpr ⟨p, hp, of_decide_eq_true hk⟩)
  rw [if_neg (by rw [e]; exact Bool.false_ne_true), List.map_append]
  rfl
def dk (l : List Int) (n : Int) : List Int := if n ∈ l then l else l ++ [n]
/-- each once, as they come -/
def firsts (ns : List Int) : List Int := ns.foldl dk []
theorem keysOf_keys (ns : List Int) : (keysOf ns).map (·.1) = (firsts ns).map Sum.inl := by
  have h : ∀ (ns : List Int) (kvs : List (Key × V)) (l : List Int), kvs.map (·.1) = l.map Sum.inl → (ns.foldl (fun kvs n => putK kvs (.inl n) (.bl true)) kvs).map (·.1) = (ns.foldl dk l).map Sum.inl := by
    intro ns
    induction ns with
    | nil => exact fun _ _ e => e
    | cons a r ih =>
      intro kvs l e
      refine ih _ _ ?_
      unfold dk
      by_cases m : a ∈ l
      · rw [if_pos m, keys_old _ (by rw [e]; exact List.mem_map.mpr ⟨a, m, rfl⟩), e]
      · rw [if_neg m, keys_new _ (fun z => by
          rw [e] at z
          obtain ⟨b, hb, eb⟩ := List.mem_map.mp z
          cases eb
          exact m hb), e, List.map_append]
        rfl
  exact h ns [] [] rfl
theorem firsts_mem (ns : List Int) (x : Int) : x ∈ firsts ns ↔ x ∈ ns := by
  have h : ∀ (ns l : List Int), x ∈ ns.foldl dk l ↔ x ∈ l ∨ x ∈ ns := by
    intro ns
    induction ns with
    | nil => exact fun l => ⟨Or.inl, fun z => z.elim id (fun y => absurd y (by simp))⟩
    | cons a r ih =>
      intro l
      rw [List.foldl_cons, ih]
      unfold dk
      by_cases m : a ∈ l
      · rw [if_pos m, List.mem_cons]
        constructor
        · rintro (z | z)
          · exact .inl z
          · exact .inr (.inr z)
        · rintro (z | rfl | z)
          · exact .inl z
          · exact .inl m
          · exact .inr z
      · rw [if_neg m, List.mem_append, List.mem_singleton, List.mem_cons]
        exact or_assoc
  rw [firsts, h]
  exact ⟨fun z => z.elim (fun y => absurd y (by simp)) id, Or.inr⟩
theorem firsts_nodup (ns : List Int) : (firsts ns).Nodup := by
  have h : ∀ (ns l : List Int), l.Nodup → (ns.foldl dk l).Nodup := by
    intro ns
    induction ns with
    | nil => exact fun _ z => z
    | cons a r ih =>
      intro l n
      refine ih _ ?_
      unfold dk
      by_cases m : a ∈ l
      · rw [if_pos m]; exact n
      · rw [if_neg m]
        rw [List.nodup_append]
        refine ⟨n, by simp, fun x hx y hy e => ?_⟩
        rw [List.mem_singleton] at hy
        exact m (by rw [← hy, ← e]; exact hx)
  exact h ns [] List.nodup_nil
theorem asc_of {ys ks : List Int} (hp : ys.Perm ks) (hs : ys.Pairwise (· ≤ ·)) (hn : ks.Nodup) : ys.Pairwise (· < ·) := by
  have hn' : ys.Nodup := hp.nodup_iff.mpr hn
  refine (hs.and hn').imp fun {a b} h => ?_
  obtain ⟨h1, h2⟩ := h
  omega
theorem ok_allNums {f fE : Addr} {fd fdE : FuncData} (D : DefAt K mg "all_numbers" sAllNumbers ["evidence"] f fd) (B : Blt mg) (DE : DefAt K mg "entry_numbers" sEntryNumbers ["files"] fE fdE) : FnOk P w K mg base CX0 2 f fd ["evidence"] spAllNums := by
  have GE : FnOk P w K mg base CX0 1 fE fdE ["files"] spEntryNums := ok_entryNums DE
  refine D.F.ok scAllNums (fun vs H Q E h => ?_) (fun cdv A outer s H vs Q E hr h => ?_)
  · obtain ⟨v, e, rfl, _⟩ := h
    rfl
  · obtain ⟨v, e, rfl, ⟨p, fl, g, ⟨x, rfl, hx⟩, hp, hf, hg⟩, ok, q⟩ := h
    have nd := scAllNums.nd
    have hu := hu_of hr
    refine ⟨_, pss_cons (ps_set (i := 1) nd rfl (Or.inl rfl) (pe_call GE hr (by rfl) DE.g DE.k DE.b .nil pass0 (pa_cons (pe_ix (ixT K) (pv 0) pe_int (fun _ _ => rfl)) pa_nil)))
      (pss_cons (ps_for PassesOwn.never rfl (piT K (pe_ix (ixT K) (pv 0) pe_int (fun _ _ => rfl))) (pg_name (i := 2) nd rfl (Or.inl rfl)) (pss_one (ps_dput hu (pv 1) (pe_ix (ixT K) (pv 2) pe_int (fun _ _ => rfl)) pe_bl rfl)))
      (pss_one (ps_ret (pe_callB (cr_sortedDict rfl) (by rfl) B.sorted b_sorted (pa_cons (pv 1) pa_nil))))), ?_⟩
    obtain ⟨a, rfl⟩ : ∃ a, fl = .ref a := by
      obtain ⟨ws, ⟨a, e, _⟩, _⟩ := id hf
      exact ⟨a, e⟩
    refine ⟨_, rfl, _, _, _, _, rfl, rfl, SqT.of hx, rfl, _, _, rfl, hf, ok.rows, Nat.le_trans ok.many (by decide), fun D hD => ?_⟩
    have sm1 : Same H (upd H D (.dK (keysOf (e.files.flatten.map hdI)))) := fun c o z => upd_get z hD
    obtain ⟨ws, ⟨b, rfl, hb⟩, hq⟩ := hg
    have hl := paired_len hq
    refine ⟨_, rfl, _, _, _, _, rfl, rfl, SqT.of (sm1 _ _ hx), rfl, _, rfl, ⟨_, SqT.of (sm1 _ _ hb)⟩, ?_⟩
    refine for_tup (xs := ws) (fun i σ H3 => ∃ y, σ = [some (.ref x), some (.ref D), y] ∧ H3 = upd H D (.dK (keysOf (e.files.flatten.map hdI ++ (e.finds.take i).map hdI)))) ⟨none, rfl, by rw [List.take_zero, List.map_nil, List.append_nil]⟩ ?_ ?_ ?_
    · rintro i σ H3 _ ⟨y, rfl, rfl⟩
      exact SqT.of (upd_get hb hD)
    · rintro i z σ H3 hz ⟨y, rfl, rfl⟩
      obtain ⟨r, hr0, c, rfl, hc⟩ := Paired.getL hq hz
      obtain ⟨t, et⟩ := ok.finds r (List.mem_of_getElem? hr0)
      have hc' := hc
      rw [et] at hc'
      refine ⟨_, rfl, _, rfl, c, _, 0, _, rfl, rfl, SqT.of (upd_get hc' hD), atI_nat (j := 0) rfl, _, _, rfl, DPut.k (k := Sum.inl (hdI r)) upd_same ?_, _, rfl, ?_⟩
      · refine Nat.lt_of_le_of_lt (keysOf_len _) (small1000 ?_)
        have h1 := ok.many
        have h2 := ok.manyF
        rw [List.length_append, List.length_map, List.length_map, List.length_take]
        omega
      · rw [upd_upd, ← keysOf_snoc, List.take_add_one, hr0]
        simp
    · rintro σ H3 ⟨y, rfl, rfl⟩
      rw [hl, List.take_length]
      refine ⟨_, rfl, D, _, firsts (numsOf e), rfl, .inl upd_same, keysOf_keys _, fun ys l hy hs hl' => ?_⟩
      refine q _ l ys (fun c o z => upd_get (upd_get z hD) hl') ?_ upd_same ⟨asc_of hy hs (firsts_nodup _), fun z => (hy.mem_iff).trans (firsts_mem _ _)⟩
      unfold upd at hl'
      split at hl'
      · cases hl'
      · exact hl'
end
end K1
end
section
set_option Elab.async false
set_option linter.all false
set_option maxRecDepth 100000
set_option maxHeartbeats 2000000
namespace K1
open PySem PyProof.Rows L2
section
variable {P : Program} {w : World} {K : PySem.W.Frag} {mg : Str → Option Value} {base : Heap}
def spFinds (T T2 : Addr) : Sp := fun vs H Q _ => ∃ (v : V) (k p : Int) (rs : List (List V)), vs = [v, .int k, .int p] ∧ FileAt H v rs ∧ rs.length ≤ 200 ∧ (∀ r ∈ rs, okFind k p r) ∧ Asc rs ∧ GxR.TabG H T ∧ GxR.TabG H T2 ∧ ∀ H', Kt H H' → Q (.bl true) H'
theorem scFinds : FnScope ["thing", "kinds", "parties", "find"] ["thing", "kinds", "parties"] (defScope sAreFinds) := ⟨rfl, rfl, rfl, by decide +kernel, rfl, by decide +kernel, by decide +kernel⟩
theorem ok_finds {f fE fA c T T2 : Addr} {fd fdE fdA : FuncData} (D : DefC K mg "are_finds" sAreFinds ["thing", "kinds", "parties"] f fd c) (B : Blt mg) {pa ca : Addr} (C : Cst K mg pa ca) (TB : GxR.TabB base mg c T)
    (DE : DefAt K mg "is_find" sIsFind ["thing", "kinds", "parties"] fE fdE) (GE : FnOk P w K mg base CX0 2 fE fdE ["thing", "kinds", "parties"] spFind)
    {cA : Addr} (DA : DefC K mg "ascend" sAscend ["rows"] fA fdA cA) (GA : FnOk P w K mg base CX0 2 fA fdA ["rows"] (spAscend T2)) : FnOk P w K mg base CX0 4 f fd ["thing", "kinds", "parties"] (spFinds T T2) := by
  obtain ⟨tr, cR⟩ := C.rows
  refine D.F.ok scFinds (fun vs H Q E h => ?_) (fun A outer s H vs Q E hr h => ?_)
  · obtain ⟨v, k, p, rs, rfl, _⟩ := h
    rfl
  · obtain ⟨v, k, p, rs, rfl, ⟨vs, ⟨x, rfl, hx⟩, hp⟩, hl, hok, hasc, hT, hT2, q⟩ := h
    have hu := hu_of hr
    have nd := scFinds.nd
    have hr2 := hr.mono (show 2 ≤ 3 by decide)
    refine ⟨_, (pss_cons (ps_if (PW.pt (pw_or (pt_not (pt_val (pe_isa B (by rfl) (by rfl) B.tup b_tuple (pv 0)))) (pw_or1 (pt_cmpR op_gt (pe_callB call_len_seq (by rfl) B.len b_len (pa_cons (pv 0) pa_nil)) (pe_glob (v := .int 200) rfl cR ⟨_, rfl⟩) (nomark _))))) (pss_one (ps_ret pe_bl)) pss_nil)
      (pss_one (ps_ret (pe_and (pe_allB (k := 2) (own := [("find", 3)]) rfl hr (by rfl) B.all TB rfl nd (piT K (pv 0)) (blkOk_by (N := ["thing", "kinds", "parties", "find"]) (sc := defScope sAreFinds) (by decide +kernel)) (fun _ _ _ _ _ _ => pg_name (i := 3) nd rfl (Or.inl rfl)) (fun _ _ _ _ _ _ hrg => pe_call GE hrg (by rfl) DE.g DE.k DE.b .nil pass0 (pa_cons (pv 3) (pa_cons (pv 1) (pa_cons (pv 2) pa_nil))))) (pe_one (pe_call GA hr2 (by rfl) DA.g DA.F.kp DA.b .nil pass0 (pa_cons (pv 0) pa_nil))))))), ?_⟩
    have hlen : (vs.length : Int) ≤ 200 := by
      have := paired_len hp
      omega
    (repeat (first | refine ⟨_, _, rfl, .inr (SqT.of upd_same), rfl, rfl, ?_⟩ |  refine ⟨_, _, _, _, rfl, rfl, SqT.of (by assumption), rfl, ?_⟩ | refine ⟨_, _, _, rfl, .int _, ?_⟩ | refine ⟨_, _, _, rfl, .bl _, ?_⟩ | refine ⟨_, _, _, rfl, .str _, ?_⟩ | refine ⟨_, _, _, rfl, .tup (by assumption), ?_⟩ | refine ⟨_, _, rfl, .inr (SqT.of (by assumption)), ?_⟩ | refine ⟨_, _, rfl, rfl, _, rfl, ?_⟩ | refine ⟨_, _, _, rfl, (by first | assumption | omega), (by first | assumption | omega), ?_⟩ | refine ⟨_, rfl, ?_⟩ | refine ⟨_, _, rfl, rfl, ?_⟩ | refine ⟨rfl, ?_⟩ | refine iteT ?_ | refine iteF ?_))
    refine iteN (decide_eq_false (by omega)) ?_
    unfold tNext tRet tAndV
    dsimp only
    refine gen_tup rfl hx hT (fun j y H3 hy k3 => ⟨by rfl, ?_⟩) fun H3 k3 => ?_
    · obtain ⟨r, hr0, hr1⟩ := Paired.getL hp hy
      exact ⟨_, rfl, _, rfl, _, rfl, y, k, p, r, rfl, k3.kp.tp hr1, hok r (List.mem_of_getElem? hr0), rfl, k3⟩
    · refine ⟨true, rfl, ?_⟩
      refine iteT ?_
      exact ⟨_, rfl, _, rs, rfl, k3.kp.file ⟨vs, ⟨x, rfl, hx⟩, hp⟩, fun r hr => (hok r hr).row, hasc, k3.tab _ hT2, fun H4 k4 => q H4 (k3.trans k4)⟩
def spParties (T : Addr) : Sp := fun vs H Q _ => ∃ (v : V) (rs : List (List V)), vs = [v] ∧ FileAt H v rs ∧ 1 ≤ rs.length ∧ rs.length ≤ 8 ∧ (∀ r ∈ rs, ∃ a b : Bool, r = [.bl a, .bl b]) ∧ GxR.TabG H T ∧ ∀ H', Kt H H' → Q (.bl true) H'
theorem scParties : FnScope ["thing", "party"] ["thing"] (defScope sIsParties) := ⟨rfl, rfl, rfl, by decide +kernel, rfl, by decide +kernel, by decide +kernel⟩
theorem ok_parties {f fE c T : Addr} {fd fdE : FuncData} (D : DefC K mg "is_parties" sIsParties ["thing"] f fd c) (B : Blt mg) {pa ca : Addr} (C : Cst K mg pa ca) (TB : GxR.TabB base mg c T)
    (DE : DefAt K mg "is_party" sIsParty ["thing"] fE fdE) (GE : FnOk P w K mg base CX0 2 fE fdE ["thing"] spParty) : FnOk P w K mg base CX0 4 f fd ["thing"] (spParties T) := by
  obtain ⟨tp, cP⟩ := C.parties
  refine D.F.ok scParties (fun vs H Q E h => ?_) (fun A outer s H vs Q E hr h => ?_)
  · obtain ⟨v, rs, rfl, _⟩ := h
    rfl
  · obtain ⟨v, rs, rfl, ⟨vs, ⟨x, rfl, hx⟩, hp⟩, h1, h8, hok, hT, q⟩ := h
    have hu := hu_of hr
    have nd := scParties.nd
    refine ⟨_, (pss_one (ps_ret (pe_and (pe_isa B (by rfl) (by rfl) B.tup b_tuple (pv 0)) (pe_and (pe_chain op_le op_le pe_int (pe_callB call_len_seq (by rfl) B.len b_len (pa_cons (pv 0) pa_nil)) (pe_glob (v := .int 8) rfl cP ⟨_, rfl⟩)) (pe_one (pe_allB (k := 2) (own := [("party", 1)]) rfl hr (by rfl) B.all TB rfl nd (piT K (pv 0)) (blkOk_by (N := ["thing", "party"]) (sc := defScope sIsParties) (by decide +kernel)) (fun _ _ _ _ _ _ => pg_name (i := 1) nd rfl (Or.inl rfl)) (fun _ _ _ _ _ _ hrg => pe_call GE hrg (by rfl) DE.g DE.k DE.b .nil pass0 (pa_cons (pv 1) pa_nil)))))))), ?_⟩
    have hlen : vs.length = rs.length := paired_len hp
    (repeat (first | refine ⟨_, _, rfl, .inr (SqT.of upd_same), rfl, rfl, ?_⟩ |  refine ⟨_, _, _, _, rfl, rfl, SqT.of (by assumption), rfl, ?_⟩ | refine ⟨_, _, _, rfl, .int _, ?_⟩ | refine ⟨_, _, _, rfl, .bl _, ?_⟩ | refine ⟨_, _, _, rfl, .str _, ?_⟩ | refine ⟨_, _, _, rfl, .tup (by assumption), ?_⟩ | refine ⟨_, _, rfl, .inr (SqT.of (by assumption)), ?_⟩ | refine ⟨_, _, rfl, rfl, _, rfl, ?_⟩ | refine ⟨_, _, _, rfl, (by first | assumption | omega), (by first | assumption | omega), ?_⟩ | refine ⟨_, rfl, ?_⟩ | refine ⟨_, _, rfl, rfl, ?_⟩ | refine ⟨rfl, ?_⟩ | refine iteT ?_ | refine iteF ?_))
    refine iteY (decide_eq_true (by omega)) ?_
    (repeat (first | refine ⟨_, _, rfl, .inr (SqT.of upd_same), rfl, rfl, ?_⟩ |  refine ⟨_, _, _, _, rfl, rfl, SqT.of (by assumption), rfl, ?_⟩ | refine ⟨_, _, _, rfl, .int _, ?_⟩ | refine ⟨_, _, _, rfl, .bl _, ?_⟩ | refine ⟨_, _, _, rfl, .str _, ?_⟩ | refine ⟨_, _, _, rfl, .tup (by assumption), ?_⟩ | refine ⟨_, _, rfl, .inr (SqT.of (by assumption)), ?_⟩ | refine ⟨_, _, rfl, rfl, _, rfl, ?_⟩ | refine ⟨_, _, _, rfl, (by first | assumption | omega), (by first | assumption | omega), ?_⟩ | refine ⟨_, rfl, ?_⟩ | refine ⟨_, _, rfl, rfl, ?_⟩ | refine ⟨rfl, ?_⟩ | refine iteT ?_ | refine iteF ?_))
    refine iteY (decide_eq_true (by omega)) ?_
    refine gen_tup rfl hx hT (fun j y H3 hy k3 => ⟨by rfl, ?_⟩) fun H3 k3 => q H3 k3
    obtain ⟨r, hr0, hr1⟩ := Paired.getL hp hy
    obtain ⟨b1, b2, er⟩ := hok r (List.mem_of_getElem? hr0)
    rw [er] at hr1
    exact ⟨_, rfl, y, b1, b2, rfl, k3.kp.tp hr1, rfl, k3⟩
end
end K1
end
section
set_option Elab.async false
set_option linter.all false
set_option maxRecDepth 100000
set_option maxHeartbeats 2000000
namespace K1
open PySem PyProof.Rows L2
section
/-- a walk of enumerate(t) in all(..) -/
theorem gen_enumT {K : PySem.W.Frag} {te : TE} {T : Addr} {b : Bool} {vs : List Nat} {σ : L2.St} {H : Hp} {Q : VK} {s i j : Nat} {a : Addr} {xs : List V} (hs : σ[s]? = some (some (.ref a))) (ha : H a = some (.tup xs)) (hT : GxR.TabG H T)
    (turn : ∀ (n : Nat) (x : V) (H3 : Hp), xs[n]? = some x → Kt H H3 → wipe (((wipe σ vs).set i (some (.int n))).set j (some x)) vs = wipe σ vs ∧ te (((wipe σ vs).set i (some (.int n))).set j (some x)) H3 fun y H4 => y = .bl b ∧ Kt H H4)
    (k : ∀ H', Kt H H' → Q (.bl b) H') : tGenB (iEnumT K (tCons (tVar s) tNil)) (gTup K 2 (gCons (gName i) (gCons (gName j) gNil))) te T b vs σ H Q := by
  refine ⟨_, hs, a, xs, rfl, SqT.of ha, hT, fun H2 g => ⟨xs.length, fun _ H3 => Kt H H3, Kt.grown hT g, fun n H3 hn k3 => ?_, fun H3 k3 => ⟨⟨xs, SqT.of (k3.kp _ _ ha), rfl⟩, k H3 k3⟩⟩⟩
  obtain ⟨x, hx⟩ : ∃ x, xs[n]? = some x := ⟨_, List.getElem?_eq_getElem hn⟩
  refine ⟨⟨xs, x, SqT.of (k3.kp _ _ ha), hx⟩, ?_⟩
  rintro v H' ⟨Z, x', rfl, hZ, rfl, hall⟩
  have e := hall _ (SqT.of (k3.kp _ _ ha))
  rw [hx] at e
  cases e
  have s3 : Same H3 (upd H3 Z (.tup [.int (n : Nat), x])) := fun c o z => upd_get z hZ
  obtain ⟨t1, t2⟩ := turn n x _ hx (k3.trans (Kt.same s3))
  exact ⟨_, _, rfl, SqT.of upd_same, rfl, _, _, rfl, _, _, rfl, rfl, t1, t2⟩
end
theorem keysOf_has (ns : List Int) (n : Int) : (valV (keysOf ns) (.inl n)).isSome = decide (n ∈ ns) := by
  have e : n ∈ ns ↔ (Sum.inl n : Key) ∈ (keysOf ns).map (·.1) := by
    rw [keysOf_keys, List.mem_map]
    constructor
    · intro h
      exact ⟨n, (firsts_mem _ _).mpr h, rfl⟩
    · rintro ⟨m, h, em⟩
      cases em
      exact (firsts_mem _ _).mp h
  cases h : valV (keysOf ns) (.inl n) with
  | some v =>
    rw [decide_eq_true (e.mpr (valV_in h))]
    rfl
  | none =>
    rw [decide_eq_false (fun z => valV_not h (e.mp z))]
    rfl
section
variable {P : Program} {w : World} {K : PySem.W.Frag} {mg : Str → Option Value} {base : Heap}
structure EvGood (e : Ev) : Prop where
  k1 : 1 ≤ e.kinds
  k3 : e.kinds ≤ 3
  p1 : 1 ≤ e.parties.length
  p8 : e.parties.length ≤ 8
  par : ∀ r ∈ e.parties, ∃ a b : Bool, r = [.bl a, .bl b]
  len : e.files.length = e.parties.length
  fl : ∀ (i : Nat) (rs : List (List V)), e.files[i]? = some rs → rs.length ≤ 200 ∧ (∀ r ∈ rs, okEntry e.kinds e.parties.length i r) ∧ Asc rs
  gl : e.finds.length ≤ 200
  gr : ∀ r ∈ e.finds, okFind e.kinds e.parties.length r
  ga : Asc e.finds
  apart : ∀ r ∈ e.finds, ¬ hdI r ∈ e.files.flatten.map hdI
  many : e.files.flatten.length ≤ 400
theorem EvGood.rows {e : Ev} (g : EvGood e) : ∀ r ∈ e.files.flatten, IsRow r := by
  intro r hr
  obtain ⟨rs, h1, h2⟩ := List.mem_flatten.mp hr
  obtain ⟨i, hi⟩ := List.getElem?_of_mem h1
  exact ((g.fl i rs hi).2.1 r h2).row
theorem EvGood.ok {e : Ev} (g : EvGood e) : EvOk e := ⟨g.rows, fun r hr => (g.gr r hr).row, g.many, Nat.le_trans g.gl (by decide)⟩
/-- the tables of the generator expressions -/
structure Tabs (H : Hp) (T1 T2 T3 T4 T5 : Addr) : Prop where
  ascend : GxR.TabG H T1
  file : GxR.TabG H T2
  parties : GxR.TabG H T3
  finds : GxR.TabG H T4
  evid : GxR.TabG H T5
theorem Tabs.kt {H H' : Hp} {T1 T2 T3 T4 T5 : Addr} (h : Tabs H T1 T2 T3 T4 T5) (k : Kt H H') : Tabs H' T1 T2 T3 T4 T5 := ⟨k.tab _ h.1, k.tab _ h.2, k.tab _ h.3, k.tab _ h.4, k.tab _ h.5⟩
def spIsEv (T1 T2 T3 T4 T5 : Addr) : Sp := fun vs H Q _ => ∃ (v : V) (e : Ev), vs = [v] ∧ EvAt H v e ∧ EvGood e ∧ Tabs H T1 T2 T3 T4 T5 ∧ ∀ H', Kt H H' → Q (.bl true) H'
theorem scIsEv : FnScope ["thing", "kinds", "parties", "files", "finds", "taken", "file", "owner", "find"] ["thing"] (defScope sIsEvidence) := ⟨rfl, rfl, rfl, by decide +kernel, rfl, by decide +kernel, by decide +kernel⟩
theorem b_any : bootBuiltins "any" = some (.builtin "any") := by decide +kernel
theorem ok_isEv {f fN fP fF fD fE c T1 T2 T3 T4 T5 cP' cF' cD' : Addr} {fd fdN fdP fdF fdD fdE : FuncData} (D : DefC K mg "is_evidence" sIsEvidence ["thing"] f fd c) (B : Blt mg) {pa ca : Addr} (C : Cst K mg pa ca) (TB : GxR.TabB base mg c T5)
    (DN : DefAt K mg "is_number" sIsNumber ["thing", "least", "most"] fN fdN) (GN : FnOk P w K mg base CX0 1 fN fdN ["thing", "least", "most"] spNum)
    (DP : DefC K mg "is_parties" sIsParties ["thing"] fP fdP cP') (GP : FnOk P w K mg base CX0 4 fP fdP ["thing"] (spParties T3))
    (DF : DefC K mg "is_file" sIsFile ["thing", "kinds", "parties", "owner"] fF fdF cF') (GF : FnOk P w K mg base CX0 4 fF fdF ["thing", "kinds", "parties", "owner"] (spFile T2 T1))
    (DD : DefC K mg "are_finds" sAreFinds ["thing", "kinds", "parties"] fD fdD cD') (GD : FnOk P w K mg base CX0 4 fD fdD ["thing", "kinds", "parties"] (spFinds T4 T1))
    (DE : DefAt K mg "entry_numbers" sEntryNumbers ["files"] fE fdE) (GE : FnOk P w K mg base CX0 1 fE fdE ["files"] spEntryNums) :
    FnOk P w K mg base CX0 6 f fd ["thing"] (spIsEv T1 T2 T3 T4 T5) := by
  obtain ⟨tk, cK⟩ := C.kinds
  refine D.F.ok scIsEv (fun vs H Q E h => ?_) (fun A outer s H vs Q E hr h => ?_)
  · obtain ⟨v, e, rfl, _⟩ := h
    rfl
  · obtain ⟨v, e, rfl, ⟨p, fl, g, ⟨x, rfl, hx⟩, hp, hf, hg⟩, ok, hT, q⟩ := h
    have hu := hu_of hr
    have nd := scIsEv.nd
    have hr1 := hr.mono (show 1 ≤ 5 by decide)
    have hr4 := hr.mono (show 4 ≤ 5 by decide)
    refine ⟨_, (pss_cons (ps_if (PW.pt (pw_or (pt_not (pt_val (pe_isa B (by rfl) (by rfl) B.tup b_tuple (pv 0)))) (pw_or (pt_cmpR op_ne (pe_callB call_len_seq (by rfl) B.len b_len (pa_cons (pv 0) pa_nil)) pe_int (nomark _)) (pw_or1 (pt_not (pt_val (pe_call GN hr1 (by rfl) DN.g DN.k DN.b .nil pass0 (pa_cons (pe_ix ix_tup (pv 0) pe_int (fun _ _ => rfl)) (pa_cons pe_int (pa_cons (pe_glob (v := .int 3) rfl cK ⟨_, rfl⟩) pa_nil)))))))))) (pss_one (ps_ret pe_bl)) pss_nil)
      (pss_cons (ps_asg (pv 0) (pgT K 4 rfl (pgs_cons (pg_name (i := 1) nd rfl (Or.inr rfl)) (pgs_cons (pg_name (i := 2) nd rfl (Or.inr rfl)) (pgs_cons (pg_name (i := 3) nd rfl (Or.inl rfl)) (pgs_cons (pg_name (i := 4) nd rfl (Or.inl rfl)) pgs_nil))))))
      (pss_cons (ps_if (PW.pt (pw_or (pt_not (pt_val (pe_call GP hr4 (by rfl) DP.g DP.F.kp DP.b .nil pass0 (pa_cons (pv 2) pa_nil)))) (pw_or (pt_not (pt_val (pe_isa B (by rfl) (by rfl) B.tup b_tuple (pv 3)))) (pw_or1 (pt_cmpR op_ne (pe_callB call_len_seq (by rfl) B.len b_len (pa_cons (pv 3) pa_nil)) (pe_callB call_len_seq (by rfl) B.len b_len (pa_cons (pv 2) pa_nil)) (nomark _)))))) (pss_one (ps_ret pe_bl)) pss_nil)
      (pss_cons (ps_if (pt_not (pt_val (pe_allB (k := 4) (own := [("owner", 7), ("file", 6)]) rfl hr (by rfl) B.all TB rfl nd (pi_enumT (by rfl) B.enum (pa_cons (pv 3) pa_nil)) (blkOk_by (N := ["thing", "kinds", "parties", "files", "finds", "taken", "file", "owner", "find"]) (sc := defScope sIsEvidence) (by decide +kernel)) (fun _ _ _ _ _ _ => pgT K 2 rfl (pgs_cons (pg_name (i := 7) nd rfl (Or.inl rfl)) (pgs_cons (pg_name (i := 6) nd rfl (Or.inl rfl)) pgs_nil))) (fun _ _ _ _ _ _ hrg => pe_call GF hrg (by rfl) DF.g DF.F.kp DF.b .nil pass0 (pa_cons (pv 6) (pa_cons (pv 1) (pa_cons (pe_callB (lenK K) (by rfl) B.len b_len (pa_cons (pv 2) pa_nil)) (pa_cons (pv 7) pa_nil)))))))) (pss_one (ps_ret pe_bl)) pss_nil)
      (pss_cons (ps_if (pt_not (pt_val (pe_call GD hr4 (by rfl) DD.g DD.F.kp DD.b .nil pass0 (pa_cons (pv 4) (pa_cons (pv 1) (pa_cons (pe_callB call_len_seq (by rfl) B.len b_len (pa_cons (pv 2) pa_nil)) pa_nil)))))) (pss_one (ps_ret pe_bl)) pss_nil)
      (pss_cons (ps_set (i := 5) nd rfl (Or.inr rfl) (pe_call GE hr1 (by rfl) DE.g DE.k DE.b .nil pass0 (pa_cons (pv 3) pa_nil)))
      (pss_one (ps_ret (pe_not (pe_anyB (k := 4) (own := [("find", 8)]) rfl hr (by rfl) B.any TB rfl nd (piT K (pv 4)) (blkOk_by (N := ["thing", "kinds", "parties", "files", "finds", "taken", "file", "owner", "find"]) (sc := defScope sIsEvidence) (by decide +kernel)) (fun _ _ _ _ _ _ => pg_name (i := 8) nd rfl (Or.inl rfl)) (fun _ _ _ _ _ _ hrg => pe_cmp (pc_din (hu_of hrg) (pe_ix (ixT K) (pv 8) pe_int (fun _ _ => rfl)) (pv 5))))))))))))), ?_⟩
    obtain ⟨pw, ⟨ap, rfl, hpa⟩, hpp⟩ := id hp
    obtain ⟨fw, ⟨af, rfl, hfa⟩, hfp⟩ := id hf
    obtain ⟨gw, ⟨ag, rfl, hga⟩, hgp⟩ := id hg
    have k1 := ok.k1
    have k3 := ok.k3
    (repeat (first | refine ⟨_, _, rfl, .inr (SqT.of upd_same), rfl, rfl, ?_⟩ |  refine ⟨_, _, _, _, rfl, rfl, SqT.of (by assumption), rfl, ?_⟩ | refine ⟨_, _, _, rfl, .int _, ?_⟩ | refine ⟨_, _, _, rfl, .bl _, ?_⟩ | refine ⟨_, _, _, rfl, .str _, ?_⟩ | refine ⟨_, _, _, rfl, .tup (by assumption), ?_⟩ | refine ⟨_, _, rfl, .inr (SqT.of (by assumption)), ?_⟩ | refine ⟨_, _, rfl, rfl, _, rfl, ?_⟩ | refine ⟨_, _, _, rfl, (by first | assumption | omega), (by first | assumption | omega), ?_⟩ | refine ⟨_, rfl, ?_⟩ | refine ⟨_, _, rfl, rfl, ?_⟩ | refine ⟨rfl, ?_⟩ | refine iteT ?_ | refine iteF ?_))
    refine ⟨_, _, rfl, SqT.of hx, rfl, _, _, rfl, _, _, rfl, _, _, rfl, _, _, rfl, rfl, ?_⟩
    refine ⟨_, rfl, _, _, rfl, hp, ok.p1, ok.p8, ok.par, hT.parties, fun H1 kt1 => ?_⟩
    have hfa1 := kt1.kp _ _ hfa
    have hpa1 := kt1.kp _ _ hpa
    have hlen : fw.length = pw.length := by rw [paired_len hfp, paired_len hpp, ok.len]
    (repeat (first | refine ⟨_, _, rfl, .inr (SqT.of upd_same), rfl, rfl, ?_⟩ |  refine ⟨_, _, _, _, rfl, rfl, SqT.of (by assumption), rfl, ?_⟩ | refine ⟨_, _, _, rfl, .int _, ?_⟩ | refine ⟨_, _, _, rfl, .bl _, ?_⟩ | refine ⟨_, _, _, rfl, .str _, ?_⟩ | refine ⟨_, _, _, rfl, .tup (by assumption), ?_⟩ | refine ⟨_, _, rfl, .inr (SqT.of (by assumption)), ?_⟩ | refine ⟨_, _, rfl, rfl, _, rfl, ?_⟩ | refine ⟨_, _, _, rfl, (by first | assumption | omega), (by first | assumption | omega), ?_⟩ | refine ⟨_, rfl, ?_⟩ | refine ⟨_, _, rfl, rfl, ?_⟩ | refine ⟨rfl, ?_⟩ | refine iteT ?_ | refine iteF ?_))
    refine iteN ?_ ?_
    · rw [hlen]
      simp
    unfold tNext tSeq tIfS tNot tB
    dsimp only
    refine gen_enumT rfl hfa1 (hT.kt kt1).evid (fun n y H3 hy k3' => ⟨by rfl, ?_⟩) fun H3 kt3 => ?_
    · obtain ⟨rs, hr0, hr1⟩ := Paired.getL hfp hy
      obtain ⟨l1, l2, l3⟩ := ok.fl n rs hr0
      have kt := kt1.trans k3'
      refine ⟨_, rfl, _, rfl, _, rfl, _, _, rfl, .inr (SqT.of (k3'.kp _ _ hpa1)), _, rfl, ?_⟩
      rw [paired_len hpp]
      exact ⟨_, _, _, _, rs, rfl, kt.kp.file hr1, l1, l2, l3, (hT.kt kt).file, (hT.kt kt).ascend, fun H4 k4 => ⟨rfl, k3'.trans k4⟩⟩
    · have kt := kt1.trans kt3
      have hpa3 := kt.kp _ _ hpa
      have hga3 := kt.kp _ _ hga
      (repeat (first | refine ⟨_, _, rfl, .inr (SqT.of upd_same), rfl, rfl, ?_⟩ |  refine ⟨_, _, _, _, rfl, rfl, SqT.of (by assumption), rfl, ?_⟩ | refine ⟨_, _, _, rfl, .int _, ?_⟩ | refine ⟨_, _, _, rfl, .bl _, ?_⟩ | refine ⟨_, _, _, rfl, .str _, ?_⟩ | refine ⟨_, _, _, rfl, .tup (by assumption), ?_⟩ | refine ⟨_, _, rfl, .inr (SqT.of (by assumption)), ?_⟩ | refine ⟨_, _, rfl, rfl, _, rfl, ?_⟩ | refine ⟨_, _, _, rfl, (by first | assumption | omega), (by first | assumption | omega), ?_⟩ | refine ⟨_, rfl, ?_⟩ | refine ⟨_, _, rfl, rfl, ?_⟩ | refine ⟨rfl, ?_⟩ | refine iteT ?_ | refine iteF ?_))
      rw [paired_len hpp]
      refine ⟨_, _, _, e.finds, rfl, kt.kp.file hg, ok.gl, ok.gr, ok.ga, (hT.kt kt).finds, (hT.kt kt).ascend, fun H4 kt4 => ?_⟩
      have kt' := kt.trans kt4
      (repeat (first | refine ⟨_, _, rfl, .inr (SqT.of upd_same), rfl, rfl, ?_⟩ |  refine ⟨_, _, _, _, rfl, rfl, SqT.of (by assumption), rfl, ?_⟩ | refine ⟨_, _, _, rfl, .int _, ?_⟩ | refine ⟨_, _, _, rfl, .bl _, ?_⟩ | refine ⟨_, _, _, rfl, .str _, ?_⟩ | refine ⟨_, _, _, rfl, .tup (by assumption), ?_⟩ | refine ⟨_, _, rfl, .inr (SqT.of (by assumption)), ?_⟩ | refine ⟨_, _, rfl, rfl, _, rfl, ?_⟩ | refine ⟨_, _, _, rfl, (by first | assumption | omega), (by first | assumption | omega), ?_⟩ | refine ⟨_, rfl, ?_⟩ | refine ⟨_, _, rfl, rfl, ?_⟩ | refine ⟨rfl, ?_⟩ | refine iteT ?_ | refine iteF ?_))
      refine ⟨_, e.files, rfl, kt'.kp.files hf, ok.rows, Nat.le_trans ok.many (by decide), fun D hD => ?_⟩
      have ks : Kt H4 (upd H4 D (.dK (keysOf (e.files.flatten.map hdI)))) := Kt.same fun c o z => upd_get z hD
      have kt5 := kt'.trans ks
      unfold gName tRet tNotV
      dsimp only
      refine gen_tup rfl (kt5.kp _ _ hga) (hT.kt kt5).evid (fun j y H6 hy k6 => ⟨by rfl, ?_⟩) fun H6 k6 => ⟨false, rfl, q H6 (kt5.trans k6)⟩
      obtain ⟨r, hr0, b, rfl, hb⟩ := Paired.getL hgp hy
      have hm := List.mem_of_getElem? hr0
      obtain ⟨t, et⟩ := (ok.gr r hm).row
      have hb6 := (kt5.trans k6).kp _ _ hb
      rw [et] at hb6
      refine ⟨_, rfl, b, _, 0, _, rfl, rfl, SqT.of hb6, atI_nat (j := 0) rfl, _, rfl, D, _, rfl, DGet.k (k := Sum.inl (hdI r)) (k6.keep _ _ upd_same fun _ z => nomatch z), ?_, k6⟩
      rw [keysOf_has, decide_eq_false (ok.apart r hm)]
end
end K1
end
section
set_option Elab.async false
set_option linter.all false
set_option maxRecDepth 100000
set_option maxHeartbeats 2000000
namespace K1
open PySem PyProof.Rows L2
section
variable {X : Cx}
def rTup (K : PySem.W.Frag) : List V → Hp → VK → Prop := fun xs H Q => ∃ p ys, xs = [.ref p] ∧ ((SqL K H p ys ∧ ∀ l, H l = none → Q (.ref l) (upd H l (.tup ys))) ∨ (SqT K H p ys ∧ Q (.ref p) H))
theorem tupK (K : PySem.W.Frag) (h : X.K = K := by rfl) : CallR X (.type "tuple") (rTup K) := h ▸ call_tuple_of
end
theorem paired_app {α β : Type} {R : α → β → Prop} : ∀ {xs xs' : List α} {ys ys' : List β}, Paired R xs ys → Paired R xs' ys' → Paired R (xs ++ xs') (ys ++ ys')
  | _, _, _, _, .nil, h => h
  | _, _, _, _, .cons r t, h => .cons r (paired_app t h)
section
variable {K : PySem.W.Frag}
/-- [te for x in t], each item built anew -/
theorem lcB {A B : Type} {R : V → A → Prop} {S : Hp → V → B → Prop} {tl : TE} {te : TE} {vs : List Nat} {σ : L2.St} {H : Hp} {Q : VK} {i : Nat} {a : Addr} {xs : List V} {as : List A} (f : A → B) (hS : ∀ H H' v b, Kp H H' → S H v b → S H' v b)
    (hs : ∀ R : VK, R (.ref a) H → tl σ H R) (ha : H a = some (.tup xs)) (hz : xs.length ≤ 1000) (hp : Paired R xs as) (hw : ∀ x : V, wipe ((wipe σ vs).set i (some x)) vs = wipe σ vs)
    (turn : ∀ (x : V) (y : A) (H3 : Hp), y ∈ as → R x y → Same H H3 → ∀ Z : VK, (∀ v' H4, Same H3 H4 → S H4 v' (f y) → Z v' H4) → te ((wipe σ vs).set i (some x)) H3 Z)
    (k : ∀ D ys H', H D = none → Same H H' → H' D = some (.lst ys) → Paired (S H') ys (as.map f) → Q (.ref D) H') : tLc (iTup K tl) (gName i) tYes te vs σ H Q := by
  refine hs _ ⟨a, rfl, ⟨_, SqT.of ha⟩, fun D hD => ?_⟩
  have hl := paired_len hp
  refine lc_tup (K := K) (a := a) (xs := xs) (fun j H3 => Same H H3 ∧ ∃ ys, H3 D = some (.lst ys) ∧ Paired (S H3) ys ((as.take j).map f)) ⟨fun b o e => upd_get e hD, [], upd_same, .nil⟩ (fun j H3 _ ⟨e, _⟩ => SqT.of (e _ _ ha)) ?_ ?_
  · rintro j x H3 hx ⟨sm, ys, hy, hq⟩
    refine ⟨hw x, ?_⟩
    obtain ⟨y, hy0, hy1⟩ := Paired.getL hp hx
    have hj : j < xs.length := (List.getElem?_eq_some_iff.mp hx).1
    unfold tYes
    refine iteT ?_
    refine turn x y H3 (List.mem_of_getElem? hy0) hy1 sm _ fun v' H4 s4 hv => ⟨ys, s4 _ _ hy, ?_, ?_⟩
    · rw [paired_len hq, List.length_map, List.length_take]
      exact small1000 (by omega)
    · have ks : Kp H4 (upd H4 D (.lst (ys ++ [v']))) := fun b zs e => by
        have n : b ≠ D := fun z => by
          rw [z, s4 _ _ hy] at e
          cases e
        rw [upd_ne n]
        exact e
      refine ⟨fun b o e => ?_, ys ++ [v'], upd_same, ?_⟩
      · rw [upd_ne (ne_of_none e hD)]
        exact s4 _ _ (sm _ _ e)
      · have et : (as.take (j + 1)).map f = (as.take j).map f ++ [f y] := by
          rw [List.take_add_one, hy0, List.map_append]
          rfl
        rw [et]
        exact paired_app (Paired.mapP hq fun _ _ z => hS _ _ _ _ ks (hS _ _ _ _ (Kt.same s4).kp z)) (.cons (hS _ _ _ _ ks hv) .nil)
  · rintro H3 ⟨sm, ys, hy, hq⟩
    rw [hl, List.take_length] at hq
    exact k D ys H3 hD sm hy hq
/-- {x: True for x in xs if tt}, xs a list of ints -/
theorem dc_ints {tt : TT} {vs : List Nat} {σ : L2.St} {H : Hp} {Qd : Hp → Prop} {i : Nat} {a D : Addr} {ms : List Int} (p : Int → Bool) (ha : H a = some (.lst (ms.map V.int))) (hz : ms.length ≤ 1000) (hD : H D = none)
    (hw : ∀ x : V, wipe ((wipe σ vs).set i (some x)) vs = wipe σ vs) (hi : ∀ x : V, ((wipe σ vs).set i (some x))[i]? = some (some x))
    (turn : ∀ (n : Int) (H3 : Hp), ∀ R : Bool → Hp → Prop, R (p n) H3 → tt ((wipe σ vs).set i (some (.int n))) H3 R)
    (k : Qd (upd H D (.dK (keysOf (ms.filter p))))) :
    ∃ W : Nat → Nat → Hp → Prop, (∃ m, W 0 m (upd H D (.dK []))) ∧ ∀ j m H', W j m H' →
      ((Itl K a).stop j H' ∧ Qd H') ∨ ((Itl K a).go j H' ∧ ∃ Nx : Hp → Prop, (∀ H', Nx H' → ∃ m', m' < m ∧ W (j + 1) m' H') ∧ ∀ x H'', (Itl K a).yld j H' x H'' → gName i x (wipe σ vs) H'' fun σ2 H2 => wipe σ2 vs = wipe σ vs ∧ tt σ2 H2 fun b H3 =>
        if b = true then tVar i σ2 H3 fun y H4 => tC (.bl true) σ2 H4 fun z H5 => ∃ kvs k, y = kV k ∧ H5 D = some (.dK kvs) ∧ kvs.length < sizeLine ∧ Nx (upd H5 D (.dK (putK kvs k z))) else Nx H3) := by
  refine ⟨fun j m H3 => m = ms.length - j ∧ j ≤ ms.length ∧ H3 = upd H D (.dK (keysOf ((ms.take j).filter p))), ⟨ms.length, rfl, Nat.zero_le _, rfl⟩, ?_⟩
  rintro j m H3 ⟨rfl, hj, rfl⟩
  have ha3 : upd H D (.dK (keysOf ((ms.take j).filter p))) a = some (.lst (ms.map V.int)) := upd_get ha hD
  by_cases hlt : j < ms.length
  · obtain ⟨n, hn⟩ : ∃ n, ms[j]? = some n := ⟨_, List.getElem?_eq_getElem hlt⟩
    have hv : (ms.map V.int)[j]? = some (V.int n) := by rw [List.getElem?_map, hn]; rfl
    refine .inr ⟨⟨_, _, SqL.of ha3, hv⟩, fun H4 => H4 = upd H D (.dK (keysOf ((ms.take (j + 1)).filter p))), fun H4 e => ⟨ms.length - (j + 1), by omega, rfl, hlt, e⟩, ?_⟩
    rintro x H'' ⟨e, hall⟩
    subst e
    have e := hall _ (SqL.of ha3)
    rw [hv] at e
    cases e
    have et : ms.take (j + 1) = ms.take j ++ [n] := by rw [List.take_add_one, hn]; rfl
    refine ⟨hw _, turn n _ _ ?_⟩
    cases hp : p n with
    | false =>
      refine iteN rfl ?_
      rw [et, List.filter_append, List.filter_cons_of_neg (by rw [hp]; exact Bool.false_ne_true), List.filter_nil, List.append_nil]
    | true =>
      refine iteY rfl ?_
      refine ⟨_, hi _, _, .inl n, rfl, upd_same, ?_, ?_⟩
      · refine Nat.lt_of_le_of_lt (keysOf_len _) (small1000 ?_)
        exact Nat.le_trans (List.length_filter_le _ _) (by rw [List.length_take]; omega)
      · rw [upd_upd, ← keysOf_snoc, et, List.filter_append, List.filter_cons_of_pos hp, List.filter_nil]
  · have e : j = ms.length := by omega
    refine .inl ⟨⟨_, SqL.of ha3, by rw [List.length_map]; omega⟩, ?_⟩
    rw [e, List.take_length]
    exact k
end
section
variable {P : Program} {w : World} {K : PySem.W.Frag} {mg : Str → Option Value} {base : Heap}
/-- the rows that p picks by their numbers -/
def pickBy (p : Int → Bool) (e : Ev) : Ev := { e with files := e.files.map fun rs => rs.filter fun r => p (hdI r), finds := e.finds.filter fun r => p (hdI r) }
def spPicked : Sp := fun vs H Q _ => ∃ (v : V) (d : Addr) (e : Ev) (kvs : List (Key × V)) (p : Int → Bool), vs = [v, .ref d] ∧ EvAt H v e ∧ EvOk e ∧ e.files.length ≤ 100 ∧ H d = some (.dK kvs) ∧ (∀ n, (valV kvs (.inl n)).isSome = p n) ∧
  ∀ H' v', Same H H' → EvAt H' v' (pickBy p e) → Q v' H'
theorem scPicked : FnScope ["evidence", "wanted", "kinds", "parties", "files", "finds", "kept", "file", "entry", "find"] ["evidence", "wanted"] (defScope sPicked) := ⟨rfl, rfl, rfl, by decide +kernel, rfl, by decide +kernel, by decide +kernel⟩
theorem ok_picked {f : Addr} {fd : FuncData} (D : DefAt K mg "picked" sPicked ["evidence", "wanted"] f fd) (B : Blt mg) : FnOk P w K mg base CX0 1 f fd ["evidence", "wanted"] spPicked := by
  refine D.F.ok scPicked (fun vs H Q E h => ?_) (fun cdv A outer s H vs Q E hr h => ?_)
  · obtain ⟨v, d, e, kvs, p, rfl, _⟩ := h
    rfl
  · obtain ⟨v, d, e, kvs, pr, rfl, ⟨p, fl, g, ⟨x, rfl, hx⟩, hp, hf, hg⟩, ok, hfl, hd, hpr, q⟩ := h
    have nd := scPicked.nd
    have hu := hu_of hr
    refine ⟨_, (pss_cons (ps_asg (pv 0) (pgT K 4 rfl (pgs_cons (pg_name (i := 2) nd rfl (Or.inl rfl)) (pgs_cons (pg_name (i := 3) nd rfl (Or.inl rfl)) (pgs_cons (pg_name (i := 4) nd rfl (Or.inl rfl)) (pgs_cons (pg_name (i := 5) nd rfl (Or.inl rfl)) pgs_nil))))))
      (pss_cons (ps_set (i := 6) nd rfl (Or.inl rfl) (pe_callTy (tupK K) (by rfl) B.tup b_tuple (pa_cons (pe_lc (own := [("file", 7)]) rfl nd (piT K (pv 4)) (blkOk_by (N := ["evidence", "wanted", "kinds", "parties", "files", "finds", "kept", "file", "entry", "find"]) (sc := defScope sPicked) (by decide +kernel)) (fun _ _ _ _ _ => pg_name (i := 7) nd rfl (Or.inl rfl)) (fun _ _ _ _ _ => pts_nil) (fun _ _ _ _ _ => (pe_callTy (tupK K) (by rfl) B.tup b_tuple (pa_cons (pe_lc (own := [("entry", 8)]) rfl nd (piT K (pv 7)) (blkOk_by (N := ["evidence", "wanted", "kinds", "parties", "files", "finds", "kept", "file", "entry", "find"]) (sc := { kind := .function, names := [(".0", .local), ("file", .local), ("tuple", .globalImplicit), ("wanted", .cell)], isGenerator := false, isCoroutine := false }) (by decide +kernel)) (fun _ _ _ _ _ => pg_name (i := 8) nd rfl (Or.inl rfl)) (fun _ _ _ _ _ => pts_one (pt_cmp (pc_din hu (pe_ix (ixT K) (pv 8) pe_int (fun _ _ => rfl)) (pv 1)))) (fun _ _ _ _ _ => pv 8)) pa_nil)))) pa_nil)))
      (pss_one (ps_ret (pe_tup (pa_cons (pv 2) (pa_cons (pv 3) (pa_cons (pv 6) (pa_cons (pe_callTy (tupK K) (by rfl) B.tup b_tuple (pa_cons (pe_lc (own := [("find", 9)]) rfl nd (piT K (pv 5)) (blkOk_by (N := ["evidence", "wanted", "kinds", "parties", "files", "finds", "kept", "file", "entry", "find"]) (sc := defScope sPicked) (by decide +kernel)) (fun _ _ _ _ _ => pg_name (i := 9) nd rfl (Or.inl rfl)) (fun _ _ _ _ _ => pts_one (pt_cmp (pc_din hu (pe_ix (ixT K) (pv 9) pe_int (fun _ _ => rfl)) (pv 1)))) (fun _ _ _ _ _ => pv 9)) pa_nil)) pa_nil))))))))), ?_⟩
    refine ⟨_, rfl, _, _, rfl, SqT.of hx, rfl, _, _, rfl, _, _, rfl, _, _, rfl, _, _, rfl, rfl, ?_⟩
    obtain ⟨fw, ⟨af, rfl, hfa⟩, hfp⟩ := hf
    obtain ⟨gw, ⟨ag, rfl, hga⟩, hgp⟩ := id hg
    unfold tSeq tAsg tCB tCons
    dsimp only
    refine lcB (R := FileAt H) (S := FileAt) (fun rs => rs.filter fun r => pr (hdI r)) (fun _ _ _ _ k z => k.file z) (fun R h => ⟨_, rfl, h⟩) hfa (by rw [paired_len hfp]; omega) hfp (fun x => by rfl) (fun x y H3 hy hxy sm Z hZ => ?_) fun D2 ys H2 hD2 sm2 hD2' hq => ?_
    · obtain ⟨b, rfl⟩ : ∃ b, x = .ref b := by
        obtain ⟨_, ⟨b, e, _⟩, _⟩ := id hxy
        exact ⟨b, e⟩
      refine lcR2 (fun r => pr (hdI r)) (fun R h => ⟨_, rfl, h⟩) ((Kt.same sm).kp.file hxy) ?_ (fun x => by rfl) (fun c r H4 hr s4 hc => ⟨fun R hR => ?_, fun _ R hR => ⟨_, rfl, hR⟩⟩) fun D3 xs hD3 hq => ?_
      · have h1 := ok.many
        have h2 : y.length ≤ e.files.flatten.length := by
          obtain ⟨n, hn⟩ := List.getElem?_of_mem hy
          have := flat_le (i := y.length) hn
          rw [List.take_length, List.length_append] at this
          omega
        omega
      · obtain ⟨t, et⟩ := ok.rows r (List.mem_flatten.mpr ⟨y, hy, hr⟩)
        rw [et] at hc
        refine ⟨_, rfl, c, _, 0, _, rfl, rfl, SqT.of hc, atI_nat (j := 0) rfl, _, rfl, d, _, rfl, DGet.k (k := Sum.inl (hdI r)) (s4 _ _ (sm _ _ hd)), _, rfl, ?_⟩
        rw [hpr]
        exact hR
      · refine ⟨D3, xs, rfl, .inl ⟨SqL.of upd_same, fun l hl => ?_⟩⟩
        have s5 : Same H3 (upd (upd H3 D3 (.lst xs)) l (.tup xs)) := fun c o z => upd_get (upd_get z hD3) hl
        exact hZ _ _ s5 ⟨xs, ⟨l, rfl, upd_same⟩, Paired.mapP hq fun _ _ z => (Kt.same s5).kp.tp z⟩
    · refine ⟨D2, ys, rfl, .inl ⟨SqL.of hD2', fun l hl => ?_⟩⟩
      have s3 : Same H2 (upd H2 l (.tup ys)) := fun c o z => upd_get z hl
      have sm3 : Same H (upd H2 l (.tup ys)) := fun c o z => s3 _ _ (sm2 _ _ z)
      refine ⟨_, rfl, _, rfl, _, rfl, ?_⟩
      refine lcR2 (fun r => pr (hdI r)) (fun R h => ⟨_, rfl, h⟩) ((Kt.same sm3).kp.file hg) (Nat.le_trans ok.manyF (by decide)) (fun x => by rfl) (fun c r H4 hr s4 hc => ⟨fun R hR => ?_, fun _ R hR => ⟨_, rfl, hR⟩⟩) fun D3 xs hD3 hq3 => ?_
      · obtain ⟨t, et⟩ := ok.finds r hr
        rw [et] at hc
        refine ⟨_, rfl, c, _, 0, _, rfl, rfl, SqT.of hc, atI_nat (j := 0) rfl, _, rfl, d, _, rfl, DGet.k (k := Sum.inl (hdI r)) (s4 _ _ (sm3 _ _ hd)), _, rfl, ?_⟩
        rw [hpr]
        exact hR
      · refine ⟨D3, xs, rfl, .inl ⟨SqL.of upd_same, fun l2 hl2 => ?_⟩⟩
        have s5 : Same (upd H2 l (.tup ys)) (upd (upd (upd H2 l (.tup ys)) D3 (.lst xs)) l2 (.tup xs)) := fun c o z => upd_get (upd_get z hD3) hl2
        refine ⟨by show 4 ≤ sizeLine; decide, fun t ht => ?_⟩
        generalize hH5 : upd (upd (upd H2 l (.tup ys)) D3 (.lst xs)) l2 (.tup xs) = H5 at *
        have s6 : Same H5 (upd H5 t (.tup [.int e.kinds, p, .ref l, .ref l2])) := fun c o z => upd_get z ht
        have kp5 := (Kt.same s5).kp
        have kp6 := (Kt.same s6).kp
        have kp3 := (Kt.same s3).kp
        refine q _ _ (fun c o z => s6 _ _ (s5 _ _ (sm3 _ _ z))) ⟨p, .ref l, .ref l2, ⟨t, rfl, upd_same⟩, (kp6.file (kp5.file ((Kt.same sm3).kp.file hp))), ?_, ?_⟩
        · exact ⟨ys, kp6.tp (kp5.tp ⟨l, rfl, upd_same⟩), Paired.mapP hq fun _ _ z => kp6.file (kp5.file (kp3.file z))⟩
        · refine ⟨xs, kp6.tp ⟨l2, rfl, ?_⟩, Paired.mapP hq3 fun _ _ z => kp6.tp (kp5.tp z)⟩
          rw [← hH5]
          exact upd_same
end
end K1
end
section
set_option Elab.async false
set_option linter.all false
set_option maxRecDepth 100000
set_option maxHeartbeats 2000000
namespace K1
open PySem PyProof.Rows L2
theorem pickBy_congr {p p' : Int → Bool} {e : Ev} (h : ∀ m ∈ numsOf e, p m = p' m) : pickBy p e = pickBy p' e := by
  unfold pickBy
  have h1 : e.files.map (fun rs => rs.filter fun r => p (hdI r)) = e.files.map (fun rs => rs.filter fun r => p' (hdI r)) := by
    apply List.map_congr_left
    intro rs hrs
    apply List.filter_congr
    intro r hr
    exact h _ (List.mem_append_left _ (List.mem_map.mpr ⟨r, List.mem_flatten.mpr ⟨rs, hrs, hr⟩, rfl⟩))
  have h2 : e.finds.filter (fun r => p (hdI r)) = e.finds.filter fun r => p' (hdI r) := by
    apply List.filter_congr
    intro r hr
    exact h _ (List.mem_append_right _ (List.mem_map.mpr ⟨r, hr, rfl⟩))
  rw [h1, h2]
section
variable {P : Program} {w : World} {K : PySem.W.Frag} {mg : Str → Option Value} {base : Heap}
theorem numsOf_len (e : Ev) (ok : EvOk e) : (numsOf e).length ≤ 800 := by
  have h1 := ok.many
  have h2 := ok.manyF
  unfold numsOf
  rw [List.length_append, List.length_map, List.length_map]
  omega
theorem nodup_le : ∀ {l m : List Int}, l.Nodup → (∀ x ∈ l, x ∈ m) → l.length ≤ m.length
  | [], _, _, _ => Nat.zero_le _
  | a :: l, m, n, h => by
    have ha := h a List.mem_cons_self
    obtain ⟨n1, n2⟩ := List.nodup_cons.mp n
    have q := nodup_le (m := m.erase a) n2 fun x hx => (List.mem_erase_of_ne (fun z => n1 (by rw [← z]; exact hx))).mpr (h x (List.mem_cons_of_mem _ hx))
    rw [List.length_erase_of_mem ha] at q
    have := List.length_pos_of_mem ha
    rw [List.length_cons]
    omega
theorem asc_len {e : Ev} {ms : List Int} (ok : EvOk e) (h : IsAsc ms (numsOf e)) : ms.length ≤ 1000 := by
  have := nodup_le (l := ms) (m := numsOf e) (h.1.imp fun z => by omega) fun x hx => (h.2 x).mp hx
  have := numsOf_len e ok
  omega
def spCutBy (p : Int → Int → Bool) : Sp := fun vs H Q _ => ∃ (v : V) (n : Int) (e : Ev), vs = [v, .int n] ∧ EvAt H v e ∧ EvOk e ∧ e.files.length ≤ 100 ∧ ∀ H' v', Same H H' → EvAt H' v' (pickBy (fun m => p m n) e) → Q v' H'
theorem scCut : FnScope ["evidence", "number", "own"] ["evidence", "number"] (defScope sCut) := ⟨rfl, rfl, rfl, by decide +kernel, rfl, by decide +kernel, by decide +kernel⟩
theorem scWithout : FnScope ["evidence", "number", "own"] ["evidence", "number"] (defScope sWithout) := ⟨rfl, rfl, rfl, by decide +kernel, rfl, by decide +kernel, by decide +kernel⟩
theorem ok_cut {f fA fP : Addr} {fd fdA fdP : FuncData} (D : DefAt K mg "cut" sCut ["evidence", "number"] f fd) (DA : DefAt K mg "all_numbers" sAllNumbers ["evidence"] fA fdA) (GA : FnOk P w K mg base CX0 2 fA fdA ["evidence"] spAllNums)
    (DP : DefAt K mg "picked" sPicked ["evidence", "wanted"] fP fdP) (GP : FnOk P w K mg base CX0 1 fP fdP ["evidence", "wanted"] spPicked) : FnOk P w K mg base CX0 3 f fd ["evidence", "number"] (spCutBy fun m n => decide (m ≤ n)) := by
  refine D.F.ok scCut (fun vs H Q E h => ?_) (fun cdv A outer s H vs Q E hr h => ?_)
  · obtain ⟨v, n, e, rfl, _⟩ := h
    rfl
  · obtain ⟨v, n, e, rfl, he, ok, hfl, q⟩ := h
    have nd := scCut.nd
    have hr1 := hr.mono (show 1 ≤ 2 by decide)
    refine ⟨_, pss_one (ps_ret (pe_call GP hr1 (by rfl) DP.g DP.k DP.b .nil pass0 (pa_cons (pv 0) (pa_cons (pe_dc (own := [("own", 2)]) rfl nd (piL K (pe_call GA hr (by rfl) DA.g DA.k DA.b .nil pass0 (pa_cons (pv 0) pa_nil))) (blkOk_by (N := ["evidence", "number", "own"]) (sc := defScope sCut) (by decide +kernel))
      (fun _ _ _ _ _ => pg_name (i := 2) nd rfl (Or.inl rfl)) (fun _ _ _ _ _ => pts_one (pt_cmpR op_le (pv 2) (pv 1) (nomark _))) (fun _ _ _ _ _ => pv 2) (fun _ _ _ _ _ => pe_bl)) pa_nil)))), ?_⟩
    refine ⟨_, rfl, _, rfl, v, e, rfl, he, ok, fun H1 l ms s1 hl hl1 hasc => ⟨l, rfl, ⟨_, SqL.of hl1⟩, fun D2 hD2 => ?_⟩⟩
    refine dc_ints (i := 2) (fun m => decide (m ≤ n)) hl1 (asc_len ok hasc) hD2 (fun x => by rfl) (fun x => by rfl) (fun m H3 R hR => ⟨_, rfl, _, rfl, _, _, rfl, rfl, _, rfl, hR⟩) ?_
    have s2 : Same H1 (upd H1 D2 (.dK (keysOf (ms.filter fun m => decide (m ≤ n))))) := fun c o z => upd_get z hD2
    refine ⟨v, D2, e, _, fun m => decide (m ∈ ms.filter fun m => decide (m ≤ n)), rfl, (Kt.same s2).kp.ev ((Kt.same s1).kp.ev he), ok, hfl, upd_same, keysOf_has _, fun H4 v' s4 hv => q H4 v' (fun c o z => s4 _ _ (s2 _ _ (s1 _ _ z))) ?_⟩
    rw [pickBy_congr (p' := fun m => decide (m ≤ n)) fun m hm => ?_] at hv
    · exact hv
    · simp [List.mem_filter, (hasc.2 m).mpr hm]
theorem ok_without {f fA fP : Addr} {fd fdA fdP : FuncData} (D : DefAt K mg "without" sWithout ["evidence", "number"] f fd) (DA : DefAt K mg "all_numbers" sAllNumbers ["evidence"] fA fdA) (GA : FnOk P w K mg base CX0 2 fA fdA ["evidence"] spAllNums)
    (DP : DefAt K mg "picked" sPicked ["evidence", "wanted"] fP fdP) (GP : FnOk P w K mg base CX0 1 fP fdP ["evidence", "wanted"] spPicked) : FnOk P w K mg base CX0 3 f fd ["evidence", "number"] (spCutBy fun m n => decide (m ≠ n)) := by
  refine D.F.ok scWithout (fun vs H Q E h => ?_) (fun cdv A outer s H vs Q E hr h => ?_)
  · obtain ⟨v, n, e, rfl, _⟩ := h
    rfl
  · obtain ⟨v, n, e, rfl, he, ok, hfl, q⟩ := h
    have nd := scWithout.nd
    have hr1 := hr.mono (show 1 ≤ 2 by decide)
    refine ⟨_, pss_one (ps_ret (pe_call GP hr1 (by rfl) DP.g DP.k DP.b .nil pass0 (pa_cons (pv 0) (pa_cons (pe_dc (own := [("own", 2)]) rfl nd (piL K (pe_call GA hr (by rfl) DA.g DA.k DA.b .nil pass0 (pa_cons (pv 0) pa_nil))) (blkOk_by (N := ["evidence", "number", "own"]) (sc := defScope sWithout) (by decide +kernel))
      (fun _ _ _ _ _ => pg_name (i := 2) nd rfl (Or.inl rfl)) (fun _ _ _ _ _ => pts_one (pt_cmpR op_ne (pv 2) (pv 1) (nomark _))) (fun _ _ _ _ _ => pv 2) (fun _ _ _ _ _ => pe_bl)) pa_nil)))), ?_⟩
    refine ⟨_, rfl, _, rfl, v, e, rfl, he, ok, fun H1 l ms s1 hl hl1 hasc => ⟨l, rfl, ⟨_, SqL.of hl1⟩, fun D2 hD2 => ?_⟩⟩
    refine dc_ints (i := 2) (fun m => decide (m ≠ n)) hl1 (asc_len ok hasc) hD2 (fun x => by rfl) (fun x => by rfl) (fun m H3 R hR => ⟨_, rfl, _, rfl, rfl, _, rfl, ?_⟩) ?_
    · have e2 : (!decide (V.int m = V.int n)) = decide (m ≠ n) := by simp
      rw [e2]
      exact hR
    have s2 : Same H1 (upd H1 D2 (.dK (keysOf (ms.filter fun m => decide (m ≠ n))))) := fun c o z => upd_get z hD2
    refine ⟨v, D2, e, _, fun m => decide (m ∈ ms.filter fun m => decide (m ≠ n)), rfl, (Kt.same s2).kp.ev ((Kt.same s1).kp.ev he), ok, hfl, upd_same, keysOf_has _, fun H4 v' s4 hv => q H4 v' (fun c o z => s4 _ _ (s2 _ _ (s1 _ _ z))) ?_⟩
    rw [pickBy_congr (p' := fun m => decide (m ≠ n)) fun m hm => ?_] at hv
    · exact hv
    · simp [List.mem_filter, (hasc.2 m).mpr hm]
def withFind (e : Ev) (r : List V) : Ev := { e with finds := e.finds ++ [r] }
def spWithFind (C : Addr) : Sp := fun vs H Q E => ∃ (v : V) (e : Ev) (pt kd am m : Int), vs = [v, .int pt, .int kd, .int am] ∧ EvAt H v e ∧ EvOk e ∧ IsMax0 m (numsOf e) ∧
  (200 ≤ e.finds.length → ∀ d H', Same H H' → H d = none → H' d = some (.xd [(("what" : Str), .str "too many finds")]) → E (.ref C) (some d) H') ∧
  (e.finds.length < 200 → 1000000000 ≤ m → ∀ d H', Same H H' → H d = none → H' d = some (.xd [(("what" : Str), .str "no number left")]) → E (.ref C) (some d) H') ∧
  (e.finds.length < 200 → m < 1000000000 → ∀ H' v', Same H H' → EvAt H' v' (withFind e [.int (m + 1), .int pt, .int kd, .int am]) → Q v' H')
theorem IsMax0.uniq {m m' : Int} {ns : List Int} (h : IsMax0 m ns) (h' : IsMax0 m' ns) : m = m' := by
  rcases h with ⟨e, rfl⟩ | ⟨h1, h2⟩
  · rcases h' with ⟨_, rfl⟩ | ⟨h3, _⟩
    · rfl
    · rw [e] at h3
      exact absurd h3 (by simp)
  · rcases h' with ⟨e, rfl⟩ | ⟨h3, h4⟩
    · rw [e] at h1
      exact absurd h1 (by simp)
    · have := h2 _ h3
      have := h4 _ h1
      omega
theorem scWithFind : FnScope ["evidence", "party", "kind", "amount", "kinds", "parties", "files", "finds"] ["evidence", "party", "kind", "amount"] (defScope sWithFind) := ⟨rfl, rfl, rfl, by decide +kernel, rfl, by decide +kernel, by decide +kernel⟩
theorem ok_withFind {f fL C fI cd cc pa ca : Addr} {fd fdL : FuncData} (D : DefAt K mg "with_find" sWithFind ["evidence", "party", "kind", "amount"] f fd) (B : Blt mg) (Z : Cst K mg pa ca) (T : RefTxt P K mg C fI cd cc)
    (DL : DefAt K mg "last_number" sLastNumber ["evidence"] fL fdL) (GL : FnOk P w K mg base CX0 1 fL fdL ["evidence"] spLast) : FnOk P w K mg base (L2.CX P w) 3 f fd ["evidence", "party", "kind", "amount"] (spWithFind C) := by
  obtain ⟨tr, cR⟩ := Z.rows
  obtain ⟨tn, cN⟩ := Z.number
  refine D.F.okX scWithFind (fun vs H Q E h => ?_) (fun cdv A outer s H vs Q E hr h => ?_)
  · obtain ⟨v, e, pt, kd, am, m, rfl, _⟩ := h
    rfl
  · obtain ⟨v, e, pt, kd, am, m, rfl, he, ok, hm, q1, q2, q3⟩ := h
    have nd := scWithFind.nd
    have hu := hu_of hr
    have hr1 := hr.mono (show 1 ≤ 2 by decide)
    refine ⟨_, (pss_cons (ps_asg (pv 0) (pgT K 4 rfl (pgs_cons (pg_name (i := 4) nd rfl (Or.inl rfl)) (pgs_cons (pg_name (i := 5) nd rfl (Or.inl rfl)) (pgs_cons (pg_name (i := 6) nd rfl (Or.inl rfl)) (pgs_cons (pg_name (i := 7) nd rfl (Or.inl rfl)) pgs_nil))))))
      (pss_cons (ps_if (pt_cmpR op_ge (pe_callB call_len_seq (by rfl) B.len b_len (pa_cons (pv 7) pa_nil)) (pe_glob (v := .int 200) rfl cR ⟨_, rfl⟩) (nomark _)) (pss_one (ps_raiseRef rfl T B.sup hr (takes_of rfl rfl rfl rfl) (pa_cons pe_str pa_nil))) pss_nil)
      (pss_cons (ps_if (pt_cmpR op_ge (pe_call GL hr1 (by rfl) DL.g DL.k DL.b .nil pass0 (pa_cons (pv 0) pa_nil)) (pe_glob (v := .int 1000000000) rfl cN ⟨_, rfl⟩) (nomark _)) (pss_one (ps_raiseRef rfl T B.sup hr (takes_of rfl rfl rfl rfl) (pa_cons pe_str pa_nil))) pss_nil)
      (pss_one (ps_ret (pe_tup (pa_cons (pv 4) (pa_cons (pv 5) (pa_cons (pv 6) (pa_cons (pe_op op_catA (pv 7) (pe_tup (pa_cons (pe_tup (pa_cons (pe_op op_add (pe_call GL hr1 (by rfl) DL.g DL.k DL.b .nil pass0 (pa_cons (pv 0) pa_nil)) pe_int) (pa_cons (pv 1) (pa_cons (pv 2) (pa_cons (pv 3) pa_nil))))) pa_nil))) pa_nil)))))))))), ?_⟩
    obtain ⟨p, fl, g, ⟨x, rfl, hx⟩, hp, hf, hg⟩ := id he
    obtain ⟨gw, ⟨ag, rfl, hga⟩, hgp⟩ := id hg
    have hl := paired_len hgp
    refine ⟨_, rfl, _, _, rfl, SqT.of hx, rfl, _, _, rfl, _, _, rfl, _, _, rfl, _, _, rfl, rfl, ?_⟩
    refine ⟨_, rfl, _, _, rfl, .inr (SqT.of hga), _, _, rfl, rfl, _, rfl, ?_⟩
    by_cases h2 : 200 ≤ e.finds.length
    · refine iteY (decide_eq_true (by omega)) ?_
      exact ⟨_, rfl, fun d hd => q1 h2 d _ (fun c o z => upd_get z hd) hd upd_same⟩
    refine iteN (decide_eq_false (by omega)) ?_
    refine ⟨_, rfl, _, e, rfl, he, ok, fun H1 m1 s1 hm1 => ?_⟩
    obtain rfl := hm1.uniq hm
    refine ⟨_, _, rfl, rfl, _, rfl, ?_⟩
    by_cases h3 : 1000000000 ≤ m1
    · refine iteY (decide_eq_true h3) ?_
      exact ⟨_, rfl, fun d hd => by
        have hd0 : H d = none := by
          cases z : H d with
          | none => rfl
          | some o => rw [s1 _ _ z] at hd; cases hd
        exact q2 (by omega) h3 d _ (fun c o z => upd_get (s1 _ _ z) hd) hd0 upd_same⟩
    refine iteN (decide_eq_false h3) ?_
    refine ⟨_, rfl, _, rfl, _, rfl, _, rfl, ?_⟩
    have he1 := (Kt.same s1).kp.ev he
    refine ⟨_, rfl, _, e, rfl, he1, ok, fun H2 m2 s2 hm2 => ?_⟩
    obtain rfl := hm2.uniq hm
    refine ⟨_, _, rfl, rfl, _, rfl, _, rfl, _, rfl, (by show 4 ≤ sizeLine; decide), fun t1 ht1 => ⟨(by show 1 ≤ sizeLine; decide), fun t2 ht2 => ?_⟩⟩
    generalize hH3 : upd H2 t1 _ = H3 at *
    have s3 : Same H2 H3 := fun c o z => by rw [← hH3]; exact upd_get z ht1
    have ht : H3 t1 = some (.tup [.int (m2 + 1), .int pt, .int kd, .int am]) := by rw [← hH3]; exact upd_same
    have s4 : Same H3 (upd H3 t2 (.tup [.ref t1])) := fun c o z => upd_get z ht2
    generalize hH4 : upd H3 t2 _ = H4 at *
    have ht2' : H4 t2 = some (.tup [.ref t1]) := by rw [← hH4]; exact upd_same
    have s14 : Same H H4 := fun c o z => s4 _ _ (s3 _ _ (s2 _ _ (s1 _ _ z)))
    have hga4 := s14 _ _ hga
    have k14 := (Kt.same s14).kp
    have row : TpV H4 (.ref t1) [.int (m2 + 1), .int pt, .int kd, .int am] := ⟨t1, rfl, s4 _ _ ht⟩
    -- the tuple of four
    have fin : ∀ (b : Addr) (H5 : Hp), Same H4 H5 → H5 b = some (.tup (gw ++ [.ref t1])) → (4 : Nat) ≤ sizeLine ∧ ∀ t, H5 t = none → Q (.ref t) (upd H5 t (.tup [.int e.kinds, p, fl, .ref b])) := by
      intro b H5 s5 hb
      refine ⟨by decide, fun t hn => ?_⟩
      have s6 : Same H5 (upd H5 t (.tup [.int e.kinds, p, fl, .ref b])) := fun c o z => upd_get z hn
      have k6 := (Kt.same s6).kp
      have k5 := (Kt.same s5).kp
      refine q3 (by omega) (by omega) _ _ (fun c o z => s6 _ _ (s5 _ _ (s14 _ _ z))) ⟨p, fl, .ref b, ⟨t, rfl, upd_same⟩, k6.file (k5.file (k14.file hp)), k6.files (k5.files (k14.files hf)), gw ++ [.ref t1], ⟨b, rfl, s6 _ _ hb⟩, ?_⟩
      exact paired_app (Paired.mapP hgp fun _ _ z => k6.tp (k5.tp (k14.tp z))) (.cons (k6.tp (k5.tp row)) .nil)
    have hsz : gw.length + 1 ≤ sizeLine := Nat.le_of_lt (small1000 (by omega))
    refine ⟨ag, t2, gw, [.ref t1], rfl, rfl, SqT.of hga4, SqT.of ht2', hsz, fun e0 => ?_, fun _ z => absurd z (by simp), fun _ _ t3 ht3 => ?_⟩
    · subst e0
      exact fin t2 H4 (fun c o z => z) ht2'
    · exact fin t3 _ (fun c o z => upd_get z ht3) upd_same
end
end K1
end
section
set_option Elab.async false
set_option linter.all false
set_option maxRecDepth 100000
set_option maxHeartbeats 2000000
namespace K1
open PySem PyProof.Rows L2
/-- the world as it stands between two deeds -/
structure Wd where
  k : Int
  ps : List (List V)
  st : List (List Int)
  fs : List (List (List V))
  gs : List (List V)
  last : Int
/-- its addresses -/
structure Wm where
  p : Addr
  s : Addr
  f : Addr
  g : Addr
  ev : Addr
  li : Addr
  sa : List Addr
  fa : List Addr
def wd (x : Wd) (m : Wm) : List (Key × V) := [(.inr "kinds", .int x.k), (.inr "parties", .ref m.p), (.inr "stock", .ref m.s), (.inr "files", .ref m.f), (.inr "finds", .ref m.g), (.inr "events", .ref m.ev), (.inr "last", .int x.last), (.inr "liars", .ref m.li)]
def IntsAt (H : Hp) (a : Addr) (ns : List Int) : Prop := H a = some (.lst (ns.map V.int))
def RowsAt (H : Hp) (a : Addr) (rs : List (List V)) : Prop := ∃ ws, H a = some (.lst ws) ∧ Paired (TpV H) ws rs
def muts (W : Addr) (m : Wm) : List Addr := W :: m.s :: m.f :: m.g :: m.ev :: m.li :: (m.sa ++ m.fa)
structure WAt (H : Hp) (W : Addr) (x : Wd) (m : Wm) (n : Nat) : Prop where
  d : H W = some (.dK (wd x m))
  hp : FileAt H (.ref m.p) x.ps
  hs : H m.s = some (.lst (m.sa.map V.ref))
  hsa : Paired (IntsAt H) m.sa x.st
  hf : H m.f = some (.lst (m.fa.map V.ref))
  hfa : Paired (RowsAt H) m.fa x.fs
  hg : RowsAt H m.g x.gs
  hev : ∃ es, H m.ev = some (.lst es) ∧ es.length ≤ n
  hli : ∃ ls : List Int, H m.li = some (.lst (ls.map V.int)) ∧ ls.length ≤ n
  nd : (muts W m).Nodup
theorem eq_kinds (x : Wd) (m : Wm) : valV (wd x m) (.inr "kinds" : Key) = some (.int x.k) := by rfl
theorem eq_parties (x : Wd) (m : Wm) : valV (wd x m) (.inr "parties" : Key) = some (.ref m.p) := by rfl
theorem eq_stock (x : Wd) (m : Wm) : valV (wd x m) (.inr "stock" : Key) = some (.ref m.s) := by rfl
theorem eq_files (x : Wd) (m : Wm) : valV (wd x m) (.inr "files" : Key) = some (.ref m.f) := by rfl
theorem eq_finds (x : Wd) (m : Wm) : valV (wd x m) (.inr "finds" : Key) = some (.ref m.g) := by rfl
theorem eq_events (x : Wd) (m : Wm) : valV (wd x m) (.inr "events" : Key) = some (.ref m.ev) := by rfl
theorem eq_last (x : Wd) (m : Wm) : valV (wd x m) (.inr "last" : Key) = some (.int x.last) := by rfl
theorem eq_liars (x : Wd) (m : Wm) : valV (wd x m) (.inr "liars" : Key) = some (.ref m.li) := by rfl
theorem put_last (x : Wd) (m : Wm) (v : Int) : putK (wd x m) (.inr "last" : Key) (.int v) = wd { x with last := v } m := by rfl
section
variable {H : Hp} {W : Addr} {x : Wd} {m : Wm} {n : Nat}
theorem WAt.kinds (h : WAt H W x m n) : DGet H W (.str "kinds") (some (.int x.k)) := eq_kinds x m ▸ DGet.k (k := .inr "kinds") h.d
theorem WAt.parties (h : WAt H W x m n) : DGet H W (.str "parties") (some (.ref m.p)) := eq_parties x m ▸ DGet.k (k := .inr "parties") h.d
theorem WAt.stock (h : WAt H W x m n) : DGet H W (.str "stock") (some (.ref m.s)) := eq_stock x m ▸ DGet.k (k := .inr "stock") h.d
theorem WAt.files (h : WAt H W x m n) : DGet H W (.str "files") (some (.ref m.f)) := eq_files x m ▸ DGet.k (k := .inr "files") h.d
theorem WAt.finds (h : WAt H W x m n) : DGet H W (.str "finds") (some (.ref m.g)) := eq_finds x m ▸ DGet.k (k := .inr "finds") h.d
theorem WAt.events (h : WAt H W x m n) : DGet H W (.str "events") (some (.ref m.ev)) := eq_events x m ▸ DGet.k (k := .inr "events") h.d
theorem WAt.lastG (h : WAt H W x m n) : DGet H W (.str "last") (some (.int x.last)) := eq_last x m ▸ DGet.k (k := .inr "last") h.d
theorem WAt.liars (h : WAt H W x m n) : DGet H W (.str "liars") (some (.ref m.li)) := eq_liars x m ▸ DGet.k (k := .inr "liars") h.d
theorem WAt.putLast (h : WAt H W x m n) (v : Int) : DPut H W (.str "last") (.int v) (upd H W (.dK (wd { x with last := v } m))) :=
  put_last x m v ▸ DPut.k (k := .inr "last") h.d (show 8 < sizeLine by decide)
theorem WAt.same {H' : Hp} (h : WAt H W x m n) (s : Same H H') : WAt H' W x m n := by
  have k := (Kt.same s).kp
  obtain ⟨ws, hg, hq⟩ := h.hg
  obtain ⟨es, he, hl⟩ := h.hev
  obtain ⟨ls, hli, hl2⟩ := h.hli
  exact ⟨s _ _ h.d, k.file h.hp, s _ _ h.hs, Paired.mapP h.hsa fun _ _ z => s _ _ z, s _ _ h.hf, Paired.mapP h.hfa fun _ _ ⟨ws, a, b⟩ => ⟨ws, s _ _ a, Paired.mapP b fun _ _ z => k.tp z⟩,
    ⟨ws, s _ _ hg, Paired.mapP hq fun _ _ z => k.tp z⟩, ⟨es, s _ _ he, hl⟩, ⟨ls, s _ _ hli, hl2⟩, h.nd⟩
theorem WAt.mono {n' : Nat} (h : WAt H W x m n) (l : n ≤ n') : WAt H W x m n' := by
  obtain ⟨es, he, hl⟩ := h.hev
  obtain ⟨ls, hli, hl2⟩ := h.hli
  exact ⟨h.d, h.hp, h.hs, h.hsa, h.hf, h.hfa, h.hg, ⟨es, he, Nat.le_trans hl l⟩, ⟨ls, hli, Nat.le_trans hl2 l⟩, h.nd⟩
/-- a store at one place that is no tuple leaves the tuples -/
theorem kp_upd {a : Addr} {o u : HO} (h : H a = some u) (n : ∀ xs, u ≠ .tup xs) : Kp H (upd H a o) := fun b xs e => by
  have : b ≠ a := fun z => by
    rw [z, h] at e
    exact n xs (Option.some.inj e)
  rw [upd_ne this]
  exact e
theorem nd_ne {W : Addr} {m : Wm} (h : (muts W m).Nodup) : W ≠ m.s ∧ W ≠ m.f ∧ W ≠ m.g ∧ W ≠ m.ev ∧ W ≠ m.li ∧ (∀ a ∈ m.sa, W ≠ a) ∧ (∀ a ∈ m.fa, W ≠ a) ∧ m.s ≠ m.f ∧ m.s ≠ m.g ∧ m.s ≠ m.ev ∧ m.s ≠ m.li ∧ (∀ a ∈ m.sa, m.s ≠ a) ∧ (∀ a ∈ m.fa, m.s ≠ a) ∧
    m.f ≠ m.g ∧ m.f ≠ m.ev ∧ m.f ≠ m.li ∧ (∀ a ∈ m.sa, m.f ≠ a) ∧ (∀ a ∈ m.fa, m.f ≠ a) ∧ m.g ≠ m.ev ∧ m.g ≠ m.li ∧ (∀ a ∈ m.sa, m.g ≠ a) ∧ (∀ a ∈ m.fa, m.g ≠ a) ∧ m.ev ≠ m.li ∧ (∀ a ∈ m.sa, m.ev ≠ a) ∧ (∀ a ∈ m.fa, m.ev ≠ a) ∧
    (∀ a ∈ m.sa, m.li ≠ a) ∧ (∀ a ∈ m.fa, m.li ≠ a) ∧ m.sa.Nodup ∧ m.fa.Nodup ∧ ∀ a ∈ m.sa, ∀ b ∈ m.fa, a ≠ b := by
  unfold muts at h
  simp only [List.nodup_cons, List.mem_cons, List.mem_append, not_or, List.nodup_append] at h
  obtain ⟨⟨a1, a2, a3, a4, a5, a6, a7⟩, ⟨b2, b3, b4, b5, b6, b7⟩, ⟨c3, c4, c5, c6, c7⟩, ⟨d4, d5, d6, d7⟩, ⟨e5, e6, e7⟩, ⟨f6, f7⟩, g1, g2, g3⟩ := h
  refine ⟨a1, a2, a3, a4, a5, fun a h z => a6 (z ▸ h), fun a h z => a7 (z ▸ h), b2, b3, b4, b5, fun a h z => b6 (z ▸ h), fun a h z => b7 (z ▸ h), c3, c4, c5, fun a h z => c6 (z ▸ h), fun a h z => c7 (z ▸ h), d4, d5, fun a h z => d6 (z ▸ h), fun a h z => d7 (z ▸ h), e5, fun a h z => e6 (z ▸ h), fun a h z => e7 (z ▸ h), fun a h z => f6 (z ▸ h), fun a h z => f7 (z ▸ h), g1, g2, g3⟩
theorem paired_mem {α β : Type} {R R' : α → β → Prop} : ∀ {xs : List α} {ys : List β}, Paired R xs ys → (∀ a b, a ∈ xs → R a b → R' a b) → Paired R' xs ys
  | _, _, .nil, _ => .nil
  | _, _, .cons r t, f => .cons (f _ _ List.mem_cons_self r) (paired_mem t fun a b h => f a b (List.mem_cons_of_mem _ h))
theorem paired_set {α β : Type} {R R' : α → β → Prop} : ∀ {xs : List α} {ys : List β} {i : Nat} {a : α} {y : β}, Paired R xs ys → xs.Nodup → xs[i]? = some a → R' a y → (∀ c b, c ∈ xs → c ≠ a → R c b → R' c b) → Paired R' xs (ys.set i y)
  | _, _, _, _, _, .nil, _, e, _, _ => by simp at e
  | _, _, 0, a, y, .cons r t, nd, e, h, f => by
    simp at e
    subst e
    obtain ⟨n1, n2⟩ := List.nodup_cons.mp nd
    exact .cons h (paired_mem t fun c b hc => f c b (List.mem_cons_of_mem _ hc) fun z => n1 (z ▸ hc))
  | _, _, i + 1, a, y, .cons r t, nd, e, h, f => by
    simp at e
    obtain ⟨n1, n2⟩ := List.nodup_cons.mp nd
    exact .cons (f _ _ List.mem_cons_self (fun z => n1 (z ▸ List.mem_of_getElem? e)) r) (paired_set t n2 e h fun c b hc => f c b (List.mem_cons_of_mem _ hc))
theorem RowsAt.kp {H' : Hp} {a : Addr} {rs : List (List V)} (h : RowsAt H a rs) (k : Kp H H') (e : H' a = H a) : RowsAt H' a rs := by
  obtain ⟨ws, h1, h2⟩ := h
  exact ⟨ws, e.trans h1, Paired.mapP h2 fun _ _ z => k.tp z⟩
/-- the number counted up -/
theorem WAt.setLast (h : WAt H W x m n) (v : Int) : WAt (upd H W (.dK (wd { x with last := v } m))) W { x with last := v } m n := by
  have k := kp_upd (o := .dK (wd { x with last := v } m)) h.d (fun xs z => nomatch z)
  obtain ⟨a1, a2, a3, a4, a5, a6, a7, _⟩ := nd_ne h.nd
  obtain ⟨es, he, hl⟩ := h.hev
  obtain ⟨ls, hli, hl2⟩ := h.hli
  exact ⟨upd_same, k.file h.hp, (upd_ne a1.symm).trans h.hs, paired_mem h.hsa fun a _ ha z => (upd_ne (a6 a ha).symm).trans z, (upd_ne a2.symm).trans h.hf, paired_mem h.hfa fun a _ ha z => z.kp k (upd_ne (a7 a ha).symm),
    h.hg.kp k (upd_ne a3.symm), ⟨es, (upd_ne a4.symm).trans he, hl⟩, ⟨ls, (upd_ne a5.symm).trans hli, hl2⟩, h.nd⟩
/-- a stock -/
theorem WAt.setStock (h : WAt H W x m n) {i : Nat} {a : Addr} (ha : m.sa[i]? = some a) (ns : List Int) : WAt (upd H a (.lst (ns.map V.int))) W { x with st := x.st.set i ns } m n := by
  have hm := List.mem_of_getElem? ha
  obtain ⟨b0, hb0, hb1⟩ := Paired.getL h.hsa ha
  have k := kp_upd (o := .lst (ns.map V.int)) hb1 (fun xs z => nomatch z)
  obtain ⟨a1, a2, a3, a4, a5, a6, a7, b2, b3, b4, b5, b6, b7, c3, c4, c5, c6, c7, d4, d5, d6, d7, e5, e6, e7, f6, f7, g1, g2, g3⟩ := nd_ne h.nd
  obtain ⟨es, he, hl⟩ := h.hev
  obtain ⟨ls, hli, hl2⟩ := h.hli
  exact ⟨(upd_ne (a6 a hm)).trans h.d, k.file h.hp, (upd_ne (b6 a hm)).trans h.hs, paired_set h.hsa g1 ha upd_same fun c _ hc hne z => (upd_ne hne).trans z, (upd_ne (c6 a hm)).trans h.hf, paired_mem h.hfa fun c _ hc z => z.kp k (upd_ne (g3 a hm c hc).symm),
    h.hg.kp k (upd_ne (d6 a hm)), ⟨es, (upd_ne (e6 a hm)).trans he, hl⟩, ⟨ls, (upd_ne (f6 a hm)).trans hli, hl2⟩, h.nd⟩
/-- a file -/
theorem WAt.setFile (h : WAt H W x m n) {i : Nat} {a : Addr} (ha : m.fa[i]? = some a) {ws : List V} {rs : List (List V)} (hw : Paired (TpV H) ws rs) : WAt (upd H a (.lst ws)) W { x with fs := x.fs.set i rs } m n := by
  have hm := List.mem_of_getElem? ha
  obtain ⟨b0, hb0, ws0, hb1, _⟩ := Paired.getL h.hfa ha
  have k := kp_upd (o := .lst ws) hb1 (fun xs z => nomatch z)
  obtain ⟨a1, a2, a3, a4, a5, a6, a7, b2, b3, b4, b5, b6, b7, c3, c4, c5, c6, c7, d4, d5, d6, d7, e5, e6, e7, f6, f7, g1, g2, g3⟩ := nd_ne h.nd
  obtain ⟨es, he, hl⟩ := h.hev
  obtain ⟨ls, hli, hl2⟩ := h.hli
  exact ⟨(upd_ne (a7 a hm)).trans h.d, k.file h.hp, (upd_ne (b7 a hm)).trans h.hs, paired_mem h.hsa fun c _ hc z => (upd_ne (g3 c hc a hm)).trans z, (upd_ne (c7 a hm)).trans h.hf, paired_set h.hfa g2 ha ⟨ws, upd_same, Paired.mapP hw fun _ _ z => k.tp z⟩ fun c _ hc hne z => z.kp k (upd_ne hne),
    h.hg.kp k (upd_ne (d7 a hm)), ⟨es, (upd_ne (e7 a hm)).trans he, hl⟩, ⟨ls, (upd_ne (f7 a hm)).trans hli, hl2⟩, h.nd⟩
/-- the finds -/
theorem WAt.setFinds (h : WAt H W x m n) {ws : List V} {rs : List (List V)} (hw : Paired (TpV H) ws rs) : WAt (upd H m.g (.lst ws)) W { x with gs := rs } m n := by
  obtain ⟨ws0, hb1, _⟩ := h.hg
  have k := kp_upd (o := .lst ws) hb1 (fun xs z => nomatch z)
  obtain ⟨a1, a2, a3, a4, a5, a6, a7, b2, b3, b4, b5, b6, b7, c3, c4, c5, c6, c7, d4, d5, d6, d7, e5, e6, e7, f6, f7, g1, g2, g3⟩ := nd_ne h.nd
  obtain ⟨es, he, hl⟩ := h.hev
  obtain ⟨ls, hli, hl2⟩ := h.hli
  exact ⟨(upd_ne a3).trans h.d, k.file h.hp, (upd_ne b3).trans h.hs, paired_mem h.hsa fun c _ hc z => (upd_ne (d6 c hc).symm).trans z, (upd_ne c3).trans h.hf, paired_mem h.hfa fun c _ hc z => z.kp k (upd_ne (d7 c hc).symm),
    ⟨ws, upd_same, Paired.mapP hw fun _ _ z => k.tp z⟩, ⟨es, (upd_ne d4.symm).trans he, hl⟩, ⟨ls, (upd_ne d5.symm).trans hli, hl2⟩, h.nd⟩
/-- an event more -/
theorem WAt.setEvents (h : WAt H W x m n) {es : List V} {l : Nat} (hl : es.length ≤ l) (hn : n ≤ l) : WAt (upd H m.ev (.lst es)) W x m l := by
  obtain ⟨es0, hb1, _⟩ := h.hev
  have k := kp_upd (o := .lst es) hb1 (fun xs z => nomatch z)
  obtain ⟨a1, a2, a3, a4, a5, a6, a7, b2, b3, b4, b5, b6, b7, c3, c4, c5, c6, c7, d4, d5, d6, d7, e5, e6, e7, f6, f7, g1, g2, g3⟩ := nd_ne h.nd
  obtain ⟨ls, hli, hl2⟩ := h.hli
  exact ⟨(upd_ne a4).trans h.d, k.file h.hp, (upd_ne b4).trans h.hs, paired_mem h.hsa fun c _ hc z => (upd_ne (e6 c hc).symm).trans z, (upd_ne c4).trans h.hf, paired_mem h.hfa fun c _ hc z => z.kp k (upd_ne (e7 c hc).symm),
    h.hg.kp k (upd_ne d4), ⟨es, upd_same, hl⟩, ⟨ls, (upd_ne e5.symm).trans hli, Nat.le_trans hl2 hn⟩, h.nd⟩
/-- a liar more -/
theorem WAt.setLiars (h : WAt H W x m n) {ls : List Int} {l : Nat} (hl : ls.length ≤ l) (hn : n ≤ l) : WAt (upd H m.li (.lst (ls.map V.int))) W x m l := by
  obtain ⟨ls0, hb1, _⟩ := h.hli
  have k := kp_upd (o := .lst (ls.map V.int)) hb1 (fun xs z => nomatch z)
  obtain ⟨a1, a2, a3, a4, a5, a6, a7, b2, b3, b4, b5, b6, b7, c3, c4, c5, c6, c7, d4, d5, d6, d7, e5, e6, e7, f6, f7, g1, g2, g3⟩ := nd_ne h.nd
  obtain ⟨es, he, hl2⟩ := h.hev
  exact ⟨(upd_ne a5).trans h.d, k.file h.hp, (upd_ne b5).trans h.hs, paired_mem h.hsa fun c _ hc z => (upd_ne (f6 c hc).symm).trans z, (upd_ne c5).trans h.hf, paired_mem h.hfa fun c _ hc z => z.kp k (upd_ne (f7 c hc).symm),
    h.hg.kp k (upd_ne d5), ⟨es, (upd_ne e5).trans he, Nat.le_trans hl2 hn⟩, ⟨ls, upd_same, hl⟩, h.nd⟩
end
end K1
end
section
set_option Elab.async false
set_option linter.all false
set_option maxRecDepth 100000
set_option maxHeartbeats 2000000
namespace K1
open PySem PyProof.Rows L2
section
variable {X : Cx}
theorem ixL (K : PySem.W.Frag) (h : X.K = K := by rfl) : IxR X (rIxL K) := h ▸ ix_list
end
section
variable {P : Program} {w : World} {K : PySem.W.Frag} {mg : Str → Option Value} {base : Heap}
def spCell (K : PySem.W.Frag) : Sp := fun vs H Q _ => ∃ (a : Addr) (ns : List Int) (k : Nat), vs = [.ref a, .int k] ∧ SqL K H a (ns.map V.int) ∧ ∀ z : Int, Q (.int z) H
theorem scCell : FnScope ["_law_script", "_law_k"] ["_law_script", "_law_k"] (defScope sCell) := ⟨rfl, rfl, rfl, by decide +kernel, rfl, by decide +kernel, by decide +kernel⟩
theorem ok_cell {f : Addr} {fd : FuncData} (D : DefAt K mg "_law_cell" sCell ["_law_script", "_law_k"] f fd) (B : Blt mg) : FnOk P w K mg base CX0 1 f fd ["_law_script", "_law_k"] (spCell K) := by
  refine D.F.ok scCell (fun vs H Q E h => ?_) (fun cdv A outer s H vs Q E hr h => ?_)
  · obtain ⟨a, ns, k, rfl, _⟩ := h
    rfl
  · obtain ⟨a, ns, k, rfl, hs, q⟩ := h
    refine ⟨_, (pss_cons (ps_if (pt_cmpR op_lt (pv 1) (pe_callB (lenK K) (by rfl) B.len b_len (pa_cons (pv 0) pa_nil)) (nomark _)) (pss_one (ps_ret (pe_ix (ixL K) (pv 0) (pv 1) (fun _ _ => rfl)))) pss_nil)
      (pss_one (ps_ret pe_int))), ?_⟩
    refine ⟨_, rfl, _, rfl, _, _, rfl, .inl hs, _, _, rfl, rfl, _, rfl, ?_⟩
    rw [List.length_map]
    by_cases hk : k < ns.length
    · refine iteY (decide_eq_true (by omega)) ?_
      have e : (ns.map V.int)[k]? = some (V.int ns[k]) := by rw [List.getElem?_map, List.getElem?_eq_getElem hk]; rfl
      exact ⟨_, rfl, _, rfl, a, _, k, _, rfl, rfl, hs, atI_nat e, q _⟩
    · refine iteN (decide_eq_false (by omega)) ?_
      exact q 0
def spDraws : Sp := fun vs H Q _ => ∃ (c : Int) (n : Nat), vs = [.int c, .int n] ∧ n ≤ 20 ∧ ∀ l H' (ds : List Int), Same H H' → H l = none → H' l = some (.lst (ds.map V.int)) → ds.length = n → (∀ d ∈ ds, 0 ≤ d) → Q (.ref l) H'
theorem scDraws : FnScope ["_law_cell_here", "_law_count", "_law_found", "_law_is_wide", "_law_k", "_law_mixed"] ["_law_cell_here", "_law_count"] (defScope sDraws) := ⟨rfl, rfl, rfl, by decide +kernel, rfl, by decide +kernel, by decide +kernel⟩
theorem ok_draws {f : Addr} {fd : FuncData} (D : DefAt K mg "_law_draws" sDraws ["_law_cell_here", "_law_count"] f fd) (B : Blt mg) : FnOk P w K mg base CX0 1 f fd ["_law_cell_here", "_law_count"] spDraws := by
  refine D.F.ok scDraws (fun vs H Q E h => ?_) (fun cdv A outer s H vs Q E hr h => ?_)
  · obtain ⟨c, n, rfl, _⟩ := h
    rfl
  · obtain ⟨c, n, rfl, hn, q⟩ := h
    have nd := scDraws.nd
    have hu := hu_of hr
    refine ⟨_, (pss_cons (ps_set (i := 2) nd rfl (Or.inl rfl) (pe_lst pa_nil))
      (pss_cons (ps_set (i := 3) nd rfl (Or.inl rfl) (pe_cmpR op_ge (pv 0) (pe_op op_pow pe_int pe_int) (nomark _)))
      (pss_cons (ps_for PassesOwn.never rfl (pi_range1 rfl B.range (pa_cons (pv 1) pa_nil)) (pg_name (i := 4) nd rfl (Or.inl rfl)) (pss_one (ps_if (pt_val (pv 3)) (pss_cons (ps_expr (pe_bm PySem.F.plainAttrs_list PySem.F.slot_list_append PySem.F.type_list_append mt_append (pv 2) (pa_cons (pe_op op_mod (pe_callTy call_int1 (by rfl) B.int b_int (pa_cons (pv 0) pa_nil)) pe_int) pa_nil)))
      (pss_one (ps_set (i := 0) nd rfl (Or.inl rfl) (pe_op op_fdiv (pv 0) pe_int)))) (pss_cons (ps_set (i := 5) nd rfl (Or.inl rfl) (pe_op op_mod (pe_callTy call_int1 (by rfl) B.int b_int (pa_cons (pe_op op_add (pe_op op_mul (pv 0) pe_int) (pe_op op_mul (pv 4) pe_int)) pa_nil)) pe_int))
      (pss_one (ps_expr (pe_bm PySem.F.plainAttrs_list PySem.F.slot_list_append PySem.F.type_list_append mt_append (pv 2) (pa_cons (pe_op op_mod (pe_callTy call_int1 (by rfl) B.int b_int (pa_cons (pe_op op_add (pe_op op_add (pe_op op_mul (pv 5) (pv 5)) (pe_op op_mul (pv 0) pe_int)) (pv 4)) pa_nil)) pe_int) pa_nil))))))))
      (pss_one (ps_ret (pv 2)))))), ?_⟩
    refine ⟨(by show 0 ≤ sizeLine; decide), fun l hl => ?_⟩
    refine ⟨_, rfl, _, _, rfl, rfl, ⟨by decide, by decide, by decide⟩, _, _, rfl, rfl, ?_⟩
    refine ⟨_, rfl, n, rfl, by omega, by omega, ?_⟩
    rw [Int.toNat_natCast]
    refine for_range (fun i σ H3 => ∃ (c' : Int) (k mx : Option V) (ds : List Int) (b : Bool), σ = [some (.int c'), some (.int n), some (.ref l), some (.bl b), k, mx] ∧ H3 = upd H l (.lst (ds.map V.int)) ∧ ds.length = i ∧ ∀ d ∈ ds, 0 ≤ d)
      ⟨c, none, none, [], _, rfl, rfl, rfl, fun d hd => absurd hd (by simp)⟩ ?_ ?_
    · rintro i σ H3 hi ⟨c', k, mx, ds, b, rfl, rfl, hlen, hpos⟩
      have sz : (ds.map V.int).length < sizeLine := by
        rw [List.length_map]
        exact small1000 (by omega)
      have app : ∀ d : Int, upd (upd H l (.lst (ds.map V.int))) l (.lst (ds.map V.int ++ [.int d])) = upd H l (.lst ((ds ++ [d]).map V.int)) := fun d => by
        rw [upd_upd, List.map_append]
        rfl
      refine ⟨_, rfl, _, rfl, ?_⟩
      cases b with
      | true =>
        refine iteT ?_
        refine ⟨_, rfl, .inl ⟨rfl, _, SqL.of upd_same⟩, _, rfl, .inl ⟨_, rfl, _, _, rfl, rfl, (by show (0 : Int) < _; decide), l, _, _, rfl, rfl, upd_same, sz, ?_⟩⟩
        refine ⟨_, rfl, _, _, rfl, rfl, ⟨by decide, by decide⟩, _, _, mx, ds ++ [c' % 1009], true, rfl, app _, by simp [hlen], fun d hd => ?_⟩
        rcases List.mem_append.mp hd with h | h
        · exact hpos d h
        · rw [List.mem_singleton.mp h]
          exact Int.emod_nonneg _ (by decide)
      | false =>
        refine iteF ?_
        refine ⟨_, rfl, _, _, rfl, rfl, .inr ⟨by decide, by decide⟩, _, rfl, _, _, rfl, rfl, .inr ⟨by decide, by decide⟩, _, _, rfl, rfl, .inl ⟨_, rfl, _, _, rfl, rfl, (by show (0 : Int) < _; decide), ?_⟩⟩
        have mb : ∀ z : Int, 0 ≤ z % 2147483647 ∧ z % 2147483647 < 2147483647 := fun z => ⟨Int.emod_nonneg _ (by decide), Int.emod_lt_of_pos _ (by decide)⟩
        refine ⟨_, rfl, .inl ⟨rfl, _, SqL.of upd_same⟩, _, rfl, _, rfl, _, _, rfl, rfl, .inl ⟨Int.lt_of_lt_of_le (by decide) (mb _).1, Int.lt_trans (mb _).2 (by decide)⟩, _, rfl, _, _, rfl, rfl, .inr ⟨by decide, by decide⟩, _, _, rfl, rfl, _, rfl, _, _, rfl, rfl,
          .inl ⟨_, rfl, _, _, rfl, rfl, (by show (0 : Int) < _; decide), l, _, _, rfl, rfl, upd_same, sz, ?_⟩⟩
        refine ⟨_, _, _, ds ++ [_], false, rfl, app _, by simp [hlen], fun d hd => ?_⟩
        rcases List.mem_append.mp hd with h | h
        · exact hpos d h
        · rw [List.mem_singleton.mp h]
          exact Int.emod_nonneg _ (by decide)
    · rintro σ H3 ⟨c', k, mx, ds, b, rfl, rfl, hlen, hpos⟩
      exact ⟨_, rfl, q l _ ds (fun x o z => upd_get z hl) hl upd_same hlen hpos⟩
end
end K1
end
section
set_option Elab.async false
set_option linter.all false
set_option maxRecDepth 100000
set_option maxHeartbeats 2000000
namespace K1
open PySem PyProof.Rows L2
section
variable {K : PySem.W.Frag}
/-- [te for x in xs], xs a list; each item built anew -/
theorem lcBL {A B : Type} {R : V → A → Prop} {S : Hp → V → B → Prop} {te : TE} {vs : List Nat} {σ : L2.St} {H : Hp} {Qd : Hp → Prop} {i : Nat} {a D : Addr} {xs : List V} {as : List A} (f : A → B) (hS : ∀ H H' v b, Kp H H' → S H v b → S H' v b)
    (ha : H a = some (.lst xs)) (hz : xs.length ≤ 1000) (hp : Paired R xs as) (hD : H D = none) (hw : ∀ x : V, wipe ((wipe σ vs).set i (some x)) vs = wipe σ vs)
    (turn : ∀ (x : V) (y : A) (H3 : Hp), y ∈ as → R x y → Same H H3 → ∀ Z : VK, (∀ v' H4, Same H3 H4 → S H4 v' (f y) → Z v' H4) → te ((wipe σ vs).set i (some x)) H3 Z)
    (k : ∀ ys H', Same H H' → H' D = some (.lst ys) → Paired (S H') ys (as.map f) → Qd H') :
    ∃ W : Nat → Nat → Hp → Prop, (∃ m, W 0 m (upd H D (.lst []))) ∧ ∀ j m H', W j m H' →
      ((Itl K a).stop j H' ∧ Qd H') ∨ ((Itl K a).go j H' ∧ ∃ Nx : Hp → Prop, (∀ H', Nx H' → ∃ m', m' < m ∧ W (j + 1) m' H') ∧ ∀ x H'', (Itl K a).yld j H' x H'' → gName i x (wipe σ vs) H'' fun σ2 H2 => wipe σ2 vs = wipe σ vs ∧ tYes σ2 H2 fun b H3 =>
        if b = true then te σ2 H3 fun y H4 => ∃ acc, H4 D = some (.lst acc) ∧ acc.length < sizeLine ∧ Nx (upd H4 D (.lst (acc ++ [y]))) else Nx H3) := by
  have hl := paired_len hp
  refine lc_list (K := K) (a := a) (xs := xs) (Qd := Qd) (fun j H3 => Same H H3 ∧ ∃ ys, H3 D = some (.lst ys) ∧ Paired (S H3) ys ((as.take j).map f)) ⟨fun b o e => upd_get e hD, [], upd_same, .nil⟩ (fun j H3 _ ⟨e, _⟩ => SqL.of (e _ _ ha)) ?_ ?_
  · rintro j x H3 hx ⟨sm, ys, hy, hq⟩
    refine ⟨hw x, ?_⟩
    obtain ⟨y, hy0, hy1⟩ := Paired.getL hp hx
    have hj : j < xs.length := (List.getElem?_eq_some_iff.mp hx).1
    unfold tYes
    refine iteT ?_
    refine turn x y H3 (List.mem_of_getElem? hy0) hy1 sm _ fun v' H4 s4 hv => ⟨ys, s4 _ _ hy, ?_, ?_⟩
    · rw [paired_len hq, List.length_map, List.length_take]
      exact small1000 (by omega)
    · have ks : Kp H4 (upd H4 D (.lst (ys ++ [v']))) := kp_upd (s4 _ _ hy) fun zs z => nomatch z
      refine ⟨fun b o e => ?_, ys ++ [v'], upd_same, ?_⟩
      · rw [upd_ne (ne_of_none e hD)]
        exact s4 _ _ (sm _ _ e)
      · have et : (as.take (j + 1)).map f = (as.take j).map f ++ [f y] := by
          rw [List.take_add_one, hy0, List.map_append]
          rfl
        rw [et]
        exact paired_app (Paired.mapP hq fun _ _ z => hS _ _ _ _ ks (hS _ _ _ _ (Kt.same s4).kp z)) (.cons (hS _ _ _ _ ks hv) .nil)
  · rintro H3 ⟨sm, ys, hy, hq⟩
    rw [hl, List.take_length] at hq
    exact k ys H3 sm hy hq
/-- [te for x in t], each item a new list -/
theorem lcNew {tl : TE} {te : TE} {vs : List Nat} {σ : L2.St} {H : Hp} {Q : VK} {i : Nat} {a : Addr} {xs c : List V} (hs : ∀ R : VK, R (.ref a) H → tl σ H R) (ha : H a = some (.tup xs)) (hz : xs.length ≤ 1000)
    (hw : ∀ x : V, wipe ((wipe σ vs).set i (some x)) vs = wipe σ vs)
    (turn : ∀ (x : V) (H3 : Hp) (Z : VK), (∀ l, H3 l = none → Z (.ref l) (upd H3 l (.lst c))) → te ((wipe σ vs).set i (some x)) H3 Z)
    (k : ∀ D sa H', H D = none → Same H H' → H' D = some (.lst (sa.map V.ref)) → sa.length = xs.length → (D :: sa).Nodup → (∀ b ∈ sa, H b = none ∧ H' b = some (.lst c)) → Q (.ref D) H') : tLc (iTup K tl) (gName i) tYes te vs σ H Q := by
  refine hs _ ⟨a, rfl, ⟨_, SqT.of ha⟩, fun D hD => ?_⟩
  refine lc_tup (K := K) (a := a) (xs := xs) (fun j H3 => Same H H3 ∧ ∃ sa, H3 D = some (.lst (sa.map V.ref)) ∧ sa.length = j ∧ (D :: sa).Nodup ∧ ∀ b ∈ sa, H b = none ∧ H3 b = some (.lst c)) ⟨fun b o e => upd_get e hD, [], upd_same, rfl, by simp, fun b hb => absurd hb (by simp)⟩ (fun j H3 _ ⟨e, _⟩ => SqT.of (e _ _ ha)) ?_ ?_
  · rintro j x H3 hx ⟨sm, sa, hy, hl, hn, hc⟩
    refine ⟨hw x, ?_⟩
    have hj : j < xs.length := (List.getElem?_eq_some_iff.mp hx).1
    unfold tYes
    refine iteT ?_
    refine turn x H3 _ fun l hl3 => ⟨sa.map V.ref, upd_get hy hl3, ?_, ?_⟩
    · rw [List.length_map]
      exact small1000 (by omega)
    · have nD : l ≠ D := fun z => by
        rw [z, hy] at hl3
        cases hl3
      have nS : ∀ b ∈ sa, b ≠ l := fun b hb z => by
        rw [← z, (hc b hb).2] at hl3
        cases hl3
      have hlH : H l = none := by
        cases e : H l with
        | none => rfl
        | some o => rw [sm _ _ e] at hl3; cases hl3
      obtain ⟨n1, n2⟩ := List.nodup_cons.mp hn
      refine ⟨fun b o e => ?_, sa ++ [l], ?_, by rw [List.length_append, hl]; rfl, ?_, fun b hb => ?_⟩
      · rw [upd_ne (ne_of_none e hD)]
        exact upd_get (sm _ _ e) hl3
      · rw [upd_same, List.map_append]
        rfl
      · rw [List.nodup_cons, List.mem_append, List.mem_singleton, List.nodup_append]
        refine ⟨fun z => z.elim n1 fun e => nD e.symm, n2, by simp, fun x hx y hy e => ?_⟩
        rw [List.mem_singleton] at hy
        exact nS x hx (e.trans hy)
      · rcases List.mem_append.mp hb with hb | hb
        · obtain ⟨h1, h2⟩ := hc b hb
          refine ⟨h1, ?_⟩
          rw [upd_ne (fun z => n1 (by rw [← z]; exact hb))]
          exact upd_get h2 hl3
        · rw [List.mem_singleton.mp hb]
          refine ⟨hlH, ?_⟩
          rw [upd_ne nD]
          exact upd_same
  · rintro H3 ⟨sm, sa, hy, hl, hn, hc⟩
    exact k D sa H3 hD sm hy hl hn hc
end
theorem pick4 (t0 t1 t2 t3 : V) (z : Int) (h : 0 ≤ z) : ∃ v, atI [t0, t1, t2, t3] (z % 4) = some v ∧ (v = t0 ∨ v = t1 ∨ v = t2 ∨ v = t3) := by
  have h0 : 0 ≤ z % 4 := Int.emod_nonneg _ (by decide)
  have h4 : z % 4 < 4 := Int.emod_lt_of_pos _ (by decide)
  have c : z % 4 = 0 ∨ z % 4 = 1 ∨ z % 4 = 2 ∨ z % 4 = 3 := by omega
  rcases c with e | e | e | e <;> rw [e]
  · exact ⟨t0, rfl, .inl rfl⟩
  · exact ⟨t1, rfl, .inr (.inl rfl)⟩
  · exact ⟨t2, rfl, .inr (.inr (.inl rfl))⟩
  · exact ⟨t3, rfl, .inr (.inr (.inr rfl))⟩
theorem int_at {ds : List Int} {k : Nat} (h : k < ds.length) : atI (ds.map V.int) (k : Int) = some (V.int ds[k]) := atI_nat (by rw [List.getElem?_map, List.getElem?_eq_getElem h]; rfl)
section
variable {P : Program} {w : World} {K : PySem.W.Frag} {mg : Str → Option Value} {base : Heap}
def spLParties : Sp := fun vs H Q _ => ∃ (c : Int), vs = [.int c, .int 5] ∧ ∀ H' v rs, Same H H' → FileAt H' v rs → 1 ≤ rs.length → rs.length ≤ 5 → (∀ r ∈ rs, ∃ a b : Bool, r = [.bl a, .bl b]) → Q v H'
theorem scLParties : FnScope ["_law_cell_here", "_law_most", "_law_draws_here", "_law_rows", "_law_k"] ["_law_cell_here", "_law_most"] (defScope sParties) := ⟨rfl, rfl, rfl, by decide +kernel, rfl, by decide +kernel, by decide +kernel⟩
theorem ok_lparties {f fD : Addr} {fd fdD : FuncData} (D : DefAt K mg "_law_parties" sParties ["_law_cell_here", "_law_most"] f fd) (B : Blt mg) (DD : DefAt K mg "_law_draws" sDraws ["_law_cell_here", "_law_count"] fD fdD) (GD : FnOk P w K mg base CX0 1 fD fdD ["_law_cell_here", "_law_count"] spDraws) :
    FnOk P w K mg base CX0 2 f fd ["_law_cell_here", "_law_most"] spLParties := by
  refine D.F.ok scLParties (fun vs H Q E h => ?_) (fun cdv A outer s H vs Q E hr h => ?_)
  · obtain ⟨c, rfl, _⟩ := h
    rfl
  · obtain ⟨c, rfl, q⟩ := h
    have nd := scLParties.nd
    have hu := hu_of hr
    refine ⟨_, (pss_cons (ps_set (i := 2) nd rfl (Or.inr rfl) (pe_call GD hr (by rfl) DD.g DD.k DD.b .nil pass0 (pa_cons (pv 0) (pa_cons pe_int pa_nil))))
      (pss_cons (ps_set (i := 3) nd rfl (Or.inr rfl) (pe_lst (pa_cons (pe_tup (pa_cons pe_bl (pa_cons pe_bl pa_nil))) (pa_cons (pe_tup (pa_cons pe_bl (pa_cons pe_bl pa_nil))) (pa_cons (pe_tup (pa_cons pe_bl (pa_cons pe_bl pa_nil))) (pa_cons (pe_tup (pa_cons pe_bl (pa_cons pe_bl pa_nil))) pa_nil))))))
      (pss_one (ps_ret (pe_callTy (tupK K) (by rfl) B.tup b_tuple (pa_cons (pe_lc (own := [("_law_k", 4)]) rfl nd (pi_range1 rfl B.range (pa_cons (pe_op op_add pe_int (pe_op op_mod (pe_callTy call_int1 (by rfl) B.int b_int (pa_cons (pe_ix (ixL K) (pv 2) pe_int (fun _ _ => rfl)) pa_nil)) (pv 1))) pa_nil)) (blkOk_by (N := ["_law_cell_here", "_law_most", "_law_draws_here", "_law_rows", "_law_k"]) (sc := defScope sParties) (by decide +kernel)) (fun _ _ _ _ _ => pg_name (i := 4) nd rfl (Or.inl rfl)) (fun _ _ _ _ _ => pts_nil) (fun _ _ _ _ _ => (pe_ix (ixL K) (pv 3) (pe_op op_mod (pe_callTy call_int1 (by rfl) B.int b_int (pa_cons (pe_ix (ixL K) (pv 2) (pe_op op_add pe_int (pv 4)) (fun _ _ => rfl)) pa_nil)) pe_int) (fun _ _ => rfl)))) pa_nil)))))), ?_⟩
    refine ⟨_, rfl, c, 10, rfl, by decide, fun l H1 ds s1 hl hl1 hlen hpos => ?_⟩
    refine ⟨(by show 2 ≤ sizeLine; decide), fun t0 h0 => ⟨(by show 2 ≤ sizeLine; decide), fun t1 h1 => ⟨(by show 2 ≤ sizeLine; decide), fun t2 h2 => ⟨(by show 2 ≤ sizeLine; decide), fun t3 h3 => ⟨(by show 4 ≤ sizeLine; decide), fun r hr4 => ?_⟩⟩⟩⟩⟩
    have f0 : (0 : Nat) < ds.length := by omega
    have s4 : Same H1 (upd (upd (upd (upd H1 t0 (.tup [.bl true, .bl false])) t1 (.tup [.bl false, .bl false])) t2 (.tup [.bl false, .bl true])) t3 (.tup [.bl true, .bl true])) := fun x o z => upd_get (upd_get (upd_get (upd_get z h0) h1) h2) h3
    have g3 := upd_same (H := upd (upd (upd H1 t0 (.tup [.bl true, .bl false])) t1 (.tup [.bl false, .bl false])) t2 (.tup [.bl false, .bl true])) (a := t3) (o := .tup [.bl true, .bl true])
    have g2 := upd_get (u := .tup [.bl true, .bl true]) (upd_same (H := upd (upd H1 t0 (.tup [.bl true, .bl false])) t1 (.tup [.bl false, .bl false])) (a := t2) (o := .tup [.bl false, .bl true])) h3
    have g1 := upd_get (u := .tup [.bl true, .bl true]) (upd_get (u := .tup [.bl false, .bl true]) (upd_same (H := upd H1 t0 (.tup [.bl true, .bl false])) (a := t1) (o := .tup [.bl false, .bl false])) h2) h3
    have g0 := upd_get (u := .tup [.bl true, .bl true]) (upd_get (u := .tup [.bl false, .bl true]) (upd_get (u := .tup [.bl false, .bl false]) (upd_same (H := H1) (a := t0) (o := .tup [.bl true, .bl false])) h1) h2) h3
    generalize upd (upd (upd (upd H1 t0 (.tup [.bl true, .bl false])) t1 (.tup [.bl false, .bl false])) t2 (.tup [.bl false, .bl true])) t3 (.tup [.bl true, .bl true]) = H4 at *
    have s5 : Same H4 (upd H4 r (.lst [.ref t0, .ref t1, .ref t2, .ref t3])) := fun x o z => upd_get z hr4
    have hr5 : (upd H4 r (.lst [.ref t0, .ref t1, .ref t2, .ref t3])) r = some (.lst [.ref t0, .ref t1, .ref t2, .ref t3]) := upd_same
    generalize upd H4 r (.lst [.ref t0, .ref t1, .ref t2, .ref t3]) = H5 at *
    have hl5 := s5 _ _ (s4 _ _ hl1)
    have k5 : ∀ v, (v = V.ref t0 ∨ v = V.ref t1 ∨ v = V.ref t2 ∨ v = V.ref t3) → ∃ rw, TpV H5 v rw ∧ ∃ a b : Bool, rw = [.bl a, .bl b] := by
      rintro v (rfl | rfl | rfl | rfl)
      · exact ⟨_, ⟨_, rfl, s5 _ _ g0⟩, _, _, rfl⟩
      · exact ⟨_, ⟨_, rfl, s5 _ _ g1⟩, _, _, rfl⟩
      · exact ⟨_, ⟨_, rfl, s5 _ _ g2⟩, _, _, rfl⟩
      · exact ⟨_, ⟨_, rfl, s5 _ _ g3⟩, _, _, rfl⟩
    have d0 := hpos _ (List.getElem_mem f0)
    have e1 : 0 ≤ ds[0] % 5 := Int.emod_nonneg _ (by decide)
    have e2 : ds[0] % 5 < 5 := Int.emod_lt_of_pos _ (by decide)
    refine ⟨_, rfl, l, _, 0, _, rfl, rfl, SqL.of hl5, int_at f0, .inl ⟨_, rfl, _, rfl, _, _, rfl, rfl, (by show (0 : Int) < 5; decide), _, _, rfl, rfl, _, rfl, by omega, by omega, fun D hD => ?_⟩⟩
    refine lc_range (fun i H6 => ∃ ys rs, H6 = upd H5 D (.lst ys) ∧ Paired (TpV H5) ys rs ∧ rs.length = i ∧ ∀ r ∈ rs, ∃ a b : Bool, r = [.bl a, .bl b]) ⟨[], [], rfl, .nil, rfl, fun r hr => absurd hr (by simp)⟩ ?_ ?_
    · rintro i H6 hi ⟨ys, rs, rfl, hq, hrl, hb⟩
      refine ⟨by rfl, ?_⟩
      unfold tYes
      refine iteT ?_
      have fi : 1 + i < ds.length := by omega
      obtain ⟨v, hv, hc⟩ := pick4 (.ref t0) (.ref t1) (.ref t2) (.ref t3) ds[1 + i] (hpos _ (List.getElem_mem fi))
      obtain ⟨rw, hrw, hbb⟩ := k5 v hc
      have ei : (1 : Int) + (0 + (i : Int)) = ((1 + i : Nat) : Int) := by omega
      refine ⟨_, rfl, _, rfl, _, rfl, _, _, rfl, rfl, l, _, _, _, rfl, rfl, SqL.of (upd_get hl5 hD), (by rw [ei]; exact int_at fi), .inl ⟨_, rfl, _, _, rfl, rfl, (by show (0 : Int) < 4; decide), r, _, _, _, rfl, rfl, SqL.of (upd_get hr5 hD), hv, ?_⟩⟩
      refine ⟨ys, upd_same, ?_, ys ++ [v], rs ++ [rw], by rw [upd_upd], paired_app hq (.cons hrw .nil), by rw [List.length_append, hrl]; rfl, fun z hz => ?_⟩
      · rw [paired_len hq]
        exact small1000 (by omega)
      · rcases List.mem_append.mp hz with hz | hz
        · exact hb z hz
        · rw [List.mem_singleton.mp hz]
          exact hbb
    · rintro H6 ⟨ys, rs, rfl, hq, hrl, hb⟩
      refine ⟨D, ys, rfl, .inl ⟨SqL.of upd_same, fun t ht => ?_⟩⟩
      have s7 : Same H5 (upd (upd H5 D (.lst ys)) t (.tup ys)) := fun x o z => upd_get (upd_get z hD) ht
      exact q _ _ rs (fun x o z => s7 _ _ (s5 _ _ (s4 _ _ (s1 _ _ z)))) ⟨ys, ⟨t, rfl, upd_same⟩, Paired.mapP hq fun _ _ z => (Kt.same s7).kp.tp z⟩ (by omega) (by omega) hb
end
end K1
end
section
set_option Elab.async false
set_option linter.all false
set_option maxRecDepth 100000
set_option maxHeartbeats 2000000
namespace K1
open PySem PyProof.Rows L2
/-- what a deed leaves: all but the world's own places -/
def Kw (W : Addr) (m : Wm) (H H' : Hp) : Prop := ∀ b o, H b = some o → b ∉ muts W m → H' b = some o
theorem Kw.refl {W : Addr} {m : Wm} {H : Hp} : Kw W m H H := fun _ _ h _ => h
theorem Kw.trans {W : Addr} {m : Wm} {H H1 H2 : Hp} (a : Kw W m H H1) (b : Kw W m H1 H2) : Kw W m H H2 := fun c o h n => b c o (a c o h n) n
theorem Kw.same {W : Addr} {m : Wm} {H H' : Hp} (s : Same H H') : Kw W m H H' := fun b o h _ => s b o h
theorem Kw.upd {W : Addr} {m : Wm} {H : Hp} {a : Addr} {o : HO} (h : a ∈ muts W m) : Kw W m H (upd H a o) := fun b u e n => (upd_ne fun z => n (by rw [z]; exact h)).trans e
theorem mW (W : Addr) (m : Wm) : W ∈ muts W m := List.mem_cons_self
theorem mEv (W : Addr) (m : Wm) : m.ev ∈ muts W m := by unfold muts; simp
theorem mLi (W : Addr) (m : Wm) : m.li ∈ muts W m := by unfold muts; simp
theorem mG (W : Addr) (m : Wm) : m.g ∈ muts W m := by unfold muts; simp
theorem mSa {W : Addr} {m : Wm} {a : Addr} {i : Nat} (h : m.sa[i]? = some a) : a ∈ muts W m := by
  have := List.mem_of_getElem? h
  unfold muts
  simp [this]
theorem mFa {W : Addr} {m : Wm} {a : Addr} {i : Nat} (h : m.fa[i]? = some a) : a ∈ muts W m := by
  have := List.mem_of_getElem? h
  unfold muts
  simp [this]
section
variable {P : Program} {w : World} {K : PySem.W.Frag} {mg : Str → Option Value} {base : Heap}
def rowC (n : Int) (d : Str) (k a o : Int) (b : Bool) : List V := [.int n, .str d, .int k, .int a, .int o, .bl b]
def spNoted : Sp := fun vs H Q _ => ∃ (W : Addr) (x : Wd) (m : Wm) (n : Nat) (g t : Nat) (k a : Int) (b : Bool) (rg rt : List (List V)), vs = [.ref W, .int g, .int t, .int k, .int a, .bl b] ∧ WAt H W x m n ∧ x.fs[g]? = some rg ∧ x.fs[t]? = some rt ∧ g ≠ t ∧ rg.length ≤ 500 ∧ rt.length ≤ 500 ∧
  ∀ H', Kw W m H H' → WAt H' W { x with last := x.last + 1, fs := (x.fs.set g (rg ++ [rowC (x.last + 1) "gave" k a t b])).set t (rt ++ [rowC (x.last + 1) "took" k a g b]) } m n → Q .non H'
theorem scNoted : FnScope ["_law_world_here", "_law_giver", "_law_taker", "_law_kind", "_law_amount", "_law_is_sealed"] ["_law_world_here", "_law_giver", "_law_taker", "_law_kind", "_law_amount", "_law_is_sealed"] (defScope sNoted) := ⟨rfl, rfl, rfl, by decide +kernel, rfl, by decide +kernel, by decide +kernel⟩
theorem ref_at {as : List Addr} {i : Nat} {a : Addr} (h : as[i]? = some a) : atI (as.map V.ref) (i : Int) = some (.ref a) := atI_nat (by rw [List.getElem?_map, h]; rfl)
theorem ok_noted {f : Addr} {fd : FuncData} (D : DefAt K mg "_law_noted" sNoted ["_law_world_here", "_law_giver", "_law_taker", "_law_kind", "_law_amount", "_law_is_sealed"] f fd) (B : Blt mg) :
    FnOk P w K mg base CX0 1 f fd ["_law_world_here", "_law_giver", "_law_taker", "_law_kind", "_law_amount", "_law_is_sealed"] spNoted := by
  refine D.F.ok scNoted (fun vs H Q E h => ?_) (fun cdv A outer s H vs Q E hr h => ?_)
  · obtain ⟨W, x, m, n, g, t, k, a, b, rg, rt, rfl, _⟩ := h
    rfl
  · obtain ⟨W, x, m, n, g, t, k, a, b, rg, rt, rfl, h0, hrg, hrt, hgt, lg, lt, q⟩ := h
    have nd := scNoted.nd
    have hu := hu_of hr
    refine ⟨_, (pss_cons (ps_dput hu (pv 0) pe_str (pe_op op_add (pe_dget hu (pv 0) pe_str (fun _ _ => rfl)) pe_int) rfl)
      (pss_cons (ps_expr (pe_bm PySem.F.plainAttrs_list PySem.F.slot_list_append PySem.F.type_list_append mt_append (pe_ix (ixL K) (pe_dget hu (pv 0) pe_str (fun _ _ => rfl)) (pv 1) (fun _ _ => rfl)) (pa_cons (pe_tup (pa_cons (pe_dget hu (pv 0) pe_str (fun _ _ => rfl)) (pa_cons pe_str (pa_cons (pv 3) (pa_cons (pv 4) (pa_cons (pv 2) (pa_cons (pv 5) pa_nil))))))) pa_nil)))
      (pss_one (ps_expr (pe_bm PySem.F.plainAttrs_list PySem.F.slot_list_append PySem.F.type_list_append mt_append (pe_ix (ixL K) (pe_dget hu (pv 0) pe_str (fun _ _ => rfl)) (pv 2) (fun _ _ => rfl)) (pa_cons (pe_tup (pa_cons (pe_dget hu (pv 0) pe_str (fun _ _ => rfl)) (pa_cons pe_str (pa_cons (pv 3) (pa_cons (pv 4) (pa_cons (pv 1) (pa_cons (pv 5) pa_nil))))))) pa_nil)))))), ?_⟩
    refine ⟨_, rfl, W, _, rfl, h0.lastG, _, _, rfl, rfl, _, rfl, W, _, rfl, h0.putLast _, ?_⟩
    have h1 := h0.setLast (x.last + 1)
    have w1 : Kw W m H (upd H W (.dK (wd { x with last := x.last + 1 } m))) := Kw.upd (mW W m)
    generalize upd H W (.dK (wd { x with last := x.last + 1 } m)) = H1 at *
    obtain ⟨ag, hag, wsg, hwg, hqg⟩ := Paired.get h1.hfa hrg
    refine ⟨_, rfl, W, _, rfl, h1.files, _, rfl, m.f, _, g, _, rfl, rfl, SqL.of h1.hf, ref_at hag, .inl ⟨rfl, _, SqL.of hwg⟩, _, rfl, W, _, rfl, h1.lastG, _, rfl, _, rfl, _, rfl, _, rfl, (by show 6 ≤ sizeLine; decide), fun t1 ht1 => ?_⟩
    have s1 : Same H1 (upd H1 t1 (.tup (rowC (x.last + 1) "gave" k a t b))) := fun c o z => upd_get z ht1
    have ht1' : (upd H1 t1 (.tup (rowC (x.last + 1) "gave" k a t b))) t1 = some (.tup (rowC (x.last + 1) "gave" k a t b)) := upd_same
    refine ⟨ag, wsg, _, rfl, rfl, s1 _ _ hwg, small1000 (by rw [paired_len hqg]; omega), ?_⟩
    have h2 := h1.same s1
    have hwg2 := s1 _ _ hwg
    have kq := (Kt.same s1).kp
    have h3 := h2.setFile hag (paired_app (Paired.mapP hqg fun _ _ z => kq.tp z) (.cons ⟨t1, rfl, ht1'⟩ .nil))
    have w3 : Kw W m _ (upd (upd H1 t1 (.tup (rowC (x.last + 1) "gave" k a t b))) ag (.lst (wsg ++ [.ref t1]))) := Kw.upd (mFa hag)
    have hrt3 : (x.fs.set g (rg ++ [rowC (x.last + 1) "gave" k a t b]))[t]? = some rt := by
      rw [List.getElem?_set_ne hgt]
      exact hrt
    obtain ⟨at_, hat, wst, hwt, hqt⟩ := Paired.get h3.hfa hrt3
    refine ⟨_, rfl, W, _, rfl, h3.files, _, rfl, m.f, _, t, _, rfl, rfl, SqL.of h3.hf, ref_at hat, .inl ⟨rfl, _, SqL.of hwt⟩, _, rfl, W, _, rfl, h3.lastG, _, rfl, _, rfl, _, rfl, _, rfl, (by show 6 ≤ sizeLine; decide), fun t2 ht2 => ?_⟩
    have s3 : Same _ (upd _ t2 (.tup (rowC (x.last + 1) "took" k a g b))) := fun c o z => upd_get z ht2
    refine ⟨at_, wst, _, rfl, rfl, s3 _ _ hwt, small1000 (by rw [paired_len hqt]; omega), ?_⟩
    have h4 := h3.same s3
    have kq3 := (Kt.same s3).kp
    have h5 := h4.setFile hat (paired_app (Paired.mapP hqt fun _ _ z => kq3.tp z) (.cons ⟨t2, rfl, upd_same⟩ .nil))
    exact q _ (((w1.trans (Kw.same s1)).trans w3).trans ((Kw.same s3).trans (Kw.upd (mFa hat)))) h5
end
end K1
end
section
set_option Elab.async false
set_option linter.all false
set_option maxRecDepth 100000
set_option maxHeartbeats 2000000
namespace K1
open PySem PyProof.Rows L2
/-! the world in plain Lean: what every deed keeps -/
theorem asc_pair {rs : List (List V)} : Asc rs ↔ rs.Pairwise fun a b => hdI a < hdI b := by
  constructor
  · intro h
    rw [List.pairwise_iff_getElem]
    intro i j hi hj hij
    induction j with
    | zero => omega
    | succ j ih =>
      have h1 := h j rs[j] rs[j + 1] (List.getElem?_eq_getElem (by omega)) (List.getElem?_eq_getElem hj)
      by_cases e : i = j
      · subst e
        exact h1
      · exact Int.lt_trans (ih (by omega) (by omega)) h1
  · intro h i r r' h1 h2
    obtain ⟨a1, e1⟩ := List.getElem?_eq_some_iff.mp h1
    obtain ⟨a2, e2⟩ := List.getElem?_eq_some_iff.mp h2
    rw [← e1, ← e2]
    exact (List.pairwise_iff_getElem.mp h) i (i + 1) a1 a2 (Nat.lt_succ_self i)
theorem asc_app {rs : List (List V)} {r : List V} (h : Asc rs) (l : ∀ r' ∈ rs, hdI r' < hdI r) : Asc (rs ++ [r]) := by
  rw [asc_pair] at h ⊢
  rw [List.pairwise_append]
  refine ⟨h, by simp, fun a ha b hb => ?_⟩
  rw [List.mem_singleton.mp hb]
  exact l a ha
theorem asc_sub {rs rs' : List (List V)} (h : Asc rs) (s : rs'.Sublist rs) : Asc rs' := asc_pair.mpr ((asc_pair.mp h).sublist s)
theorem flat_set {α : Type} : ∀ {fs : List (List α)} {j : Nat} {rs rs' : List α}, fs[j]? = some rs → (fs.set j rs').flatten.length + rs.length = fs.flatten.length + rs'.length
  | [], _, _, _, h => by simp at h
  | f :: fs, 0, rs, rs', h => by
    simp at h
    subst h
    simp only [List.set_cons_zero, List.flatten_cons, List.length_append]
    omega
  | f :: fs, j + 1, rs, rs', h => by
    simp at h
    have ih := flat_set (rs' := rs') h
    simp only [List.set_cons_succ, List.flatten_cons, List.length_append]
    omega
structure WOk (B : Int) (x : Wd) : Prop where
  k1 : 1 ≤ x.k
  k2 : x.k ≤ 2
  p1 : 1 ≤ x.ps.length
  p5 : x.ps.length ≤ 5
  par : ∀ r ∈ x.ps, ∃ a b : Bool, r = [.bl a, .bl b]
  ls : x.st.length = x.ps.length
  lf : x.fs.length = x.ps.length
  b0 : 60 ≤ B
  b1 : B ≤ 1000000000000
  stk : ∀ (j : Nat) (ns : List Int), x.st[j]? = some ns → (ns.length : Int) = x.k ∧ ∀ z ∈ ns, 0 ≤ z ∧ z ≤ B
  l0 : 0 ≤ x.last
  fl : ∀ (j : Nat) (rs : List (List V)), x.fs[j]? = some rs → (∀ r ∈ rs, okEntry x.k x.ps.length j r ∧ hdI r ≤ x.last) ∧ Asc rs
  gr : ∀ r ∈ x.gs, okFind x.k x.ps.length r ∧ hdI r ≤ x.last
  ga : Asc x.gs
  ap : ∀ r ∈ x.gs, ∀ (j : Nat) (rs : List (List V)), x.fs[j]? = some rs → ∀ r' ∈ rs, hdI r ≠ hdI r'
  many : (x.fs.flatten.length : Int) ≤ 2 * x.last
  manyG : (x.gs.length : Int) ≤ x.last
section
variable {B : Int} {x : Wd}
theorem WOk.bump (h : WOk B x) : WOk B { x with last := x.last + 1 } := by
  have := h.l0
  have := h.many
  have := h.manyG
  refine ⟨h.k1, h.k2, h.p1, h.p5, h.par, h.ls, h.lf, h.b0, h.b1, h.stk, by show 0 ≤ x.last + 1; omega, fun j rs e => ⟨fun r hr => ⟨((h.fl j rs e).1 r hr).1, ?_⟩, (h.fl j rs e).2⟩, fun r hr => ⟨(h.gr r hr).1, ?_⟩, h.ga, h.ap, ?_, ?_⟩
  · have := ((h.fl j rs e).1 r hr).2
    show hdI r ≤ x.last + 1
    omega
  · have := (h.gr r hr).2
    show hdI r ≤ x.last + 1
    omega
  · show (x.fs.flatten.length : Int) ≤ 2 * (x.last + 1)
    omega
  · show (x.gs.length : Int) ≤ x.last + 1
    omega
theorem WOk.addRow (h : WOk B x) {j : Nat} {rs : List (List V)} {r : List V} (e : x.fs[j]? = some rs) (o : okEntry x.k x.ps.length j r) (n : hdI r = x.last) (l : ∀ r' ∈ rs, hdI r' < x.last) (lg : ∀ r' ∈ x.gs, hdI r' < x.last)
    (m : (x.fs.flatten.length : Int) + 1 ≤ 2 * x.last) : WOk B { x with fs := x.fs.set j (rs ++ [r]) } := by
  have hj : j < x.fs.length := (List.getElem?_eq_some_iff.mp e).1
  refine ⟨h.k1, h.k2, h.p1, h.p5, h.par, h.ls, by show (x.fs.set j _).length = _; rw [List.length_set]; exact h.lf, h.b0, h.b1, h.stk, h.l0, fun i rs' e' => ?_, h.gr, h.ga, fun r1 hr1 i rs' e' r2 hr2 => ?_, ?_, h.manyG⟩
  · have e' : (x.fs.set j (rs ++ [r]))[i]? = some rs' := e'
    by_cases c : j = i
    · subst c
      rw [List.getElem?_set_self hj] at e'
      cases e'
      refine ⟨fun r' hr' => ?_, asc_app (h.fl j rs e).2 fun r' hr' => by rw [n]; exact l r' hr'⟩
      rcases List.mem_append.mp hr' with hr' | hr'
      · exact (h.fl j rs e).1 r' hr'
      · rw [List.mem_singleton.mp hr']
        exact ⟨o, by show hdI r ≤ x.last; omega⟩
    · rw [List.getElem?_set_ne c] at e'
      exact h.fl i rs' e'
  · have e' : (x.fs.set j (rs ++ [r]))[i]? = some rs' := e'
    by_cases c : j = i
    · subst c
      rw [List.getElem?_set_self hj] at e'
      cases e'
      rcases List.mem_append.mp hr2 with hr2 | hr2
      · exact h.ap r1 hr1 j rs e r2 hr2
      · rw [List.mem_singleton.mp hr2]
        have := lg r1 hr1
        omega
    · rw [List.getElem?_set_ne c] at e'
      exact h.ap r1 hr1 i rs' e' r2 hr2
  · have := flat_set (rs' := rs ++ [r]) e
    rw [List.length_append, List.length_singleton] at this
    show ((x.fs.set j (rs ++ [r])).flatten.length : Int) ≤ 2 * x.last
    omega
theorem WOk.one (h : WOk B x) {j : Nat} {rs : List (List V)} {r : List V} (e : x.fs[j]? = some rs) (o : okEntry x.k x.ps.length j r) (n : hdI r = x.last + 1) : WOk B { x with last := x.last + 1, fs := x.fs.set j (rs ++ [r]) } := by
  have hb := h.bump
  refine WOk.addRow (x := { x with last := x.last + 1 }) hb e o n (fun r' hr' => ?_) (fun r' hr' => ?_) ?_
  · have := ((h.fl j rs e).1 r' hr').2
    show hdI r' < x.last + 1
    omega
  · have := (h.gr r' hr').2
    show hdI r' < x.last + 1
    omega
  · have := h.many
    show (x.fs.flatten.length : Int) + 1 ≤ 2 * (x.last + 1)
    omega
theorem WOk.two (h : WOk B x) {j i : Nat} {rs rs' : List (List V)} {r r' : List V} (e : x.fs[j]? = some rs) (e' : x.fs[i]? = some rs') (hij : j ≠ i) (o : okEntry x.k x.ps.length j r) (o' : okEntry x.k x.ps.length i r') (n : hdI r = x.last + 1) (n' : hdI r' = x.last + 1) :
    WOk B { x with last := x.last + 1, fs := (x.fs.set j (rs ++ [r])).set i (rs' ++ [r']) } := by
  have h1 := h.one e o n
  have e2 : (x.fs.set j (rs ++ [r]))[i]? = some rs' := by rw [List.getElem?_set_ne hij]; exact e'
  refine WOk.addRow (x := { x with last := x.last + 1, fs := x.fs.set j (rs ++ [r]) }) h1 e2 o' n' (fun r1 hr1 => ?_) (fun r1 hr1 => ?_) ?_
  · have := ((h.fl i rs' e').1 r1 hr1).2
    show hdI r1 < x.last + 1
    omega
  · have := (h.gr r1 hr1).2
    show hdI r1 < x.last + 1
    omega
  · have := h.many
    have := flat_set (rs' := rs ++ [r]) e
    rw [List.length_append, List.length_singleton] at this
    show ((x.fs.set j (rs ++ [r])).flatten.length : Int) + 1 ≤ 2 * (x.last + 1)
    omega
theorem WOk.find (h : WOk B x) {r : List V} (o : okFind x.k x.ps.length r) (n : hdI r = x.last + 1) : WOk B { x with last := x.last + 1, gs := x.gs ++ [r] } := by
  have hb := h.bump
  refine ⟨h.k1, h.k2, h.p1, h.p5, h.par, h.ls, h.lf, h.b0, h.b1, h.stk, hb.l0, hb.fl, fun r' hr' => ?_, asc_app h.ga fun r' hr' => ?_, fun r1 hr1 i rs e r2 hr2 => ?_, hb.many, ?_⟩
  · rcases List.mem_append.mp hr' with hr' | hr'
    · exact hb.gr r' hr'
    · rw [List.mem_singleton.mp hr']
      exact ⟨o, by show hdI r ≤ x.last + 1; omega⟩
  · have := (h.gr r' hr').2
    omega
  · rcases List.mem_append.mp hr1 with hr1 | hr1
    · exact h.ap r1 hr1 i rs e r2 hr2
    · rw [List.mem_singleton.mp hr1]
      have := ((h.fl i rs e).1 r2 hr2).2
      omega
  · have := h.manyG
    show ((x.gs ++ [r]).length : Int) ≤ x.last + 1
    rw [List.length_append, List.length_singleton]
    omega
theorem WOk.omit (h : WOk B x) {j : Nat} {rs : List (List V)} (e : x.fs[j]? = some rs) (k : Nat) : WOk B { x with fs := x.fs.set j (rs.eraseIdx k) } := by
  have hj : j < x.fs.length := (List.getElem?_eq_some_iff.mp e).1
  have sub := List.eraseIdx_sublist rs k
  refine ⟨h.k1, h.k2, h.p1, h.p5, h.par, h.ls, by show (x.fs.set j _).length = _; rw [List.length_set]; exact h.lf, h.b0, h.b1, h.stk, h.l0, fun i rs' e' => ?_, h.gr, h.ga, fun r1 hr1 i rs' e' r2 hr2 => ?_, ?_, h.manyG⟩
  · have e' : (x.fs.set j (rs.eraseIdx k))[i]? = some rs' := e'
    by_cases c : j = i
    · subst c
      rw [List.getElem?_set_self hj] at e'
      cases e'
      exact ⟨fun r' hr' => (h.fl j rs e).1 r' (sub.subset hr'), asc_sub (h.fl j rs e).2 sub⟩
    · rw [List.getElem?_set_ne c] at e'
      exact h.fl i rs' e'
  · have e' : (x.fs.set j (rs.eraseIdx k))[i]? = some rs' := e'
    by_cases c : j = i
    · subst c
      rw [List.getElem?_set_self hj] at e'
      cases e'
      exact h.ap r1 hr1 j rs e r2 (sub.subset hr2)
    · rw [List.getElem?_set_ne c] at e'
      exact h.ap r1 hr1 i rs' e' r2 hr2
  · have := flat_set (rs' := rs.eraseIdx k) e
    have := sub.length_le
    have := h.many
    show ((x.fs.set j (rs.eraseIdx k)).flatten.length : Int) ≤ 2 * x.last
    omega
theorem WOk.stock (h : WOk B x) {B' : Int} (hB : B ≤ B') (hB' : B' ≤ 1000000000000) {j : Nat} {ns ns' : List Int} (e : x.st[j]? = some ns) (hl : ns'.length = ns.length) (hz : ∀ z ∈ ns', 0 ≤ z ∧ z ≤ B') : WOk B' { x with st := x.st.set j ns' } := by
  have hj : j < x.st.length := (List.getElem?_eq_some_iff.mp e).1
  have := h.b0
  refine ⟨h.k1, h.k2, h.p1, h.p5, h.par, by show (x.st.set j _).length = _; rw [List.length_set]; exact h.ls, h.lf, by omega, hB', fun i rs' e' => ?_, h.l0, h.fl, h.gr, h.ga, h.ap, h.many, h.manyG⟩
  have e' : (x.st.set j ns')[i]? = some rs' := e'
  by_cases c : j = i
  · subst c
    rw [List.getElem?_set_self hj] at e'
    cases e'
    exact ⟨by rw [hl]; exact (h.stk j ns e).1, hz⟩
  · rw [List.getElem?_set_ne c] at e'
    obtain ⟨h1, h2⟩ := h.stk i rs' e'
    exact ⟨h1, fun z hz => ⟨(h2 z hz).1, Int.le_trans (h2 z hz).2 hB⟩⟩
theorem WOk.mono (h : WOk B x) {B' : Int} (hB : B ≤ B') (hB' : B' ≤ 1000000000000) : WOk B' x := by
  have := h.b0
  exact ⟨h.k1, h.k2, h.p1, h.p5, h.par, h.ls, h.lf, by omega, hB', fun i rs e => ⟨(h.stk i rs e).1, fun z hz => ⟨((h.stk i rs e).2 z hz).1, Int.le_trans ((h.stk i rs e).2 z hz).2 hB⟩⟩, h.l0, h.fl, h.gr, h.ga, h.ap, h.many, h.manyG⟩
end
theorem wOk_start {k : Int} {ps : List (List V)} (k1 : 1 ≤ k) (k2 : k ≤ 2) (p1 : 1 ≤ ps.length) (p5 : ps.length ≤ 5) (par : ∀ r ∈ ps, ∃ a b : Bool, r = [.bl a, .bl b]) :
    WOk 60 ⟨k, ps, List.replicate ps.length (List.replicate k.toNat 0), List.replicate ps.length [], [], 0⟩ := by
  have e0 : (List.replicate ps.length ([] : List (List V))).flatten = [] := by simp
  refine ⟨k1, k2, p1, p5, par, by simp, by simp, by decide, by decide, fun j ns e => ?_, Int.le_refl 0, fun j rs e => ?_, fun r hr => absurd hr (by simp), fun i r r' h => absurd h (by simp), fun r hr => absurd hr (by simp), ?_, by simp⟩
  · have := List.mem_of_getElem? e
    rw [List.mem_replicate] at this
    rw [this.2]
    refine ⟨by show _ = k; rw [List.length_replicate]; omega, fun z hz => ?_⟩
    rw [List.mem_replicate] at hz
    rw [hz.2]
    decide
  · have := List.mem_of_getElem? e
    rw [List.mem_replicate] at this
    rw [this.2]
    exact ⟨fun r hr => absurd hr (by simp), fun i r r' h => absurd h (by simp)⟩
  · show ((List.replicate ps.length ([] : List (List V))).flatten.length : Int) ≤ 2 * 0
    rw [e0]
    decide
/-- the evidence of a world -/
def evOf (x : Wd) : Ev := ⟨x.k, x.ps, x.fs, x.gs⟩
theorem WOk.good {B : Int} {x : Wd} (h : WOk B x) (hl : x.last ≤ 100) : EvGood (evOf x) := by
  have m1 := h.many
  have m2 := h.manyG
  have k2 := h.k2
  have p5 := h.p5
  refine ⟨h.k1, by show x.k ≤ 3; omega, h.p1, by show x.ps.length ≤ 8; omega, h.par, h.lf, fun i rs e => ⟨?_, fun r hr => ((h.fl i rs e).1 r hr).1, (h.fl i rs e).2⟩, by show x.gs.length ≤ 200; omega, fun r hr => (h.gr r hr).1, h.ga, fun r hr hm => ?_, by show x.fs.flatten.length ≤ 400; omega⟩
  · have := flat_le (i := rs.length) (show x.fs[i]? = some rs from e)
    rw [List.length_append, List.take_length] at this
    omega
  · obtain ⟨r', hr', e⟩ := List.mem_map.mp hm
    obtain ⟨rs, h1, h2⟩ := List.mem_flatten.mp hr'
    obtain ⟨j, hj⟩ := List.getElem?_of_mem h1
    exact h.ap r hr j rs hj r' h2 e.symm
theorem pick_good {e : Ev} (p : Int → Bool) (g : EvGood e) : EvGood (pickBy p e) := by
  have fl' : (pickBy p e).files.flatten.Sublist e.files.flatten := by
    show (e.files.map fun rs => rs.filter fun r => p (hdI r)).flatten.Sublist e.files.flatten
    rw [← List.filter_flatten]
    exact List.filter_sublist
  refine ⟨g.k1, g.k3, g.p1, g.p8, g.par, by show (e.files.map _).length = _; rw [List.length_map]; exact g.len, fun i rs h => ?_, Nat.le_trans (List.length_filter_le _ _) g.gl, fun r hr => g.gr r (List.mem_filter.mp hr).1, asc_sub g.ga List.filter_sublist, fun r hr hm => ?_, Nat.le_trans fl'.length_le g.many⟩
  · have h : (e.files.map fun rs => rs.filter fun r => p (hdI r))[i]? = some rs := h
    rw [List.getElem?_map] at h
    cases e2 : e.files[i]? with
    | none => rw [e2] at h; cases h
    | some r0 =>
      rw [e2] at h
      have h3 : r0.filter (fun r => p (hdI r)) = rs := Option.some.inj h
      obtain ⟨g1, g2, g3⟩ := g.fl i r0 e2
      rw [← h3]
      exact ⟨Nat.le_trans (List.length_filter_le _ _) g1, fun r hr => g2 r (List.mem_filter.mp hr).1, asc_sub g3 List.filter_sublist⟩
  · refine g.apart r (List.mem_filter.mp hr).1 ?_
    obtain ⟨r', h1, h2⟩ := List.mem_map.mp hm
    exact List.mem_map.mpr ⟨r', fl'.subset h1, h2⟩
end K1
end
section
set_option Elab.async false
set_option linter.all false
set_option maxRecDepth 100000
set_option maxHeartbeats 2000000
namespace K1
open PySem PyProof.Rows L2
theorem wT {d e : Str} (h : d = e) : decide (V.str d = V.str e) = true := by rw [h]; exact decide_eq_true rfl
theorem wF {d e : Str} (h : ¬ d = e) : decide (V.str d = V.str e) = false := decide_eq_false fun z => h (V.str.inj z)
theorem ix_nat {α : Type} {xs : List α} {k : Nat} (h : k < xs.length) : ixN xs.length (k : Int) = some k := by
  unfold ixN
  rw [if_pos (by omega), if_pos (by omega), Int.toNat_natCast]
theorem int_at' {ns : List Int} {k : Nat} {z : Int} (h : ns[k]? = some z) : atI (ns.map V.int) (k : Int) = some (V.int z) := atI_nat (by rw [List.getElem?_map, h]; rfl)
theorem map_set_int (ns : List Int) (k : Nat) (z : Int) : (ns.map V.int).set k (.int z) = (ns.set k z).map V.int := (List.map_set ..).symm
theorem mem_set {ns : List Int} {k : Nat} {v z : Int} (h : z ∈ ns.set k v) : z ∈ ns ∨ z = v := List.mem_or_eq_of_mem_set h
/-- what a deed may ask -/
structure DeedOk (B : Int) (x : Wd) (p o k : Nat) (a : Int) : Prop where
  p : p < x.ps.length
  o : o < x.ps.length
  k : (k : Int) < x.k
  a1 : 1 ≤ a
  a2 : a ≤ B
theorem WOk.at_ {B : Int} {x : Wd} (h : WOk B x) {p k : Nat} (hp : p < x.ps.length) (hk : (k : Int) < x.k) : ∃ ns z, x.st[p]? = some ns ∧ ns[k]? = some z ∧ 0 ≤ z ∧ z ≤ B ∧ (∀ y ∈ ns, 0 ≤ y ∧ y ≤ B) := by
  have h1 : p < x.st.length := by rw [h.ls]; exact hp
  obtain ⟨h2, h3⟩ := h.stk p _ (List.getElem?_eq_getElem h1)
  have h4 : k < (x.st[p]).length := by omega
  refine ⟨_, _, List.getElem?_eq_getElem h1, List.getElem?_eq_getElem h4, ?_, ?_, h3⟩
  · exact (h3 _ (List.getElem_mem h4)).1
  · exact (h3 _ (List.getElem_mem h4)).2
theorem WOk.file {B : Int} {x : Wd} (h : WOk B x) {p : Nat} (hp : p < x.ps.length) (hl : x.last ≤ 100) : ∃ rs, x.fs[p]? = some rs ∧ rs.length ≤ 300 := by
  have h1 : p < x.fs.length := by rw [h.lf]; exact hp
  refine ⟨_, List.getElem?_eq_getElem h1, ?_⟩
  have := flat_le (i := (x.fs[p]).length) (List.getElem?_eq_getElem h1)
  have := h.many
  rw [List.length_append, List.take_length] at *
  omega
section
variable {P : Program} {w : World} {K : PySem.W.Frag} {mg : Str → Option Value} {base : Heap}
def spDid : Sp := fun vs H Q _ => ∃ (W : Addr) (x : Wd) (m : Wm) (n : Nat) (d : Str) (p o k : Nat) (a : Int) (b : Bool) (B : Int), vs = [.ref W, .str d, .int p, .int o, .int k, .int a, .bl b] ∧ WAt H W x m n ∧ n ≤ 500 ∧ WOk B x ∧ 2 * B ≤ 1000000000000 ∧ x.last ≤ 90 ∧ DeedOk B x p o k a ∧
  ∀ H' x' r, Kw W m H H' → WAt H' W x' m (n + 4) → WOk (2 * B) x' → x'.last ≤ x.last + 1 → x'.k = x.k → x'.ps = x.ps → Q (.bl r) H'
theorem scHonest : FnScope ["_law_world_here", "_law_word", "_law_party", "_law_other", "_law_kind", "_law_amount", "_law_is_sealed", "_law_stock"] ["_law_world_here", "_law_word", "_law_party", "_law_other", "_law_kind", "_law_amount", "_law_is_sealed"] (defScope sHonest) := ⟨rfl, rfl, rfl, by decide +kernel, rfl, by decide +kernel, by decide +kernel⟩
theorem ok_honest {f fN : Addr} {fd fdN : FuncData} (D : DefAt K mg "_law_honest" sHonest ["_law_world_here", "_law_word", "_law_party", "_law_other", "_law_kind", "_law_amount", "_law_is_sealed"] f fd) (B : Blt mg)
    (DN : DefAt K mg "_law_noted" sNoted ["_law_world_here", "_law_giver", "_law_taker", "_law_kind", "_law_amount", "_law_is_sealed"] fN fdN) (GN : FnOk P w K mg base CX0 1 fN fdN ["_law_world_here", "_law_giver", "_law_taker", "_law_kind", "_law_amount", "_law_is_sealed"] spNoted) :
    FnOk P w K mg base CX0 2 f fd ["_law_world_here", "_law_word", "_law_party", "_law_other", "_law_kind", "_law_amount", "_law_is_sealed"] spDid := by
  refine D.F.ok scHonest (fun vs H Q E h => ?_) (fun cdv A outer s H vs Q E hr h => ?_)
  · obtain ⟨W, x, m, n, d, p, o, k, a, b, Bd, rfl, _⟩ := h
    rfl
  · obtain ⟨W, x, m, n, d, p, o, k, a, b, Bd, rfl, h0, hn, hw, hB, hlast, hd, q⟩ := h
    have nd := scHonest.nd
    have hu := hu_of hr
    refine ⟨_, (pss_cons (ps_set (i := 7) nd rfl (Or.inl rfl) (pe_dget hu (pv 0) pe_str (fun _ _ => rfl)))
      (pss_cons (ps_if (PW.pt (pw_and (pt_cmpR op_eq (pv 1) pe_str (nomark _)) (pw_and1 (pt_val (pe_ix (ixT K) (pe_ix (ixT K) (pe_dget hu (pv 0) pe_str (fun _ _ => rfl)) (pv 2) (fun _ _ => rfl)) pe_int (fun _ _ => rfl)))))) (pss_cons (ps_dput hu (pv 0) pe_str (pe_op op_add (pe_dget hu (pv 0) pe_str (fun _ _ => rfl)) pe_int) rfl)
      (pss_cons (ps_asg (pe_op op_add (pe_ix (ixL K) (pe_ix (ixL K) (pv 7) (pv 2) (fun _ _ => rfl)) (pv 4) (fun _ _ => rfl)) (pv 5)) (pg_sub (pe_ix (ixL K) (pv 7) (pv 2) (fun _ _ => rfl)) (pv 4) set_list))
      (pss_cons (ps_expr (pe_bm PySem.F.plainAttrs_list PySem.F.slot_list_append PySem.F.type_list_append mt_append (pe_ix (ixL K) (pe_dget hu (pv 0) pe_str (fun _ _ => rfl)) (pv 2) (fun _ _ => rfl)) (pa_cons (pe_tup (pa_cons (pe_dget hu (pv 0) pe_str (fun _ _ => rfl)) (pa_cons pe_str (pa_cons (pv 4) (pa_cons (pv 5) pa_nil))))) pa_nil)))
      (pss_one (ps_expr (pe_bm PySem.F.plainAttrs_list PySem.F.slot_list_append PySem.F.type_list_append mt_append (pe_dget hu (pv 0) pe_str (fun _ _ => rfl)) (pa_cons (pe_tup (pa_cons pe_str (pa_cons (pe_dget hu (pv 0) pe_str (fun _ _ => rfl)) (pa_cons (pv 2) (pa_cons (pv 4) (pa_cons (pv 5) pa_nil)))))) pa_nil))))))) (pss_one (ps_if (PW.pt (pw_and (pt_cmpR op_eq (pv 1) pe_str (nomark _)) (pw_and (pt_val (pe_ix (ixT K) (pe_ix (ixT K) (pe_dget hu (pv 0) pe_str (fun _ _ => rfl)) (pv 2) (fun _ _ => rfl)) pe_int (fun _ _ => rfl))) (pw_and1 (pt_cmpR op_ge (pe_ix (ixL K) (pe_ix (ixL K) (pv 7) (pv 2) (fun _ _ => rfl)) (pv 4) (fun _ _ => rfl)) (pv 5) (nomark _)))))) (pss_cons (ps_dput hu (pv 0) pe_str (pe_op op_add (pe_dget hu (pv 0) pe_str (fun _ _ => rfl)) pe_int) rfl)
      (pss_cons (ps_asg (pe_op op_sub (pe_ix (ixL K) (pe_ix (ixL K) (pv 7) (pv 2) (fun _ _ => rfl)) (pv 4) (fun _ _ => rfl)) (pv 5)) (pg_sub (pe_ix (ixL K) (pv 7) (pv 2) (fun _ _ => rfl)) (pv 4) set_list))
      (pss_cons (ps_expr (pe_bm PySem.F.plainAttrs_list PySem.F.slot_list_append PySem.F.type_list_append mt_append (pe_ix (ixL K) (pe_dget hu (pv 0) pe_str (fun _ _ => rfl)) (pv 2) (fun _ _ => rfl)) (pa_cons (pe_tup (pa_cons (pe_dget hu (pv 0) pe_str (fun _ _ => rfl)) (pa_cons pe_str (pa_cons (pv 4) (pa_cons (pv 5) pa_nil))))) pa_nil)))
      (pss_one (ps_expr (pe_bm PySem.F.plainAttrs_list PySem.F.slot_list_append PySem.F.type_list_append mt_append (pe_dget hu (pv 0) pe_str (fun _ _ => rfl)) (pa_cons (pe_tup (pa_cons pe_str (pa_cons (pe_dget hu (pv 0) pe_str (fun _ _ => rfl)) (pa_cons (pv 2) (pa_cons (pv 4) (pa_cons (pv 5) pa_nil)))))) pa_nil))))))) (pss_one (ps_if (PW.pt (pw_and (pt_cmpR op_eq (pv 1) pe_str (nomark _)) (pw_and (pt_cmpR op_ne (pv 2) (pv 3) (nomark _)) (pw_and1 (pt_cmpR op_ge (pe_ix (ixL K) (pe_ix (ixL K) (pv 7) (pv 2) (fun _ _ => rfl)) (pv 4) (fun _ _ => rfl)) (pv 5) (nomark _)))))) (pss_cons (ps_expr (pe_call GN hr (by rfl) DN.g DN.k DN.b .nil pass0 (pa_cons (pv 0) (pa_cons (pv 2) (pa_cons (pv 3) (pa_cons (pv 4) (pa_cons (pv 5) (pa_cons (pv 6) pa_nil))))))))
      (pss_cons (ps_asg (pe_op op_sub (pe_ix (ixL K) (pe_ix (ixL K) (pv 7) (pv 2) (fun _ _ => rfl)) (pv 4) (fun _ _ => rfl)) (pv 5)) (pg_sub (pe_ix (ixL K) (pv 7) (pv 2) (fun _ _ => rfl)) (pv 4) set_list))
      (pss_cons (ps_asg (pe_op op_add (pe_ix (ixL K) (pe_ix (ixL K) (pv 7) (pv 3) (fun _ _ => rfl)) (pv 4) (fun _ _ => rfl)) (pv 5)) (pg_sub (pe_ix (ixL K) (pv 7) (pv 3) (fun _ _ => rfl)) (pv 4) set_list))
      (pss_one (ps_expr (pe_bm PySem.F.plainAttrs_list PySem.F.slot_list_append PySem.F.type_list_append mt_append (pe_dget hu (pv 0) pe_str (fun _ _ => rfl)) (pa_cons (pe_tup (pa_cons pe_str (pa_cons (pe_dget hu (pv 0) pe_str (fun _ _ => rfl)) (pa_cons (pv 2) (pa_cons (pv 3) (pa_cons (pv 4) (pa_cons (pv 5) (pa_cons (pv 6) pa_nil)))))))) pa_nil))))))) (pss_one (ps_if (pt_cmpR op_eq (pv 1) pe_str (nomark _)) (pss_cons (ps_dput hu (pv 0) pe_str (pe_op op_add (pe_dget hu (pv 0) pe_str (fun _ _ => rfl)) pe_int) rfl)
      (pss_cons (ps_expr (pe_bm PySem.F.plainAttrs_list PySem.F.slot_list_append PySem.F.type_list_append mt_append (pe_dget hu (pv 0) pe_str (fun _ _ => rfl)) (pa_cons (pe_tup (pa_cons (pe_dget hu (pv 0) pe_str (fun _ _ => rfl)) (pa_cons (pv 2) (pa_cons (pv 4) (pa_cons (pe_ix (ixL K) (pe_ix (ixL K) (pv 7) (pv 2) (fun _ _ => rfl)) (pv 4) (fun _ _ => rfl)) pa_nil))))) pa_nil)))
      (pss_one (ps_expr (pe_bm PySem.F.plainAttrs_list PySem.F.slot_list_append PySem.F.type_list_append mt_append (pe_dget hu (pv 0) pe_str (fun _ _ => rfl)) (pa_cons (pe_tup (pa_cons pe_str (pa_cons (pe_dget hu (pv 0) pe_str (fun _ _ => rfl)) (pa_cons (pv 2) (pa_cons (pv 4) (pa_cons (pe_ix (ixL K) (pe_ix (ixL K) (pv 7) (pv 2) (fun _ _ => rfl)) (pv 4) (fun _ _ => rfl)) pa_nil)))))) pa_nil)))))) (pss_one (ps_ret pe_bl)))))))))
      (pss_one (ps_ret pe_bl)))), ?_⟩
    have b60 := hw.b0
    obtain ⟨ns, z, hst, hz, z0, zB, hns⟩ := hw.at_ hd.p hd.k
    obtain ⟨ns', z', hst', hz', z0', zB', hns'⟩ := hw.at_ hd.o hd.k
    obtain ⟨rs, hrs, lrs⟩ := hw.file hd.p (by omega)
    obtain ⟨rs', hrs', lrs'⟩ := hw.file hd.o (by omega)
    have hmG := hw.manyG
    have hl0 := hw.l0
    have ha1 := hd.a1
    have ha2 := hd.a2
    have hkk := hd.k
    have hk2 := hw.k2
    have hpp := hd.p
    have hoo := hd.o
    obtain ⟨pw, ⟨ap, eap, hpa⟩, hpq⟩ := h0.hp
    cases eap
    obtain ⟨rp, erp⟩ : ∃ rp, x.ps[p]? = some rp := ⟨_, List.getElem?_eq_getElem hd.p⟩
    obtain ⟨a1, a2, rfl⟩ := hw.par rp (List.mem_of_getElem? erp)
    obtain ⟨vp, hvp, ar, rfl, har⟩ := Paired.get hpq erp
    refine ⟨_, rfl, W, _, rfl, h0.stock, ?_⟩
    -- make
    refine ⟨_, rfl, rfl, _, rfl, ?_⟩
    by_cases c1 : d = "make"
    · refine iteY (wT c1) ?_
      refine ⟨_, rfl, W, _, rfl, h0.parties, _, rfl, m.p, _, p, _, rfl, rfl, SqT.of hpa, atI_nat hvp, ar, _, 0, _, rfl, rfl, SqT.of har, rfl, _, rfl, ?_⟩
      cases a1 with
      | false =>
        refine iteF ?_
        subst c1
        refine ⟨_, rfl, rfl, _, rfl, ?_⟩
        refine iteN (by decide +kernel) ?_
        refine iteF ?_
        refine ⟨_, rfl, rfl, _, rfl, ?_⟩
        refine iteN (by decide +kernel) ?_
        refine iteF ?_
        refine ⟨_, rfl, rfl, _, rfl, ?_⟩
        refine iteN (by decide +kernel) ?_
        exact q _ _ false Kw.refl (h0.mono (by omega)) (hw.mono (by omega) hB) (by omega) rfl rfl
      | true =>
        refine iteT ?_
        refine ⟨_, rfl, W, _, rfl, h0.lastG, _, _, rfl, rfl, _, rfl, W, _, rfl, h0.putLast _, ?_⟩
        have h1 := h0.setLast (x.last + 1)
        obtain ⟨a2, ha3, hi4⟩ := Paired.get h1.hsa hst
        refine ⟨_, rfl, _, rfl, m.s, _, _, _, rfl, rfl, SqL.of h1.hs, ref_at ha3, _, rfl, _, _, _, _, rfl, rfl, SqL.of hi4, int_at' hz, _, rfl, _, _, rfl, rfl, _, rfl, _, rfl, m.s, _, _, _, rfl, rfl, SqL.of h1.hs, ref_at ha3, _, rfl, a2, _, _, k, rfl, rfl, hi4, ix_nat (by rw [List.length_map]; exact (List.getElem?_eq_some_iff.mp hz).1), ?_⟩
        rw [map_set_int]
        have h5 := h1.setStock ha3 ((ns).set k (z + a))
        obtain ⟨b6, hb7, ws8, hw9, hq10⟩ := Paired.get h5.hfa hrs
        refine ⟨_, rfl, W, _, rfl, h5.files, _, rfl, m.f, _, _, _, rfl, rfl, SqL.of h5.hf, ref_at hb7, .inl ⟨rfl, _, SqL.of hw9⟩, _, rfl, W, _, rfl, h5.lastG, _, rfl, _, rfl, (by show 4 ≤ sizeLine; decide), fun t11 ht12 => ?_⟩
        have s13 : Same _ (upd _ t11 (.tup ([.int (x.last + 1), .str "made", .int k, .int a]))) := fun c o z => upd_get z ht12
        refine ⟨b6, ws8, _, rfl, rfl, s13 _ _ hw9, small1000 (by rw [paired_len hq10]; omega), ?_⟩
        have h14 := h5.same s13
        have kq15 := (Kt.same s13).kp
        have h16 := h14.setFile hb7 (paired_app (Paired.mapP hq10 fun _ _ z => kq15.tp z) (.cons ⟨t11, rfl, upd_same⟩ .nil))
        obtain ⟨es17, he18, hl19⟩ := h16.hev
        refine ⟨_, rfl, W, _, rfl, h16.events, .inl ⟨rfl, _, SqL.of he18⟩, _, rfl, W, _, rfl, h16.lastG, _, rfl, _, rfl, _, rfl, (by show 5 ≤ sizeLine; decide), fun t20 ht21 => ?_⟩
        have s22 : Same _ (upd _ t20 (.tup ([.str "made", .int (x.last + 1), .int p, .int k, .int a]))) := fun c o z => upd_get z ht21
        refine ⟨m.ev, es17, _, rfl, rfl, s22 _ _ he18, small1000 (by omega), ?_⟩
        have h23 := h16.same s22
        have h24 := h23.setEvents (es := es17 ++ [.ref t20]) (l := n + 1) (by rw [List.length_append]; exact Nat.succ_le_succ hl19) (Nat.le_succ n)
        have e1 := (hw.stock (B' := 2 * Bd) (by omega) hB hst (ns' := ns.set k (z + a)) (by rw [List.length_set]) fun y hy => (mem_set hy).elim (fun h => by have := hns y h; omega) fun h => by omega)
        exact q _ _ true (Kw.trans (Kw.trans (Kw.trans (Kw.trans (Kw.trans (Kw.trans Kw.refl (Kw.upd (mW W m))) (Kw.upd (mSa ha3))) (Kw.same s13)) (Kw.upd (mFa hb7))) (Kw.same s22)) (Kw.upd (mEv W m))) (h24.mono (by omega)) (e1.one hrs ⟨x.last + 1, k, a, by omega, by show 0 ≤ (k : Int) ∧ (k : Int) ≤ x.k - 1; omega, by omega, .inl ⟨"made", .inl rfl, rfl⟩⟩ rfl) (by first | exact Int.le_refl _ | (show x.last ≤ x.last + 1; omega)) rfl rfl
    refine iteN (wF c1) ?_
    refine iteF ?_
    -- treat
    refine ⟨_, rfl, rfl, _, rfl, ?_⟩
    by_cases c2 : d = "treat"
    · refine iteY (wT c2) ?_
      refine ⟨_, rfl, W, _, rfl, h0.parties, _, rfl, m.p, _, p, _, rfl, rfl, SqT.of hpa, atI_nat hvp, ar, _, 1, _, rfl, rfl, SqT.of har, rfl, _, rfl, ?_⟩
      cases a2 with
      | false =>
        refine iteF ?_
        refine iteF ?_
        subst c2
        refine ⟨_, rfl, rfl, _, rfl, ?_⟩
        refine iteN (by decide +kernel) ?_
        refine iteF ?_
        refine ⟨_, rfl, rfl, _, rfl, ?_⟩
        refine iteN (by decide +kernel) ?_
        exact q _ _ false Kw.refl (h0.mono (by omega)) (hw.mono (by omega) hB) (by omega) rfl rfl
      | true =>
        refine iteT ?_
        obtain ⟨as, has, his⟩ := Paired.get h0.hsa hst
        refine ⟨_, rfl, _, rfl, m.s, _, _, _, rfl, rfl, SqL.of h0.hs, ref_at has, _, rfl, _, _, _, _, rfl, rfl, SqL.of his, int_at' hz, _, rfl, _, _, rfl, rfl, _, rfl, ?_⟩
        by_cases c : a ≤ z
        · refine iteY (decide_eq_true c) ?_
          refine ⟨_, rfl, W, _, rfl, h0.lastG, _, _, rfl, rfl, _, rfl, W, _, rfl, h0.putLast _, ?_⟩
          have h1 := h0.setLast (x.last + 1)
          obtain ⟨a2, ha3, hi4⟩ := Paired.get h1.hsa hst
          refine ⟨_, rfl, _, rfl, m.s, _, _, _, rfl, rfl, SqL.of h1.hs, ref_at ha3, _, rfl, _, _, _, _, rfl, rfl, SqL.of hi4, int_at' hz, _, rfl, _, _, rfl, rfl, _, rfl, _, rfl, m.s, _, _, _, rfl, rfl, SqL.of h1.hs, ref_at ha3, _, rfl, a2, _, _, k, rfl, rfl, hi4, ix_nat (by rw [List.length_map]; exact (List.getElem?_eq_some_iff.mp hz).1), ?_⟩
          rw [map_set_int]
          have h5 := h1.setStock ha3 ((ns).set k (z - a))
          obtain ⟨b6, hb7, ws8, hw9, hq10⟩ := Paired.get h5.hfa hrs
          refine ⟨_, rfl, W, _, rfl, h5.files, _, rfl, m.f, _, _, _, rfl, rfl, SqL.of h5.hf, ref_at hb7, .inl ⟨rfl, _, SqL.of hw9⟩, _, rfl, W, _, rfl, h5.lastG, _, rfl, _, rfl, (by show 4 ≤ sizeLine; decide), fun t11 ht12 => ?_⟩
          have s13 : Same _ (upd _ t11 (.tup ([.int (x.last + 1), .str "treated", .int k, .int a]))) := fun c o z => upd_get z ht12
          refine ⟨b6, ws8, _, rfl, rfl, s13 _ _ hw9, small1000 (by rw [paired_len hq10]; omega), ?_⟩
          have h14 := h5.same s13
          have kq15 := (Kt.same s13).kp
          have h16 := h14.setFile hb7 (paired_app (Paired.mapP hq10 fun _ _ z => kq15.tp z) (.cons ⟨t11, rfl, upd_same⟩ .nil))
          obtain ⟨es17, he18, hl19⟩ := h16.hev
          refine ⟨_, rfl, W, _, rfl, h16.events, .inl ⟨rfl, _, SqL.of he18⟩, _, rfl, W, _, rfl, h16.lastG, _, rfl, _, rfl, _, rfl, (by show 5 ≤ sizeLine; decide), fun t20 ht21 => ?_⟩
          have s22 : Same _ (upd _ t20 (.tup ([.str "treated", .int (x.last + 1), .int p, .int k, .int a]))) := fun c o z => upd_get z ht21
          refine ⟨m.ev, es17, _, rfl, rfl, s22 _ _ he18, small1000 (by omega), ?_⟩
          have h23 := h16.same s22
          have h24 := h23.setEvents (es := es17 ++ [.ref t20]) (l := n + 1) (by rw [List.length_append]; exact Nat.succ_le_succ hl19) (Nat.le_succ n)
          have e1 := (hw.stock (B' := 2 * Bd) (by omega) hB hst (ns' := ns.set k (z - a)) (by rw [List.length_set]) fun y hy => (mem_set hy).elim (fun h => by have := hns y h; omega) fun h => by omega)
          exact q _ _ true (Kw.trans (Kw.trans (Kw.trans (Kw.trans (Kw.trans (Kw.trans Kw.refl (Kw.upd (mW W m))) (Kw.upd (mSa ha3))) (Kw.same s13)) (Kw.upd (mFa hb7))) (Kw.same s22)) (Kw.upd (mEv W m))) (h24.mono (by omega)) (e1.one hrs ⟨x.last + 1, k, a, by omega, by show 0 ≤ (k : Int) ∧ (k : Int) ≤ x.k - 1; omega, by omega, .inl ⟨"treated", .inr rfl, rfl⟩⟩ rfl) (by first | exact Int.le_refl _ | (show x.last ≤ x.last + 1; omega)) rfl rfl
        · refine iteN (decide_eq_false c) ?_
          subst c2
          refine ⟨_, rfl, rfl, _, rfl, ?_⟩
          refine iteN (by decide +kernel) ?_
          refine iteF ?_
          refine ⟨_, rfl, rfl, _, rfl, ?_⟩
          refine iteN (by decide +kernel) ?_
          exact q _ _ false Kw.refl (h0.mono (by omega)) (hw.mono (by omega) hB) (by omega) rfl rfl
    refine iteN (wF c2) ?_
    refine iteF ?_
    -- hand
    refine ⟨_, rfl, rfl, _, rfl, ?_⟩
    by_cases c3 : d = "hand"
    · refine iteY (wT c3) ?_
      refine ⟨_, rfl, _, rfl, rfl, _, rfl, ?_⟩
      by_cases cp : p = o
      · refine iteN (by rw [cp]; simp) ?_
        refine iteF ?_
        subst c3
        refine ⟨_, rfl, rfl, _, rfl, ?_⟩
        refine iteN (by decide +kernel) ?_
        exact q _ _ false Kw.refl (h0.mono (by omega)) (hw.mono (by omega) hB) (by omega) rfl rfl
      refine iteY (by simp; omega) ?_
      obtain ⟨as, has, his⟩ := Paired.get h0.hsa hst
      refine ⟨_, rfl, _, rfl, m.s, _, _, _, rfl, rfl, SqL.of h0.hs, ref_at has, _, rfl, _, _, _, _, rfl, rfl, SqL.of his, int_at' hz, _, rfl, _, _, rfl, rfl, _, rfl, ?_⟩
      by_cases c : a ≤ z
      · refine iteY (decide_eq_true c) ?_
        refine ⟨_, rfl, _, rfl, _, rfl, _, rfl, _, rfl, _, rfl, W, x, m, n, p, o, k, a, b, rs, rs', rfl, h0, hrs, hrs', cp, by omega, by omega, fun H1 kw1 h1 => ?_⟩
        obtain ⟨a2, ha3, hi4⟩ := Paired.get h1.hsa hst
        refine ⟨_, rfl, _, rfl, m.s, _, _, _, rfl, rfl, SqL.of h1.hs, ref_at ha3, _, rfl, _, _, _, _, rfl, rfl, SqL.of hi4, int_at' hz, _, rfl, _, _, rfl, rfl, _, rfl, _, rfl, m.s, _, _, _, rfl, rfl, SqL.of h1.hs, ref_at ha3, _, rfl, a2, _, _, k, rfl, rfl, hi4, ix_nat (by rw [List.length_map]; exact (List.getElem?_eq_some_iff.mp hz).1), ?_⟩
        rw [map_set_int]
        have h5 := h1.setStock ha3 ((ns).set k (z - a))
        have hst2 : (x.st.set p (ns.set k (z - a)))[o]? = some ns' := by rw [List.getElem?_set_ne cp]; exact hst'
        obtain ⟨a6, ha7, hi8⟩ := Paired.get h5.hsa hst2
        refine ⟨_, rfl, _, rfl, m.s, _, _, _, rfl, rfl, SqL.of h5.hs, ref_at ha7, _, rfl, _, _, _, _, rfl, rfl, SqL.of hi8, int_at' hz', _, rfl, _, _, rfl, rfl, _, rfl, _, rfl, m.s, _, _, _, rfl, rfl, SqL.of h5.hs, ref_at ha7, _, rfl, a6, _, _, k, rfl, rfl, hi8, ix_nat (by rw [List.length_map]; exact (List.getElem?_eq_some_iff.mp hz').1), ?_⟩
        rw [map_set_int]
        have h9 := h5.setStock ha7 ((ns').set k (z' + a))
        obtain ⟨es10, he11, hl12⟩ := h9.hev
        refine ⟨_, rfl, W, _, rfl, h9.events, .inl ⟨rfl, _, SqL.of he11⟩, _, rfl, W, _, rfl, h9.lastG, _, rfl, _, rfl, _, rfl, _, rfl, _, rfl, (by show 7 ≤ sizeLine; decide), fun t13 ht14 => ?_⟩
        have s15 : Same _ (upd _ t13 (.tup ([.str "handed", .int (x.last + 1), .int p, .int o, .int k, .int a, .bl b]))) := fun c o z => upd_get z ht14
        refine ⟨m.ev, es10, _, rfl, rfl, s15 _ _ he11, small1000 (by omega), ?_⟩
        have h16 := h9.same s15
        have h17 := h16.setEvents (es := es10 ++ [.ref t13]) (l := n + 1) (by rw [List.length_append]; exact Nat.succ_le_succ hl12) (Nat.le_succ n)
        have e1 := (hw.stock (B' := 2 * Bd) (by omega) hB hst (ns' := ns.set k (z - a)) (by rw [List.length_set]) fun y hy => (mem_set hy).elim (fun h => by have := hns y h; omega) fun h => by omega)
        have e2 := (e1.stock (B' := 2 * Bd) (by omega) hB hst2 (ns' := ns'.set k (z' + a)) (by rw [List.length_set]) fun y hy => (mem_set hy).elim (fun h => by have := hns' y h; omega) fun h => by omega)
        exact q _ _ true (Kw.trans (Kw.trans (Kw.trans (Kw.trans (Kw.trans Kw.refl (kw1)) (Kw.upd (mSa ha3))) (Kw.upd (mSa ha7))) (Kw.same s15)) (Kw.upd (mEv W m))) (h17.mono (by omega)) (e2.two hrs hrs' cp ⟨x.last + 1, k, a, by omega, by show 0 ≤ (k : Int) ∧ (k : Int) ≤ x.k - 1; omega, by omega, .inr ⟨"gave", o, b, .inl rfl, by omega, by show (o : Int) ≤ x.ps.length - 1; omega, by omega, rfl⟩⟩ ⟨x.last + 1, k, a, by omega, by show 0 ≤ (k : Int) ∧ (k : Int) ≤ x.k - 1; omega, by omega, .inr ⟨"took", p, b, .inr rfl, by omega, by show (p : Int) ≤ x.ps.length - 1; omega, by omega, rfl⟩⟩ rfl rfl) (by first | exact Int.le_refl _ | (show x.last ≤ x.last + 1; omega)) rfl rfl
      · refine iteN (decide_eq_false c) ?_
        subst c3
        refine ⟨_, rfl, rfl, _, rfl, ?_⟩
        refine iteN (by decide +kernel) ?_
        exact q _ _ false Kw.refl (h0.mono (by omega)) (hw.mono (by omega) hB) (by omega) rfl rfl
    refine iteN (wF c3) ?_
    refine iteF ?_
    -- inspect
    refine ⟨_, rfl, rfl, _, rfl, ?_⟩
    by_cases c4 : d = "inspect"
    · refine iteY (wT c4) ?_
      refine ⟨_, rfl, W, _, rfl, h0.lastG, _, _, rfl, rfl, _, rfl, W, _, rfl, h0.putLast _, ?_⟩
      have h1 := h0.setLast (x.last + 1)
      obtain ⟨a2, ha3, hi4⟩ := Paired.get h1.hsa hst
      obtain ⟨ws5, hw6, hq7⟩ := h1.hg
      refine ⟨_, rfl, W, _, rfl, h1.finds, .inl ⟨rfl, _, SqL.of hw6⟩, _, rfl, W, _, rfl, h1.lastG, _, rfl, _, rfl, _, rfl, _, rfl, m.s, _, _, _, rfl, rfl, SqL.of h1.hs, ref_at ha3, _, rfl, _, _, _, _, rfl, rfl, SqL.of hi4, int_at' hz, (by show 4 ≤ sizeLine; decide), fun t8 ht9 => ?_⟩
      have s10 : Same _ (upd _ t8 (.tup ([.int (x.last + 1), .int p, .int k, .int z]))) := fun c o z => upd_get z ht9
      refine ⟨m.g, ws5, _, rfl, rfl, s10 _ _ hw6, small1000 (by rw [paired_len hq7]; show x.gs.length ≤ 1000; omega), ?_⟩
      have h11 := h1.same s10
      have kq12 := (Kt.same s10).kp
      have h13 := h11.setFinds (paired_app (Paired.mapP hq7 fun _ _ z => kq12.tp z) (.cons ⟨t8, rfl, upd_same⟩ .nil))
      obtain ⟨a14, ha15, hi16⟩ := Paired.get h13.hsa hst
      obtain ⟨es17, he18, hl19⟩ := h13.hev
      refine ⟨_, rfl, W, _, rfl, h13.events, .inl ⟨rfl, _, SqL.of he18⟩, _, rfl, W, _, rfl, h13.lastG, _, rfl, _, rfl, _, rfl, _, rfl, m.s, _, _, _, rfl, rfl, SqL.of h13.hs, ref_at ha15, _, rfl, _, _, _, _, rfl, rfl, SqL.of hi16, int_at' hz, (by show 5 ≤ sizeLine; decide), fun t20 ht21 => ?_⟩
      have s22 : Same _ (upd _ t20 (.tup ([.str "found", .int (x.last + 1), .int p, .int k, .int z]))) := fun c o z => upd_get z ht21
      refine ⟨m.ev, es17, _, rfl, rfl, s22 _ _ he18, small1000 (by omega), ?_⟩
      have h23 := h13.same s22
      have h24 := h23.setEvents (es := es17 ++ [.ref t20]) (l := n + 1) (by rw [List.length_append]; exact Nat.succ_le_succ hl19) (Nat.le_succ n)
      exact q _ _ true (Kw.trans (Kw.trans (Kw.trans (Kw.trans (Kw.trans Kw.refl (Kw.upd (mW W m))) (Kw.same s10)) (Kw.upd (mG W m))) (Kw.same s22)) (Kw.upd (mEv W m))) (h24.mono (by omega)) ((hw.find (r := [.int (x.last + 1), .int p, .int k, .int z]) ⟨x.last + 1, p, k, z, by omega, by show 0 ≤ (p : Int) ∧ (p : Int) ≤ x.ps.length - 1; omega, by omega, by omega, rfl⟩ rfl).mono (by omega) hB) (by first | exact Int.le_refl _ | (show x.last ≤ x.last + 1; omega)) rfl rfl
    · refine iteN (wF c4) ?_
      exact q _ _ false Kw.refl (h0.mono (by omega)) (hw.mono (by omega) hB) (by omega) rfl rfl
end
end K1
end
section
set_option Elab.async false
set_option linter.all false
set_option maxRecDepth 100000
set_option maxHeartbeats 2000000
namespace K1
open PySem PyProof.Rows L2
theorem iteB {c : Bool} {A B : Prop} (h1 : c = true → A) (h2 : c = false → B) : if c = true then A else B := by
  cases c with
  | true => exact iteT (h1 rfl)
  | false => exact iteF (h2 rfl)
theorem paired_erase {α β : Type} {R : α → β → Prop} : ∀ {xs : List α} {ys : List β} (i : Nat), Paired R xs ys → Paired R (xs.eraseIdx i) (ys.eraseIdx i)
  | _, _, _, .nil => .nil
  | _, _, 0, .cons _ t => t
  | _, _, i + 1, .cons r t => .cons r (paired_erase i t)
theorem flat_ints (ls : List Int) : (ls.map V.int).all flatV = true := by
  rw [List.all_eq_true]
  intro y hy
  obtain ⟨z, _, rfl⟩ := List.mem_map.mp hy
  rfl
theorem deed_at (b : Bool) (p o : Nat) : ∃ dd : Str, atI [V.str "made", V.str "treated", V.str "gave", V.str "took"] ((if b = true then 1 else 0) + 2 * (if (!decide (V.int (p : Int) = V.int (o : Int))) = true then 1 else 0)) = some (V.str dd) ∧
    ((p = o ∧ (dd = "made" ∨ dd = "treated")) ∨ (p ≠ o ∧ (dd = "gave" ∨ dd = "took"))) := by
  by_cases h : p = o
  · have e : (!decide (V.int (p : Int) = V.int (o : Int))) = false := by rw [h]; simp
    rw [e]
    cases b with
    | false => exact ⟨"made", rfl, .inl ⟨h, .inl rfl⟩⟩
    | true => exact ⟨"treated", rfl, .inl ⟨h, .inr rfl⟩⟩
  · have e : (!decide (V.int (p : Int) = V.int (o : Int))) = true := by simp; omega
    rw [e]
    cases b with
    | false => exact ⟨"gave", rfl, .inr ⟨h, .inl rfl⟩⟩
    | true => exact ⟨"took", rfl, .inr ⟨h, .inr rfl⟩⟩
section
variable {P : Program} {w : World} {K : PySem.W.Frag} {mg : Str → Option Value} {base : Heap}
theorem scLied : FnScope ["_law_world_here", "_law_word", "_law_party", "_law_other", "_law_kind", "_law_amount", "_law_is_sealed", "_law_stock", "_law_liars", "_law_deed_here", "_law_more", "_law_liar"] ["_law_world_here", "_law_word", "_law_party", "_law_other", "_law_kind", "_law_amount", "_law_is_sealed"] (defScope sLied) := ⟨rfl, rfl, rfl, by decide +kernel, rfl, by decide +kernel, by decide +kernel⟩
theorem ok_lied {f fN : Addr} {fd fdN : FuncData} (D : DefAt K mg "_law_lied" sLied ["_law_world_here", "_law_word", "_law_party", "_law_other", "_law_kind", "_law_amount", "_law_is_sealed"] f fd) (B : Blt mg)
    (DN : DefAt K mg "_law_noted" sNoted ["_law_world_here", "_law_giver", "_law_taker", "_law_kind", "_law_amount", "_law_is_sealed"] fN fdN) (GN : FnOk P w K mg base CX0 1 fN fdN ["_law_world_here", "_law_giver", "_law_taker", "_law_kind", "_law_amount", "_law_is_sealed"] spNoted) :
    FnOk P w K mg base CX0 2 f fd ["_law_world_here", "_law_word", "_law_party", "_law_other", "_law_kind", "_law_amount", "_law_is_sealed"] spDid := by
  refine D.F.ok scLied (fun vs H Q E h => ?_) (fun cdv A outer s H vs Q E hr h => ?_)
  · obtain ⟨W, x, m, n, d, p, o, k, a, b, Bd, rfl, _⟩ := h
    rfl
  · obtain ⟨W, x, m, n, d, p, o, k, a, b, Bd, rfl, h0, hn, hw, hB, hlast, hd, q⟩ := h
    have nd := scLied.nd
    have hu := hu_of hr
    -- the liars, each once
    have tail : ∃ tR, PSs (cxOf CX0 P w K mg base ["_law_world_here", "_law_word", "_law_party", "_law_other", "_law_kind", "_law_amount", "_law_is_sealed", "_law_stock", "_law_liars", "_law_deed_here", "_law_more", "_law_liar"] "_law_lied" (defScope sLied) f cdv A outer s H E).nox ((defBody sLied).drop 3) tR ∧
        ∀ (σ : L2.St) (H1 : Hp) (x1 : Wd) (l : Addr) (ms : List Int) (dn mr lr : Option V), σ = [some (.ref W), some (.str d), some (.int p), some (.int o), some (.int k), some (.int a), some (.bl b), some (.ref m.s), some (.ref l), dn, mr, lr] →
          H1 l = some (.lst (ms.map V.int)) → l ∉ muts W m → ms.length ≤ 2 → Kw W m H H1 → WAt H1 W x1 m (n + 1) → WOk (2 * Bd) x1 → x1.last ≤ x.last + 1 → x1.k = x.k → x1.ps = x.ps → tR { nx := fun _ H' => Q .non H', rt := Q } σ H1 := by
      refine ⟨_, (pss_cons (ps_for PassesOwn.never rfl (piL K (pv 8)) (pg_name (i := 11) nd rfl (Or.inl rfl)) (pss_one (ps_if (pt_cmpR op_notIn_seq (pv 11) (pe_dget hu (pv 0) pe_str (fun _ _ => rfl)) (by with_unfolding_all rfl)) (pss_one (ps_expr (pe_bm PySem.F.plainAttrs_list PySem.F.slot_list_append PySem.F.type_list_append mt_append (pe_dget hu (pv 0) pe_str (fun _ _ => rfl)) (pa_cons (pv 11) pa_nil)))) pss_nil)))
      (pss_one (ps_ret pe_bl))), ?_⟩
      rintro σ H1 x1 l ms dn mr lr rfl hl hlm hms kw1 h1 ok1 e1 e2 e3
      refine ⟨_, rfl, l, rfl, ⟨_, SqL.of hl⟩, ?_⟩
      refine for_list (K := K) (xs := ms.map V.int) (fun i σ H2 => ∃ lr, σ = [some (.ref W), some (.str d), some (.int p), some (.int o), some (.int k), some (.int a), some (.bl b), some (.ref m.s), some (.ref l), dn, mr, lr] ∧ Kw W m H1 H2 ∧ WAt H2 W x1 m (n + 1 + i))
        ⟨lr, rfl, Kw.refl, h1⟩ (fun i σ H2 _ ⟨_, _, kw2, _⟩ => SqL.of (kw2 _ _ hl hlm)) ?_ ?_
      · rintro i y σ H2 hy ⟨lr, rfl, kw2, h2⟩
        have hi : i < 2 := by
          have := (List.getElem?_eq_some_iff.mp hy).1
          rw [List.length_map] at this
          omega
        obtain ⟨v, rfl⟩ : ∃ v, y = V.int v := by
          obtain ⟨v, _, e⟩ := List.mem_map.mp (List.mem_of_getElem? hy)
          exact ⟨v, e.symm⟩
        obtain ⟨ls, hli, hll⟩ := h2.hli
        refine ⟨_, rfl, _, rfl, W, _, rfl, h2.liars, m.li, _, rfl, .inl (SqL.of hli), rfl, flat_ints ls, _, rfl, ?_⟩
        refine iteB (fun _ => ?_) (fun _ => ?_)
        · refine ⟨_, rfl, W, _, rfl, h2.liars, .inl ⟨rfl, _, SqL.of hli⟩, _, rfl, m.li, _, _, rfl, rfl, hli, small1000 (by rw [List.length_map]; omega), ?_⟩
          rw [show ls.map V.int ++ [V.int v] = (ls ++ [v]).map V.int by rw [List.map_append]; rfl]
          exact ⟨_, rfl, kw2.trans (Kw.upd (mLi W m)), h2.setLiars (ls := ls ++ [v]) (by rw [List.length_append]; exact Nat.succ_le_succ hll) (by omega)⟩
        · exact ⟨_, rfl, kw2, h2.mono (by omega)⟩
      · rintro σ H2 ⟨lr, rfl, kw2, h2⟩
        rw [List.length_map] at h2
        exact q _ _ true (kw1.trans kw2) (h2.mono (by omega)) ok1 e1 e2 e3
    obtain ⟨tR, hR, tail⟩ := tail
    refine ⟨_, (pss_cons (ps_set (i := 7) nd rfl (Or.inl rfl) (pe_dget hu (pv 0) pe_str (fun _ _ => rfl)))
      (pss_cons (ps_set (i := 8) nd rfl (Or.inl rfl) (pe_lst (pa_cons (pv 2) pa_nil)))
      (pss_cons (ps_if (PW.pt (pw_and (pt_cmpR op_eq (pv 1) pe_str (nomark _)) (pw_and (pt_cmpR op_ne (pv 2) (pv 3) (nomark _)) (pw_and1 (pt_cmpR op_ge (pe_ix (ixL K) (pe_ix (ixL K) (pv 7) (pv 2) (fun _ _ => rfl)) (pv 4) (fun _ _ => rfl)) (pv 5) (nomark _)))))) (pss_cons (ps_asg (pe_op op_sub (pe_ix (ixL K) (pe_ix (ixL K) (pv 7) (pv 2) (fun _ _ => rfl)) (pv 4) (fun _ _ => rfl)) (pv 5)) (pg_sub (pe_ix (ixL K) (pv 7) (pv 2) (fun _ _ => rfl)) (pv 4) set_list))
      (pss_cons (ps_asg (pe_op op_add (pe_ix (ixL K) (pe_ix (ixL K) (pv 7) (pv 3) (fun _ _ => rfl)) (pv 4) (fun _ _ => rfl)) (pv 5)) (pg_sub (pe_ix (ixL K) (pv 7) (pv 3) (fun _ _ => rfl)) (pv 4) set_list))
      (pss_cons (ps_expr (pe_bm PySem.F.plainAttrs_list PySem.F.slot_list_append PySem.F.type_list_append mt_append (pe_dget hu (pv 0) pe_str (fun _ _ => rfl)) (pa_cons (pe_tup (pa_cons pe_str (pa_cons (pv 2) (pa_cons (pv 3) (pa_cons (pv 4) (pa_cons (pv 5) pa_nil)))))) pa_nil)))
      (pss_one (ps_set (i := 8) nd rfl (Or.inl rfl) (pe_lst (pa_cons (pv 2) (pa_cons (pv 3) pa_nil)))))))) (pss_one (ps_if (PW.pt (pw_and (pt_cmpR op_eq (pv 1) pe_str (nomark _)) (pw_and1 (pt_cmpR op_ge (pe_ix (ixL K) (pe_ix (ixL K) (pv 7) (pv 2) (fun _ _ => rfl)) (pv 4) (fun _ _ => rfl)) (pv 5) (nomark _))))) (pss_cons (ps_asg (pe_op op_sub (pe_ix (ixL K) (pe_ix (ixL K) (pv 7) (pv 2) (fun _ _ => rfl)) (pv 4) (fun _ _ => rfl)) (pv 5)) (pg_sub (pe_ix (ixL K) (pv 7) (pv 2) (fun _ _ => rfl)) (pv 4) set_list))
      (pss_one (ps_expr (pe_bm PySem.F.plainAttrs_list PySem.F.slot_list_append PySem.F.type_list_append mt_append (pe_dget hu (pv 0) pe_str (fun _ _ => rfl)) (pa_cons (pe_tup (pa_cons pe_str (pa_cons (pv 2) (pa_cons (pv 4) (pa_cons (pv 5) pa_nil))))) pa_nil))))) (pss_one (ps_if (PW.pt (pw_and (pt_cmpR op_eq (pv 1) pe_str (nomark _)) (pw_and1 (pt_val (pe_ix (ixT K) (pe_ix (ixT K) (pe_dget hu (pv 0) pe_str (fun _ _ => rfl)) (pv 2) (fun _ _ => rfl)) pe_int (fun _ _ => rfl)))))) (pss_cons (ps_asg (pe_op op_add (pe_ix (ixL K) (pe_ix (ixL K) (pv 7) (pv 2) (fun _ _ => rfl)) (pv 4) (fun _ _ => rfl)) (pv 5)) (pg_sub (pe_ix (ixL K) (pv 7) (pv 2) (fun _ _ => rfl)) (pv 4) set_list))
      (pss_one (ps_expr (pe_bm PySem.F.plainAttrs_list PySem.F.slot_list_append PySem.F.type_list_append mt_append (pe_dget hu (pv 0) pe_str (fun _ _ => rfl)) (pa_cons (pe_tup (pa_cons pe_str (pa_cons (pv 2) (pa_cons (pv 4) (pa_cons (pv 5) pa_nil))))) pa_nil))))) (pss_one (ps_if (PW.pt (pw_and (pt_cmpR op_eq (pv 1) pe_str (nomark _)) (pw_and1 (pt_cmpR op_ne (pv 2) (pv 3) (nomark _))))) (pss_cons (ps_expr (pe_call GN hr (by rfl) DN.g DN.k DN.b .nil pass0 (pa_cons (pv 0) (pa_cons (pv 2) (pa_cons (pv 3) (pa_cons (pv 4) (pa_cons (pv 5) (pa_cons (pv 6) pa_nil))))))))
      (pss_one (ps_set (i := 8) nd rfl (Or.inl rfl) (pe_lst (pa_cons (pv 2) (pa_cons (pv 3) pa_nil)))))) (pss_one (ps_if (pt_cmpR op_eq (pv 1) pe_str (nomark _)) (pss_cons (ps_dput hu (pv 0) pe_str (pe_op op_add (pe_dget hu (pv 0) pe_str (fun _ _ => rfl)) pe_int) rfl)
      (pss_cons (ps_set (i := 9) nd rfl (Or.inl rfl) (pe_ix (ixL K) (pe_lst (pa_cons pe_str (pa_cons pe_str (pa_cons pe_str (pa_cons pe_str pa_nil))))) (pe_op op_add (pe_callTy call_int1 (by rfl) B.int b_int (pa_cons (pv 6) pa_nil)) (pe_op op_mul pe_int (pe_callTy call_int1 (by rfl) B.int b_int (pa_cons (pe_cmpR op_ne (pv 2) (pv 3) (nomark _)) pa_nil)))) (fun _ _ => rfl)))
      (pss_cons (ps_set (i := 10) nd rfl (Or.inl rfl) (pe_ifExp (pt_cmpR op_in_seq (pv 9) (pe_tup (pa_cons pe_str (pa_cons pe_str pa_nil))) (by with_unfolding_all rfl)) (pe_tup (pa_cons (pv 3) (pa_cons pe_bl pa_nil))) (pe_tup pa_nil)))
      (pss_one (ps_expr (pe_bm PySem.F.plainAttrs_list PySem.F.slot_list_append PySem.F.type_list_append mt_append (pe_ix (ixL K) (pe_dget hu (pv 0) pe_str (fun _ _ => rfl)) (pv 2) (fun _ _ => rfl)) (pa_cons (pe_op op_catA (pe_tup (pa_cons (pe_dget hu (pv 0) pe_str (fun _ _ => rfl)) (pa_cons (pv 9) (pa_cons (pv 4) (pa_cons (pv 5) pa_nil))))) (pv 10)) pa_nil))))))) (pss_one (ps_if (PW.pt (pw_and (pt_cmpR op_eq (pv 1) pe_str (nomark _)) (pw_and1 (pt_cmpR op_gt (pe_callB (lenK K) (by rfl) B.len b_len (pa_cons (pe_ix (ixL K) (pe_dget hu (pv 0) pe_str (fun _ _ => rfl)) (pv 2) (fun _ _ => rfl)) pa_nil)) pe_int (nomark _))))) (pss_one (ps_expr (pe_bm PySem.F.plainAttrs_list PySem.F.slot_list_pop PySem.F.type_list_pop mt_popAt (pe_ix (ixL K) (pe_dget hu (pv 0) pe_str (fun _ _ => rfl)) (pv 2) (fun _ _ => rfl)) (pa_cons (pe_op op_mod (pe_callTy call_int1 (by rfl) B.int b_int (pa_cons (pv 5) pa_nil)) (pe_callB (lenK K) (by rfl) B.len b_len (pa_cons (pe_ix (ixL K) (pe_dget hu (pv 0) pe_str (fun _ _ => rfl)) (pv 2) (fun _ _ => rfl)) pa_nil))) pa_nil)))) (pss_one (ps_ret pe_bl))))))))))))) hR))), ?_⟩
    have b60 := hw.b0
    obtain ⟨ns, z, hst, hz, z0, zB, hns⟩ := hw.at_ hd.p hd.k
    obtain ⟨ns', z', hst', hz', z0', zB', hns'⟩ := hw.at_ hd.o hd.k
    obtain ⟨rs, hrs, lrs⟩ := hw.file hd.p (by omega)
    obtain ⟨rs', hrs', lrs'⟩ := hw.file hd.o (by omega)
    have hmG := hw.manyG
    have hl0 := hw.l0
    have ha1 := hd.a1
    have ha2 := hd.a2
    have hkk := hd.k
    have hk2 := hw.k2
    have hpp := hd.p
    have hoo := hd.o
    obtain ⟨rp, erp⟩ : ∃ rp, x.ps[p]? = some rp := ⟨_, List.getElem?_eq_getElem hd.p⟩
    obtain ⟨a1, a2, rfl⟩ := hw.par rp (List.mem_of_getElem? erp)
    have notmG : ∀ {H' : Hp} {l : Addr} {x1 : Wd} {n1 : Nat}, WAt H' W x1 m n1 → H' l = none → l ∉ muts W m := by
      intro H' l x1 n1 hh hl hm
      unfold muts at hm
      simp only [List.mem_cons, List.mem_append] at hm
      rcases hm with rfl | rfl | rfl | rfl | rfl | rfl | hm | hm
      · rw [hh.d] at hl; cases hl
      · rw [hh.hs] at hl; cases hl
      · rw [hh.hf] at hl; cases hl
      · obtain ⟨_, e, _⟩ := hh.hg
        rw [e] at hl; cases hl
      · obtain ⟨_, e, _⟩ := hh.hev
        rw [e] at hl; cases hl
      · obtain ⟨_, e, _⟩ := hh.hli
        rw [e] at hl; cases hl
      · obtain ⟨i, hi⟩ := List.getElem?_of_mem hm
        obtain ⟨_, _, e⟩ := Paired.getL hh.hsa hi
        rw [show H' l = _ from e] at hl; cases hl
      · obtain ⟨i, hi⟩ := List.getElem?_of_mem hm
        obtain ⟨_, _, _, e, _⟩ := Paired.getL hh.hfa hi
        rw [e] at hl; cases hl
    refine ⟨_, rfl, W, _, rfl, h0.stock, ?_⟩
    refine ⟨_, rfl, (by show 1 ≤ sizeLine; decide), fun l1 hl1 => ?_⟩
    have hm1 := notmG h0 hl1
    have sl1 : Same H (upd H l1 (.lst [.int p])) := fun c o z => upd_get z hl1
    have hl1' : (upd H l1 (.lst [.int p])) l1 = some (.lst [.int p]) := upd_same
    have h00 := h0.same sl1
    obtain ⟨pw, ⟨ap, eap, hpa⟩, hpq⟩ := h00.hp
    cases eap
    obtain ⟨vp, hvp, ar, rfl, har⟩ := Paired.get hpq erp
    have kw0 : Kw W m H (upd H l1 (.lst [.int p])) := Kw.same sl1
    generalize upd H l1 (.lst [.int p]) = H0 at *
    -- pass
    refine ⟨_, rfl, rfl, _, rfl, ?_⟩
    by_cases c1 : d = "pass"
    · refine iteY (wT c1) ?_
      refine ⟨_, rfl, _, rfl, rfl, _, rfl, ?_⟩
      by_cases cp : p = o
      · refine iteN (by rw [cp]; simp) ?_
        refine iteF ?_
        subst c1
        refine ⟨_, rfl, rfl, _, rfl, ?_⟩
        refine iteN (by decide +kernel) ?_
        refine iteF ?_
        refine ⟨_, rfl, rfl, _, rfl, ?_⟩
        refine iteN (by decide +kernel) ?_
        refine iteF ?_
        refine ⟨_, rfl, rfl, _, rfl, ?_⟩
        refine iteN (by decide +kernel) ?_
        refine iteF ?_
        refine ⟨_, rfl, rfl, _, rfl, ?_⟩
        refine iteN (by decide +kernel) ?_
        refine ⟨_, rfl, rfl, _, rfl, ?_⟩
        refine iteN (by decide +kernel) ?_
        refine iteF ?_
        exact q _ _ false kw0 (h00.mono (by omega)) (hw.mono (by omega) hB) (by omega) rfl rfl
      refine iteY (by simp; omega) ?_
      obtain ⟨as, has, his⟩ := Paired.get h00.hsa hst
      refine ⟨_, rfl, _, rfl, m.s, _, _, _, rfl, rfl, SqL.of h00.hs, ref_at has, _, rfl, _, _, _, _, rfl, rfl, SqL.of his, int_at' hz, _, rfl, _, _, rfl, rfl, _, rfl, ?_⟩
      by_cases c : a ≤ z
      · refine iteY (decide_eq_true c) ?_
        obtain ⟨a1, ha2, hi3⟩ := Paired.get h00.hsa hst
        refine ⟨_, rfl, _, rfl, m.s, _, _, _, rfl, rfl, SqL.of h00.hs, ref_at ha2, _, rfl, _, _, _, _, rfl, rfl, SqL.of hi3, int_at' hz, _, rfl, _, _, rfl, rfl, _, rfl, _, rfl, m.s, _, _, _, rfl, rfl, SqL.of h00.hs, ref_at ha2, _, rfl, a1, _, _, k, rfl, rfl, hi3, ix_nat (by rw [List.length_map]; exact (List.getElem?_eq_some_iff.mp hz).1), ?_⟩
        rw [map_set_int]
        have h4 := h00.setStock ha2 ((ns).set k (z - a))
        have hst2 : (x.st.set p (ns.set k (z - a)))[o]? = some ns' := by rw [List.getElem?_set_ne cp]; exact hst'
        obtain ⟨a5, ha6, hi7⟩ := Paired.get h4.hsa hst2
        refine ⟨_, rfl, _, rfl, m.s, _, _, _, rfl, rfl, SqL.of h4.hs, ref_at ha6, _, rfl, _, _, _, _, rfl, rfl, SqL.of hi7, int_at' hz', _, rfl, _, _, rfl, rfl, _, rfl, _, rfl, m.s, _, _, _, rfl, rfl, SqL.of h4.hs, ref_at ha6, _, rfl, a5, _, _, k, rfl, rfl, hi7, ix_nat (by rw [List.length_map]; exact (List.getElem?_eq_some_iff.mp hz').1), ?_⟩
        rw [map_set_int]
        have h8 := h4.setStock ha6 ((ns').set k (z' + a))
        obtain ⟨es9, he10, hl11⟩ := h8.hev
        refine ⟨_, rfl, W, _, rfl, h8.events, .inl ⟨rfl, _, SqL.of he10⟩, _, rfl, _, rfl, _, rfl, _, rfl, (by show 5 ≤ sizeLine; decide), fun t12 ht13 => ?_⟩
        have s14 : Same _ (upd _ t12 (.tup ([.str "passed", .int p, .int o, .int k, .int a]))) := fun c o z => upd_get z ht13
        refine ⟨m.ev, es9, _, rfl, rfl, s14 _ _ he10, small1000 (by omega), ?_⟩
        have h15 := h8.same s14
        have h16 := h15.setEvents (es := es9 ++ [.ref t12]) (l := n + 1) (by rw [List.length_append]; exact Nat.succ_le_succ hl11) (Nat.le_succ n)
        refine ⟨_, rfl, _, rfl, (by show 2 ≤ sizeLine; decide), fun l2 hl2 => ?_⟩
        have sl2 : Same _ (upd _ l2 (.lst [.int p, .int o])) := fun c o z => upd_get z hl2
        have e1 := (hw.stock (B' := 2 * Bd) (by omega) hB hst (ns' := ns.set k (z - a)) (by rw [List.length_set]) fun y hy => (mem_set hy).elim (fun h => by have := hns y h; omega) fun h => by omega)
        have e2 := (e1.stock (B' := 2 * Bd) (by omega) hB hst2 (ns' := ns'.set k (z' + a)) (by rw [List.length_set]) fun y hy => (mem_set hy).elim (fun h => by have := hns' y h; omega) fun h => by omega)
        have hm2 := notmG h16 hl2
        exact tail _ _ _ l2 [(p : Int), (o : Int)] _ _ _ rfl upd_same hm2 (by simp) (Kw.trans kw0 (Kw.trans (Kw.trans (Kw.trans (Kw.trans (Kw.trans Kw.refl (Kw.upd (mSa ha2))) (Kw.upd (mSa ha6))) (Kw.same s14)) (Kw.upd (mEv W m))) (Kw.same sl2))) (h16.same sl2) e2 (by show x.last ≤ x.last + 1; omega) rfl rfl
      · refine iteN (decide_eq_false c) ?_
        subst c1
        refine ⟨_, rfl, rfl, _, rfl, ?_⟩
        refine iteN (by decide +kernel) ?_
        refine iteF ?_
        refine ⟨_, rfl, rfl, _, rfl, ?_⟩
        refine iteN (by decide +kernel) ?_
        refine iteF ?_
        refine ⟨_, rfl, rfl, _, rfl, ?_⟩
        refine iteN (by decide +kernel) ?_
        refine iteF ?_
        refine ⟨_, rfl, rfl, _, rfl, ?_⟩
        refine iteN (by decide +kernel) ?_
        refine ⟨_, rfl, rfl, _, rfl, ?_⟩
        refine iteN (by decide +kernel) ?_
        refine iteF ?_
        exact q _ _ false kw0 (h00.mono (by omega)) (hw.mono (by omega) hB) (by omega) rfl rfl
    refine iteN (wF c1) ?_
    refine iteF ?_
    -- dump
    refine ⟨_, rfl, rfl, _, rfl, ?_⟩
    by_cases c2 : d = "dump"
    · refine iteY (wT c2) ?_
      obtain ⟨as, has, his⟩ := Paired.get h00.hsa hst
      refine ⟨_, rfl, _, rfl, m.s, _, _, _, rfl, rfl, SqL.of h00.hs, ref_at has, _, rfl, _, _, _, _, rfl, rfl, SqL.of his, int_at' hz, _, rfl, _, _, rfl, rfl, _, rfl, ?_⟩
      by_cases c : a ≤ z
      · refine iteY (decide_eq_true c) ?_
        obtain ⟨a1, ha2, hi3⟩ := Paired.get h00.hsa hst
        refine ⟨_, rfl, _, rfl, m.s, _, _, _, rfl, rfl, SqL.of h00.hs, ref_at ha2, _, rfl, _, _, _, _, rfl, rfl, SqL.of hi3, int_at' hz, _, rfl, _, _, rfl, rfl, _, rfl, _, rfl, m.s, _, _, _, rfl, rfl, SqL.of h00.hs, ref_at ha2, _, rfl, a1, _, _, k, rfl, rfl, hi3, ix_nat (by rw [List.length_map]; exact (List.getElem?_eq_some_iff.mp hz).1), ?_⟩
        rw [map_set_int]
        have h4 := h00.setStock ha2 ((ns).set k (z - a))
        obtain ⟨es5, he6, hl7⟩ := h4.hev
        refine ⟨_, rfl, W, _, rfl, h4.events, .inl ⟨rfl, _, SqL.of he6⟩, _, rfl, _, rfl, _, rfl, (by show 4 ≤ sizeLine; decide), fun t8 ht9 => ?_⟩
        have s10 : Same _ (upd _ t8 (.tup ([.str "dumped", .int p, .int k, .int a]))) := fun c o z => upd_get z ht9
        refine ⟨m.ev, es5, _, rfl, rfl, s10 _ _ he6, small1000 (by omega), ?_⟩
        have h11 := h4.same s10
        have h12 := h11.setEvents (es := es5 ++ [.ref t8]) (l := n + 1) (by rw [List.length_append]; exact Nat.succ_le_succ hl7) (Nat.le_succ n)
        have e1 := (hw.stock (B' := 2 * Bd) (by omega) hB hst (ns' := ns.set k (z - a)) (by rw [List.length_set]) fun y hy => (mem_set hy).elim (fun h => by have := hns y h; omega) fun h => by omega)
        exact tail _ _ _ l1 [(p : Int)] _ _ _ rfl ((Kw.trans (Kw.trans (Kw.trans Kw.refl (Kw.upd (mSa ha2))) (Kw.same s10)) (Kw.upd (mEv W m))) _ _ hl1' hm1) hm1 (by simp) (Kw.trans kw0 (Kw.trans (Kw.trans (Kw.trans Kw.refl (Kw.upd (mSa ha2))) (Kw.same s10)) (Kw.upd (mEv W m)))) h12 e1 (by show x.last ≤ x.last + 1; omega) rfl rfl
      · refine iteN (decide_eq_false c) ?_
        subst c2
        refine ⟨_, rfl, rfl, _, rfl, ?_⟩
        refine iteN (by decide +kernel) ?_
        refine iteF ?_
        refine ⟨_, rfl, rfl, _, rfl, ?_⟩
        refine iteN (by decide +kernel) ?_
        refine iteF ?_
        refine ⟨_, rfl, rfl, _, rfl, ?_⟩
        refine iteN (by decide +kernel) ?_
        refine ⟨_, rfl, rfl, _, rfl, ?_⟩
        refine iteN (by decide +kernel) ?_
        refine iteF ?_
        exact q _ _ false kw0 (h00.mono (by omega)) (hw.mono (by omega) hB) (by omega) rfl rfl
    refine iteN (wF c2) ?_
    refine iteF ?_
    -- conjure
    refine ⟨_, rfl, rfl, _, rfl, ?_⟩
    by_cases c3 : d = "conjure"
    · refine iteY (wT c3) ?_
      refine ⟨_, rfl, W, _, rfl, h00.parties, _, rfl, m.p, _, p, _, rfl, rfl, SqT.of hpa, atI_nat hvp, ar, _, 0, _, rfl, rfl, SqT.of har, rfl, _, rfl, ?_⟩
      cases a1 with
      | false =>
        refine iteF ?_
        subst c3
        refine ⟨_, rfl, rfl, _, rfl, ?_⟩
        refine iteN (by decide +kernel) ?_
        refine iteF ?_
        refine ⟨_, rfl, rfl, _, rfl, ?_⟩
        refine iteN (by decide +kernel) ?_
        refine ⟨_, rfl, rfl, _, rfl, ?_⟩
        refine iteN (by decide +kernel) ?_
        refine iteF ?_
        exact q _ _ false kw0 (h00.mono (by omega)) (hw.mono (by omega) hB) (by omega) rfl rfl
      | true =>
        refine iteT ?_
        obtain ⟨a1, ha2, hi3⟩ := Paired.get h00.hsa hst
        refine ⟨_, rfl, _, rfl, m.s, _, _, _, rfl, rfl, SqL.of h00.hs, ref_at ha2, _, rfl, _, _, _, _, rfl, rfl, SqL.of hi3, int_at' hz, _, rfl, _, _, rfl, rfl, _, rfl, _, rfl, m.s, _, _, _, rfl, rfl, SqL.of h00.hs, ref_at ha2, _, rfl, a1, _, _, k, rfl, rfl, hi3, ix_nat (by rw [List.length_map]; exact (List.getElem?_eq_some_iff.mp hz).1), ?_⟩
        rw [map_set_int]
        have h4 := h00.setStock ha2 ((ns).set k (z + a))
        obtain ⟨es5, he6, hl7⟩ := h4.hev
        refine ⟨_, rfl, W, _, rfl, h4.events, .inl ⟨rfl, _, SqL.of he6⟩, _, rfl, _, rfl, _, rfl, (by show 4 ≤ sizeLine; decide), fun t8 ht9 => ?_⟩
        have s10 : Same _ (upd _ t8 (.tup ([.str "conjured", .int p, .int k, .int a]))) := fun c o z => upd_get z ht9
        refine ⟨m.ev, es5, _, rfl, rfl, s10 _ _ he6, small1000 (by omega), ?_⟩
        have h11 := h4.same s10
        have h12 := h11.setEvents (es := es5 ++ [.ref t8]) (l := n + 1) (by rw [List.length_append]; exact Nat.succ_le_succ hl7) (Nat.le_succ n)
        have e1 := (hw.stock (B' := 2 * Bd) (by omega) hB hst (ns' := ns.set k (z + a)) (by rw [List.length_set]) fun y hy => (mem_set hy).elim (fun h => by have := hns y h; omega) fun h => by omega)
        exact tail _ _ _ l1 [(p : Int)] _ _ _ rfl ((Kw.trans (Kw.trans (Kw.trans Kw.refl (Kw.upd (mSa ha2))) (Kw.same s10)) (Kw.upd (mEv W m))) _ _ hl1' hm1) hm1 (by simp) (Kw.trans kw0 (Kw.trans (Kw.trans (Kw.trans Kw.refl (Kw.upd (mSa ha2))) (Kw.same s10)) (Kw.upd (mEv W m)))) h12 e1 (by show x.last ≤ x.last + 1; omega) rfl rfl
    refine iteN (wF c3) ?_
    refine iteF ?_
    -- sign
    refine ⟨_, rfl, rfl, _, rfl, ?_⟩
    by_cases c4 : d = "sign"
    · refine iteY (wT c4) ?_
      refine ⟨_, rfl, _, rfl, rfl, _, rfl, ?_⟩
      by_cases cp : p = o
      · refine iteN (by rw [cp]; simp) ?_
        subst c4
        refine ⟨_, rfl, rfl, _, rfl, ?_⟩
        refine iteN (by decide +kernel) ?_
        refine ⟨_, rfl, rfl, _, rfl, ?_⟩
        refine iteN (by decide +kernel) ?_
        refine iteF ?_
        exact q _ _ false kw0 (h00.mono (by omega)) (hw.mono (by omega) hB) (by omega) rfl rfl
      refine iteY (by simp; omega) ?_
      refine ⟨_, rfl, _, rfl, _, rfl, _, rfl, _, rfl, _, rfl, W, x, m, n, p, o, k, a, b, rs, rs', rfl, h00, hrs, hrs', cp, by omega, by omega, fun H1 kw1 h1 => ?_⟩
      refine ⟨_, rfl, _, rfl, (by show 2 ≤ sizeLine; decide), fun l2 hl2 => ?_⟩
      have sl2 : Same _ (upd _ l2 (.lst [.int p, .int o])) := fun c o z => upd_get z hl2
      have hm2 := notmG h1 hl2
      exact tail _ _ _ l2 [(p : Int), (o : Int)] _ _ _ rfl upd_same hm2 (by simp) (Kw.trans kw0 (Kw.trans (Kw.trans Kw.refl (kw1)) (Kw.same sl2))) ((h1.same sl2).mono (Nat.le_succ n)) ((hw.mono (by omega) hB).two hrs hrs' cp ⟨x.last + 1, k, a, by omega, by show 0 ≤ (k : Int) ∧ (k : Int) ≤ x.k - 1; omega, by omega, .inr ⟨"gave", o, b, .inl rfl, by omega, by show (o : Int) ≤ x.ps.length - 1; omega, by omega, rfl⟩⟩ ⟨x.last + 1, k, a, by omega, by show 0 ≤ (k : Int) ∧ (k : Int) ≤ x.k - 1; omega, by omega, .inr ⟨"took", p, b, .inr rfl, by omega, by show (p : Int) ≤ x.ps.length - 1; omega, by omega, rfl⟩⟩ rfl rfl) (by exact Int.le_refl _) rfl rfl
    refine iteN (wF c4) ?_
    refine iteF ?_
    -- write
    refine ⟨_, rfl, rfl, _, rfl, ?_⟩
    by_cases c5 : d = "write"
    · refine iteY (wT c5) ?_
      refine ⟨_, rfl, W, _, rfl, h00.lastG, _, _, rfl, rfl, _, rfl, W, _, rfl, h00.putLast _, ?_⟩
      have h1 := h00.setLast (x.last + 1)
      refine ⟨(by show 4 ≤ sizeLine; decide), fun l3 hl3 => ?_⟩
      have s3 : Same _ (upd _ l3 (.lst [.str "made", .str "treated", .str "gave", .str "took"])) := fun c o z => upd_get z hl3
      obtain ⟨dd, hdd, hcase⟩ := deed_at b p o
      refine ⟨_, rfl, .inr ⟨_, rfl, _, rfl, _, rfl, rfl, .inr ⟨_, rfl, _, _, rfl, rfl, .inl ⟨by decide, by decide⟩, _, _, rfl, rfl, l3, _, _, _, rfl, rfl, SqL.of upd_same, hdd, ?_⟩⟩⟩
      have h2 := h1.same s3
      refine ⟨_, rfl, (by show 2 ≤ sizeLine; decide), fun t4 ht4 => ?_⟩
      have s4 : Same _ (upd _ t4 (.tup [.str "gave", .str "took"])) := fun c o z => upd_get z ht4
      have h3 := h2.same s4
      rcases hcase with ⟨cp, hdd2⟩ | ⟨cp, hdd2⟩
      · have hin : inV (.str dd) [.str "gave", .str "took"] = false := by rcases hdd2 with rfl | rfl <;> decide +kernel
        refine ⟨t4, _, rfl, .inr (SqT.of upd_same), rfl, rfl, _, rfl, ?_⟩
        refine iteN hin ?_
        refine ⟨(by show 0 ≤ sizeLine; decide), fun t5 ht5 => ?_⟩
        have s5 : Same _ (upd _ t5 (.tup ([]))) := fun c o z => upd_get z ht5
        have h4 := h3.same s5
        obtain ⟨ag, hag, wsg, hwg, hqg⟩ := Paired.get h4.hfa hrs
        refine ⟨_, rfl, W, _, rfl, h4.files, _, rfl, m.f, _, _, _, rfl, rfl, SqL.of h4.hf, ref_at hag, .inl ⟨rfl, _, SqL.of hwg⟩, _, rfl, W, _, rfl, h4.lastG, _, rfl, _, rfl, _, rfl, (by show 4 ≤ sizeLine; decide), fun t6 ht6 => ?_⟩
        have s6 : Same _ (upd _ t6 (.tup [.int (x.last + 1), .str dd, .int k, .int a])) := fun c o z => upd_get z ht6
        have h5 := h4.same s6
        have k6 := (Kt.same s6).kp
        have hm5 := s6 _ _ (upd_same (a := t5))
        refine ⟨_, rfl, t6, t5, _, _, rfl, rfl, SqT.of upd_same, SqT.of hm5, (by show 4 ≤ sizeLine; decide), fun z => absurd z (by simp), fun _ _ => ?_, fun _ z => absurd rfl z⟩
        refine ⟨ag, wsg, _, rfl, rfl, s6 _ _ hwg, small1000 (by rw [paired_len hqg]; omega), ?_⟩
        have h6 := h5.setFile hag (paired_app (Paired.mapP hqg fun _ _ z => k6.tp z) (.cons ⟨t6, rfl, upd_same⟩ .nil))
        exact tail _ _ _ l1 [(p : Int)] _ _ _ rfl ((Kw.trans (Kw.trans (Kw.trans (Kw.trans (Kw.trans (Kw.trans Kw.refl (Kw.upd (mW W m))) (Kw.same s3)) (Kw.same s4)) (Kw.same s5)) (Kw.same s6)) (Kw.upd (mFa hag))) _ _ hl1' hm1) hm1 (by simp) (Kw.trans kw0 (Kw.trans (Kw.trans (Kw.trans (Kw.trans (Kw.trans (Kw.trans Kw.refl (Kw.upd (mW W m))) (Kw.same s3)) (Kw.same s4)) (Kw.same s5)) (Kw.same s6)) (Kw.upd (mFa hag)))) (h6.mono (Nat.le_succ n)) ((hw.mono (by omega) hB).one hrs (r := [.int (x.last + 1), .str dd, .int k, .int a]) ⟨x.last + 1, k, a, by omega, by show 0 ≤ (k : Int) ∧ (k : Int) ≤ x.k - 1; omega, by omega, .inl ⟨dd, hdd2, rfl⟩⟩ rfl) (by exact Int.le_refl _) rfl rfl
      · have hin : inV (.str dd) [.str "gave", .str "took"] = true := by rcases hdd2 with rfl | rfl <;> decide +kernel
        refine ⟨t4, _, rfl, .inr (SqT.of upd_same), rfl, rfl, _, rfl, ?_⟩
        refine iteY hin ?_
        refine ⟨_, rfl, (by show 2 ≤ sizeLine; decide), fun t5 ht5 => ?_⟩
        have s5 : Same _ (upd _ t5 (.tup ([.int o, .bl false]))) := fun c o z => upd_get z ht5
        have h4 := h3.same s5
        obtain ⟨ag, hag, wsg, hwg, hqg⟩ := Paired.get h4.hfa hrs
        refine ⟨_, rfl, W, _, rfl, h4.files, _, rfl, m.f, _, _, _, rfl, rfl, SqL.of h4.hf, ref_at hag, .inl ⟨rfl, _, SqL.of hwg⟩, _, rfl, W, _, rfl, h4.lastG, _, rfl, _, rfl, _, rfl, (by show 4 ≤ sizeLine; decide), fun t6 ht6 => ?_⟩
        have s6 : Same _ (upd _ t6 (.tup [.int (x.last + 1), .str dd, .int k, .int a])) := fun c o z => upd_get z ht6
        have h5 := h4.same s6
        have k6 := (Kt.same s6).kp
        have hm5 := s6 _ _ (upd_same (a := t5))
        refine ⟨_, rfl, t6, t5, _, _, rfl, rfl, SqT.of upd_same, SqT.of hm5, (by show 6 ≤ sizeLine; decide), fun z => absurd z (by simp), fun _ z => absurd z (by simp), fun _ _ t7 ht7 => ?_⟩
        have s7 : Same _ (upd _ t7 (.tup [.int (x.last + 1), .str dd, .int k, .int a, .int o, .bl false])) := fun c o z => upd_get z ht7
        have h6 := h5.same s7
        have k7 := (Kt.same s7).kp
        refine ⟨ag, wsg, _, rfl, rfl, s7 _ _ (s6 _ _ hwg), small1000 (by rw [paired_len hqg]; omega), ?_⟩
        have h7 := h6.setFile hag (paired_app (Paired.mapP hqg fun _ _ z => k7.tp (k6.tp z)) (.cons ⟨t7, rfl, upd_same⟩ .nil))
        exact tail _ _ _ l1 [(p : Int)] _ _ _ rfl ((Kw.trans (Kw.trans (Kw.trans (Kw.trans (Kw.trans (Kw.trans (Kw.trans Kw.refl (Kw.upd (mW W m))) (Kw.same s3)) (Kw.same s4)) (Kw.same s5)) (Kw.same s6)) (Kw.same s7)) (Kw.upd (mFa hag))) _ _ hl1' hm1) hm1 (by simp) (Kw.trans kw0 (Kw.trans (Kw.trans (Kw.trans (Kw.trans (Kw.trans (Kw.trans (Kw.trans Kw.refl (Kw.upd (mW W m))) (Kw.same s3)) (Kw.same s4)) (Kw.same s5)) (Kw.same s6)) (Kw.same s7)) (Kw.upd (mFa hag)))) (h7.mono (Nat.le_succ n)) ((hw.mono (by omega) hB).one hrs (r := [.int (x.last + 1), .str dd, .int k, .int a, .int o, .bl false]) ⟨x.last + 1, k, a, by omega, by show 0 ≤ (k : Int) ∧ (k : Int) ≤ x.k - 1; omega, by omega, .inr ⟨dd, o, false, hdd2, by omega, by show (o : Int) ≤ x.ps.length - 1; omega, by omega, rfl⟩⟩ rfl) (by exact Int.le_refl _) rfl rfl
    refine iteN (wF c5) ?_
    -- omit
    refine ⟨_, rfl, rfl, _, rfl, ?_⟩
    by_cases c6 : d = "omit"
    · refine iteY (wT c6) ?_
      obtain ⟨ag, hag, wsg, hwg, hqg⟩ := Paired.get h00.hfa hrs
      have hlg := paired_len hqg
      refine ⟨_, rfl, W, _, rfl, h00.files, _, rfl, m.f, _, _, _, rfl, rfl, SqL.of h00.hf, ref_at hag, _, _, rfl, .inl (SqL.of hwg), _, _, rfl, rfl, _, rfl, ?_⟩
      by_cases c : 0 < wsg.length
      · refine iteY (decide_eq_true (by omega)) ?_
        have e0 : 0 ≤ a % (wsg.length : Int) := Int.emod_nonneg _ (by omega)
        have e1 : a % (wsg.length : Int) < wsg.length := Int.emod_lt_of_pos _ (by omega)
        obtain ⟨j, hj⟩ : ∃ j : Nat, a % (wsg.length : Int) = j := ⟨(a % (wsg.length : Int)).toNat, by omega⟩
        have hj2 : j < wsg.length := by omega
        have hseq := (ixN_seq (ix_nat hj2)).1
        refine ⟨_, rfl, W, _, rfl, h00.files, _, rfl, m.f, _, _, _, rfl, rfl, SqL.of h00.hf, ref_at hag, .inl ⟨rfl, _, SqL.of hwg⟩, _, rfl, .inl ⟨_, rfl, _, rfl, W, _, rfl, h00.files, _, rfl, m.f, _, _, _, rfl, rfl, SqL.of h00.hf, ref_at hag, _, _, rfl, .inl (SqL.of hwg), _, _, rfl, rfl, (by show (0 : Int) < _; omega), ag, wsg, _, j, _, rfl, rfl, hwg, by omega, by omega, by rw [hj]; exact hseq, List.getElem?_eq_getElem hj2, ?_⟩⟩
        have h9 := h00.setFile hag (paired_erase j hqg)
        exact tail _ _ _ l1 [(p : Int)] _ _ _ rfl (Kw.upd (mFa hag) _ _ hl1' hm1) hm1 (by simp) (Kw.trans kw0 (Kw.upd (mFa hag))) (h9.mono (Nat.le_succ n)) ((hw.mono (by omega) hB).omit hrs j) (by show x.last ≤ x.last + 1; omega) rfl rfl
      · refine iteN (decide_eq_false (by omega)) ?_
        exact q _ _ false kw0 (h00.mono (by omega)) (hw.mono (by omega) hB) (by omega) rfl rfl
    · refine iteN (wF c6) ?_
      refine iteF ?_
      exact q _ _ false kw0 (h00.mono (by omega)) (hw.mono (by omega) hB) (by omega) rfl rfl
end
end K1
end
section
set_option Elab.async false
set_option linter.all false
set_option maxRecDepth 100000
set_option maxHeartbeats 2000000
namespace K1
open PySem PyProof.Rows L2
section
variable {P : Program} {w : World} {K : PySem.W.Frag} {mg : Str → Option Value} {base : Heap}
theorem mod_nat {z n : Int} (h : 0 < n) : ∃ p : Nat, z % n = p ∧ (p : Int) < n := ⟨(z % n).toNat, by have := Int.emod_nonneg z (show n ≠ 0 by omega); omega, by have := Int.emod_nonneg z (show n ≠ 0 by omega); have := Int.emod_lt_of_pos z h; omega⟩
def Strs7 (ws : List V) : Prop := ws.length = 7 ∧ ∀ y ∈ ws, ∃ d : Str, y = .str d
def spDeed : Sp := fun vs H Q _ => ∃ (c ly : Int) (W : Addr) (x : Wd) (m : Wm) (n : Nat) (B : Int), vs = [.int c, .ref W, .int ly] ∧ WAt H W x m n ∧ WOk B x ∧
  ∀ H' v (d : Str) (p o k : Nat) (a : Int) (b : Bool), Same H H' → TpV H' v [.str d, .int p, .int o, .int k, .int a, .bl b] → DeedOk B x p o k a → Q v H'
theorem scDeed : FnScope ["_law_cell_here", "_law_world_here", "_law_lying", "_law_draws_here", "_law_many", "_law_words", "_law_party", "_law_kind", "_law_word", "_law_amount", "_law_stock"] ["_law_cell_here", "_law_world_here", "_law_lying"] (defScope sDeed) := ⟨rfl, rfl, rfl, by decide +kernel, rfl, by decide +kernel, by decide +kernel⟩
theorem ok_deed {f fD : Addr} {fd fdD : FuncData} (D : DefAt K mg "_law_deed" sDeed ["_law_cell_here", "_law_world_here", "_law_lying"] f fd) (B : Blt mg) (DD : DefAt K mg "_law_draws" sDraws ["_law_cell_here", "_law_count"] fD fdD) (GD : FnOk P w K mg base CX0 1 fD fdD ["_law_cell_here", "_law_count"] spDraws) :
    FnOk P w K mg base CX0 2 f fd ["_law_cell_here", "_law_world_here", "_law_lying"] spDeed := by
  refine D.F.ok scDeed (fun vs H Q E h => ?_) (fun cdv A outer s H vs Q E hr h => ?_)
  · obtain ⟨c, ly, W, x, m, n, Bd, rfl, _⟩ := h
    rfl
  · obtain ⟨c, ly, W, x, m, n, Bd, rfl, h0, hw, q⟩ := h
    have nd := scDeed.nd
    have hu := hu_of hr
    have p1 := hw.p1
    have k1 := hw.k1
    have b60 := hw.b0
    -- the return
    have last : ∃ tR, PSs (cxOf CX0 P w K mg base ["_law_cell_here", "_law_world_here", "_law_lying", "_law_draws_here", "_law_many", "_law_words", "_law_party", "_law_kind", "_law_word", "_law_amount", "_law_stock"] "_law_deed" (defScope sDeed) f cdv A outer s H E).nox ((defBody sDeed).drop 10) tR ∧
        ∀ (l lw : Addr) (ds : List Int) (H1 : Hp) (d : Str) (p k : Nat) (a z : Int), Same H H1 → H1 l = some (.lst (ds.map V.int)) → ds.length = 8 → p < x.ps.length → (k : Int) < x.k → 1 ≤ a → a ≤ Bd →
          tR { nx := fun _ H' => Q .non H', rt := Q } [some (.int c), some (.ref W), some (.int ly), some (.ref l), some (.int x.ps.length), some (.ref lw), some (.int p), some (.int k), some (.str d), some (.int a), some (.int z)] H1 := by
      refine ⟨_, (pss_one (ps_ret (pe_tup (pa_cons (pv 8) (pa_cons (pv 6) (pa_cons (pe_op op_mod (pe_callTy call_int1 (by rfl) B.int b_int (pa_cons (pe_ix (ixL K) (pv 3) pe_int (fun _ _ => rfl)) pa_nil)) (pv 4)) (pa_cons (pv 7) (pa_cons (pv 9) (pa_cons (pe_cmpR op_eq (pe_op op_mod (pe_callTy call_int1 (by rfl) B.int b_int (pa_cons (pe_ix (ixL K) (pv 3) pe_int (fun _ _ => rfl)) pa_nil)) pe_int) pe_int (nomark _)) pa_nil))))))))), ?_⟩
      intro l lw ds H1 d p k a z s1 hl hlen hp hk ha1 ha2
      obtain ⟨o, ho, hol⟩ := mod_nat (z := ds[3]'(by omega)) (show (0 : Int) < x.ps.length by omega)
      refine ⟨_, rfl, _, rfl, _, rfl, l, _, 3, _, rfl, rfl, SqL.of hl, int_at (k := 3) (by omega), .inl ⟨_, rfl, _, rfl, _, _, rfl, rfl, (by show (0 : Int) < _; omega), _, rfl, _, rfl, _, rfl, l, _, 7, _, rfl, rfl, SqL.of hl, int_at (k := 7) (by omega), .inl ⟨_, rfl, _, _, rfl, rfl, (by show (0 : Int) < 2; decide), rfl, (by show 6 ≤ sizeLine; decide), fun t ht => ?_⟩⟩⟩
      dsimp only
      rw [ho]
      exact q _ _ d p o k a _ (fun b u e => upd_get (s1 _ _ e) ht) ⟨t, rfl, upd_same⟩ ⟨hp, by omega, hk, ha1, ha2⟩
    obtain ⟨tR, hR, last⟩ := last
    have mid : ∃ tM, PSs (cxOf CX0 P w K mg base ["_law_cell_here", "_law_world_here", "_law_lying", "_law_draws_here", "_law_many", "_law_words", "_law_party", "_law_kind", "_law_word", "_law_amount", "_law_stock"] "_law_deed" (defScope sDeed) f cdv A outer s H E).nox ((defBody sDeed).drop 4) tM ∧
        ∀ (l lw : Addr) (ds : List Int) (ws : List V) (H1 : Hp), Same H H1 → H1 l = some (.lst (ds.map V.int)) → ds.length = 8 → H1 lw = some (.lst ws) → Strs7 ws →
          tM { nx := fun _ H' => Q .non H', rt := Q } [some (.int c), some (.ref W), some (.int ly), some (.ref l), some (.int x.ps.length), some (.ref lw), none, none, none, none, none] H1 := by
      refine ⟨_, (pss_cons (ps_set (i := 6) nd rfl (Or.inl rfl) (pe_op op_mod (pe_callTy call_int1 (by rfl) B.int b_int (pa_cons (pe_ix (ixL K) (pv 3) pe_int (fun _ _ => rfl)) pa_nil)) (pv 4)))
      (pss_cons (ps_set (i := 7) nd rfl (Or.inl rfl) (pe_op op_mod (pe_callTy call_int1 (by rfl) B.int b_int (pa_cons (pe_ix (ixL K) (pv 3) pe_int (fun _ _ => rfl)) pa_nil)) (pe_dget hu (pv 1) pe_str (fun _ _ => rfl))))
      (pss_cons (ps_set (i := 8) nd rfl (Or.inl rfl) (pe_ix (ixL K) (pv 5) (pe_op op_mod (pe_callTy call_int1 (by rfl) B.int b_int (pa_cons (pe_ix (ixL K) (pv 3) pe_int (fun _ _ => rfl)) pa_nil)) pe_int) (fun _ _ => rfl)))
      (pss_cons (ps_set (i := 9) nd rfl (Or.inl rfl) (pe_op op_add pe_int (pe_op op_mod (pe_callTy call_int1 (by rfl) B.int b_int (pa_cons (pe_ix (ixL K) (pv 3) pe_int (fun _ _ => rfl)) pa_nil)) pe_int)))
      (pss_cons (ps_set (i := 10) nd rfl (Or.inl rfl) (pe_ix (ixL K) (pe_ix (ixL K) (pe_dget hu (pv 1) pe_str (fun _ _ => rfl)) (pv 6) (fun _ _ => rfl)) (pv 7) (fun _ _ => rfl)))
      (pss_cons (ps_if (PW.pt (pw_and (pt_cmpR op_in_seq (pv 8) (pe_tup (pa_cons pe_str (pa_cons pe_str (pa_cons pe_str (pa_cons pe_str pa_nil))))) (by with_unfolding_all rfl)) (pw_and (pt_cmpR op_gt (pv 10) pe_int (nomark _)) (pw_and1 (pt_cmpR op_gt (pe_op op_mod (pe_callTy call_int1 (by rfl) B.int b_int (pa_cons (pe_ix (ixL K) (pv 3) pe_int (fun _ _ => rfl)) pa_nil)) pe_int) pe_int (nomark _)))))) (pss_one (ps_set (i := 9) nd rfl (Or.inl rfl) (pe_op op_add pe_int (pe_op op_mod (pe_callTy call_int1 (by rfl) B.int b_int (pa_cons (pe_ix (ixL K) (pv 3) pe_int (fun _ _ => rfl)) pa_nil)) (pv 10))))) pss_nil)
      hR)))))), ?_⟩
      intro l lw ds ws H1 s1 hl hlen hlw hws
      have h1 := h0.same s1
      obtain ⟨p, hp, hpl⟩ := mod_nat (z := ds[2]'(by omega)) (show (0 : Int) < x.ps.length by omega)
      obtain ⟨k, hk, hkl⟩ := mod_nat (z := ds[4]'(by omega)) (show (0 : Int) < x.k by omega)
      obtain ⟨j, hj, hjl⟩ := mod_nat (z := ds[1]'(by omega)) (show (0 : Int) < 7 by decide)
      have hp' : p < x.ps.length := by omega
      obtain ⟨ns, z, hst, hz, z0, zB, _⟩ := hw.at_ hp' hkl
      obtain ⟨as, has, his⟩ := Paired.get h1.hsa hst
      have hjw : j < ws.length := by rw [hws.1]; omega
      obtain ⟨d, hd⟩ := hws.2 _ (List.getElem_mem hjw)
      have hjd : atI ws (j : Int) = some (.str d) := atI_nat (by rw [List.getElem?_eq_getElem hjw, hd])
      refine ⟨_, rfl, l, _, 2, _, rfl, rfl, SqL.of hl, int_at (k := 2) (by omega), .inl ⟨_, rfl, _, rfl, _, _, rfl, rfl, (by show (0 : Int) < _; omega), ?_⟩⟩
      dsimp only
      rw [hp]
      refine ⟨_, rfl, l, _, 4, _, rfl, rfl, SqL.of hl, int_at (k := 4) (by omega), .inl ⟨_, rfl, _, rfl, W, _, rfl, h1.kinds, _, _, rfl, rfl, (by show (0 : Int) < _; omega), ?_⟩⟩
      dsimp only
      rw [hk]
      refine ⟨_, rfl, _, rfl, l, _, 1, _, rfl, rfl, SqL.of hl, int_at (k := 1) (by omega), .inl ⟨_, rfl, _, _, rfl, rfl, (by show (0 : Int) < 7; decide), lw, _, _, _, rfl, rfl, SqL.of hlw, (by rw [hj]; exact hjd), ?_⟩⟩
      refine ⟨_, rfl, l, _, 5, _, rfl, rfl, SqL.of hl, int_at (k := 5) (by omega), .inl ⟨_, rfl, _, _, rfl, rfl, (by show (0 : Int) < 60; decide), _, _, rfl, rfl, ?_⟩⟩
      refine ⟨_, rfl, W, _, rfl, h1.stock, _, rfl, m.s, _, _, _, rfl, rfl, SqL.of h1.hs, ref_at has, _, rfl, _, _, _, _, rfl, rfl, SqL.of his, int_at' hz, ?_⟩
      have e0 : 0 ≤ (ds[5]'(by omega)) % 60 := Int.emod_nonneg _ (by decide)
      have e1 : (ds[5]'(by omega)) % 60 < 60 := Int.emod_lt_of_pos _ (by decide)
      refine ⟨_, rfl, (by show 4 ≤ sizeLine; decide), fun t ht => ?_⟩
      have s2 : Same H1 (upd H1 t (.tup [.str "hand", .str "treat", .str "pass", .str "dump"])) := fun c o e => upd_get e ht
      have s12 : Same H (upd H1 t (.tup [.str "hand", .str "treat", .str "pass", .str "dump"])) := fun c o e => s2 _ _ (s1 _ _ e)
      refine ⟨t, _, rfl, .inr (SqT.of upd_same), rfl, rfl, _, rfl, ?_⟩
      refine iteB (fun _ => ?_) (fun _ => ?_)
      · refine ⟨_, rfl, _, _, rfl, rfl, _, rfl, ?_⟩
        by_cases cz : z > 0
        · refine iteY (decide_eq_true cz) ?_
          refine ⟨_, rfl, l, _, 6, _, rfl, rfl, SqL.of (s2 _ _ hl), int_at (k := 6) (by omega), .inl ⟨_, rfl, _, _, rfl, rfl, (by show (0 : Int) < 5; decide), _, _, rfl, rfl, _, rfl, ?_⟩⟩
          refine iteB (fun _ => ?_) (fun _ => ?_)
          · refine ⟨_, rfl, l, _, 5, _, rfl, rfl, SqL.of (s2 _ _ hl), int_at (k := 5) (by omega), .inl ⟨_, rfl, _, rfl, _, _, rfl, rfl, (by show (0 : Int) < _; omega), _, _, rfl, rfl, ?_⟩⟩
            have e2 : 0 ≤ (ds[5]'(by omega)) % z := Int.emod_nonneg _ (by omega)
            have e3 : (ds[5]'(by omega)) % z < z := Int.emod_lt_of_pos _ (by omega)
            exact last l lw ds _ d p k _ z s12 (s2 _ _ hl) hlen hp' hkl (by omega) (by omega)
          · exact last l lw ds _ d p k _ z s12 (s2 _ _ hl) hlen hp' hkl (by omega) (by omega)
        · refine iteN (decide_eq_false cz) ?_
          refine iteF ?_
          exact last l lw ds _ d p k _ z s12 (s2 _ _ hl) hlen hp' hkl (by omega) (by omega)
      · refine iteF ?_
        exact last l lw ds _ d p k _ z s12 (s2 _ _ hl) hlen hp' hkl (by omega) (by omega)
    obtain ⟨tM, hM, mid⟩ := mid
    refine ⟨_, (pss_cons (ps_set (i := 3) nd rfl (Or.inl rfl) (pe_call GD hr (by rfl) DD.g DD.k DD.b .nil pass0 (pa_cons (pv 0) (pa_cons pe_int pa_nil))))
      (pss_cons (ps_set (i := 4) nd rfl (Or.inl rfl) (pe_callB (lenK K) (by rfl) B.len b_len (pa_cons (pe_dget hu (pv 1) pe_str (fun _ _ => rfl)) pa_nil)))
      (pss_cons (ps_set (i := 5) nd rfl (Or.inl rfl) (pe_lst (pa_cons pe_str (pa_cons pe_str (pa_cons pe_str (pa_cons pe_str (pa_cons pe_str (pa_cons pe_str (pa_cons pe_str pa_nil)))))))))
      (pss_cons (ps_if (pt_cmpR op_lt (pe_op op_mod (pe_callTy call_int1 (by rfl) B.int b_int (pa_cons (pe_ix (ixL K) (pv 3) pe_int (fun _ _ => rfl)) pa_nil)) pe_int) (pv 2) (nomark _)) (pss_one (ps_set (i := 5) nd rfl (Or.inl rfl) (pe_lst (pa_cons pe_str (pa_cons pe_str (pa_cons pe_str (pa_cons pe_str (pa_cons pe_str (pa_cons pe_str (pa_cons pe_str pa_nil)))))))))) pss_nil)
      hM)))), ?_⟩
    refine ⟨_, rfl, c, 8, rfl, by decide, fun l H1 ds s1 hl hl1 hlen hpos => ?_⟩
    have h1 := h0.same s1
    obtain ⟨pw, ⟨ap, eap, hpa⟩, hpq⟩ := h1.hp
    cases eap
    refine ⟨_, rfl, W, _, rfl, h1.parties, _, _, rfl, .inr (SqT.of hpa), ?_⟩
    rw [paired_len hpq]
    refine ⟨(by show 7 ≤ sizeLine; decide), fun lw hlw => ?_⟩
    have s2 : Same H1 (upd H1 lw (.lst [.str "make", .str "make", .str "hand", .str "hand", .str "hand", .str "treat", .str "inspect"])) := fun c o e => upd_get e hlw
    refine ⟨_, rfl, l, _, 0, _, rfl, rfl, SqL.of (s2 _ _ hl1), int_at (k := 0) (by omega), .inl ⟨_, rfl, _, _, rfl, rfl, (by show (0 : Int) < 10; decide), _, rfl, _, _, rfl, rfl, _, rfl, ?_⟩⟩
    refine iteB (fun _ => ?_) (fun _ => ?_)
    · refine ⟨(by show 7 ≤ sizeLine; decide), fun lw2 hlw2 => ?_⟩
      have s3 : Same _ (upd _ lw2 (.lst [.str "pass", .str "dump", .str "conjure", .str "sign", .str "write", .str "omit", .str "pass"])) := fun c o e => upd_get e hlw2
      exact mid l lw2 ds _ _ (fun b u e => s3 _ _ (s2 _ _ (s1 _ _ e))) (s3 _ _ (s2 _ _ hl1)) hlen upd_same ⟨rfl, fun y hy => by
        simp only [List.mem_cons, List.not_mem_nil, or_false] at hy
        rcases hy with e | e | e | e | e | e | e <;> exact ⟨_, e⟩⟩
    · exact mid l lw ds _ _ (fun b u e => s2 _ _ (s1 _ _ e)) (s2 _ _ hl1) hlen upd_same ⟨rfl, fun y hy => by
        simp only [List.mem_cons, List.not_mem_nil, or_false] at hy
        rcases hy with e | e | e | e | e | e | e <;> exact ⟨_, e⟩⟩
end
end K1
end
section
set_option Elab.async false
set_option linter.all false
set_option maxRecDepth 100000
set_option maxHeartbeats 2000000
namespace K1
open PySem PyProof.Rows L2
def live (H : Hp) (L : List Addr) : Prop := ∀ b ∈ L, ∃ o, H b = some o
theorem live.same {H H' : Hp} {L : List Addr} (h : live H L) (s : Same H H') : live H' L := fun b hb => let ⟨o, e⟩ := h b hb; ⟨o, s _ _ e⟩
theorem live.upd {H : Hp} {L : List Addr} {a : Addr} {o : HO} (h : live H L) : live (upd H a o) L := fun b hb => by
  by_cases e : b = a
  · rw [e]; exact ⟨_, upd_same⟩
  · rw [upd_ne e]; exact h b hb
theorem live.fresh {H : Hp} {L : List Addr} {a : Addr} (h : live H L) (n : H a = none) : a ∉ L := fun hm => by
  obtain ⟨o, e⟩ := h a hm
  rw [n] at e
  cases e
theorem live.cons {H : Hp} {L : List Addr} {a : Addr} {o : HO} (h : live H L) (e : H a = some o) : live H (a :: L) := fun b hb => by
  rcases List.mem_cons.mp hb with rfl | hb
  · exact ⟨_, e⟩
  · exact h b hb
theorem none_of_same {H H' : Hp} {a : Addr} (s : Same H H') (n : H' a = none) : H a = none := by
  cases e : H a with
  | none => rfl
  | some o => rw [s _ _ e] at n; cases n
section
variable {P : Program} {w : World} {K : PySem.W.Frag} {mg : Str → Option Value} {base : Heap}
def spDidT : Sp := fun vs H Q _ => ∃ (W : Addr) (v : V) (x : Wd) (m : Wm) (n : Nat) (d : Str) (p o k : Nat) (a : Int) (b : Bool) (B : Int), vs = [.ref W, v] ∧ TpV H v [.str d, .int p, .int o, .int k, .int a, .bl b] ∧ WAt H W x m n ∧ n ≤ 500 ∧ WOk B x ∧ 2 * B ≤ 1000000000000 ∧ x.last ≤ 90 ∧ DeedOk B x p o k a ∧
  ∀ H' x' r, Kw W m H H' → WAt H' W x' m (n + 4) → WOk (2 * B) x' → x'.last ≤ x.last + 1 → Q (.bl r) H'
theorem scDid : FnScope ["_law_world_here", "_law_deed_here", "_law_word", "_law_party", "_law_other", "_law_kind", "_law_amount", "_law_is_sealed"] ["_law_world_here", "_law_deed_here"] (defScope sDid) := ⟨rfl, rfl, rfl, by decide +kernel, rfl, by decide +kernel, by decide +kernel⟩
theorem ok_did {f fH fL : Addr} {fd fdH fdL : FuncData} (D : DefAt K mg "_law_did" sDid ["_law_world_here", "_law_deed_here"] f fd)
    (DH : DefAt K mg "_law_honest" sHonest ["_law_world_here", "_law_word", "_law_party", "_law_other", "_law_kind", "_law_amount", "_law_is_sealed"] fH fdH) (GH : FnOk P w K mg base CX0 2 fH fdH ["_law_world_here", "_law_word", "_law_party", "_law_other", "_law_kind", "_law_amount", "_law_is_sealed"] spDid) (DL : DefAt K mg "_law_lied" sLied ["_law_world_here", "_law_word", "_law_party", "_law_other", "_law_kind", "_law_amount", "_law_is_sealed"] fL fdL) (GL : FnOk P w K mg base CX0 2 fL fdL ["_law_world_here", "_law_word", "_law_party", "_law_other", "_law_kind", "_law_amount", "_law_is_sealed"] spDid) :
    FnOk P w K mg base CX0 3 f fd ["_law_world_here", "_law_deed_here"] spDidT := by
  refine D.F.ok scDid (fun vs H Q E h => ?_) (fun cdv A outer s H vs Q E hr h => ?_)
  · obtain ⟨W, v, x, m, n, d, p, o, k, a, b, Bd, rfl, _⟩ := h
    rfl
  · obtain ⟨W, v, x, m, n, d, p, o, k, a, b, Bd, rfl, ⟨t, rfl, ht⟩, h0, hn, hw, hB, hl, hd, q⟩ := h
    have nd := scDid.nd
    refine ⟨_, (pss_cons (ps_asg (pv 1) (pgT K 6 rfl (pgs_cons (pg_name (i := 2) nd rfl (Or.inl rfl)) (pgs_cons (pg_name (i := 3) nd rfl (Or.inl rfl)) (pgs_cons (pg_name (i := 4) nd rfl (Or.inl rfl)) (pgs_cons (pg_name (i := 5) nd rfl (Or.inl rfl)) (pgs_cons (pg_name (i := 6) nd rfl (Or.inl rfl)) (pgs_cons (pg_name (i := 7) nd rfl (Or.inl rfl)) pgs_nil))))))))
      (pss_cons (ps_if (pt_cmpR op_in_seq (pv 2) (pe_tup (pa_cons pe_str (pa_cons pe_str (pa_cons pe_str (pa_cons pe_str pa_nil))))) (by with_unfolding_all rfl)) (pss_one (ps_ret (pe_call GH hr (by rfl) DH.g DH.k DH.b .nil pass0 (pa_cons (pv 0) (pa_cons (pv 2) (pa_cons (pv 3) (pa_cons (pv 4) (pa_cons (pv 5) (pa_cons (pv 6) (pa_cons (pv 7) pa_nil)))))))))) pss_nil)
      (pss_one (ps_ret (pe_call GL hr (by rfl) DL.g DL.k DL.b .nil pass0 (pa_cons (pv 0) (pa_cons (pv 2) (pa_cons (pv 3) (pa_cons (pv 4) (pa_cons (pv 5) (pa_cons (pv 6) (pa_cons (pv 7) pa_nil)))))))))))), ?_⟩
    refine ⟨_, rfl, _, _, rfl, SqT.of ht, rfl, _, _, rfl, _, _, rfl, _, _, rfl, _, _, rfl, _, _, rfl, _, _, rfl, rfl, ?_⟩
    refine ⟨_, rfl, (by show 4 ≤ sizeLine; decide), fun t2 ht2 => ?_⟩
    have s2 : Same H (upd H t2 (.tup [.str "make", .str "treat", .str "hand", .str "inspect"])) := fun c o e => upd_get e ht2
    refine ⟨t2, _, rfl, .inr (SqT.of upd_same), rfl, rfl, _, rfl, ?_⟩
    refine iteB (fun _ => ?_) (fun _ => ?_)
    · exact ⟨_, rfl, _, rfl, _, rfl, _, rfl, _, rfl, _, rfl, _, rfl, W, x, m, n, d, p, o, k, a, b, Bd, rfl, h0.same s2, hn, hw, hB, hl, hd, fun H' x' r k1 k2 k3 k4 _ _ => q H' x' r (Kw.trans (Kw.same s2) k1) k2 k3 k4⟩
    · exact ⟨_, rfl, _, rfl, _, rfl, _, rfl, _, rfl, _, rfl, _, rfl, W, x, m, n, d, p, o, k, a, b, Bd, rfl, h0.same s2, hn, hw, hB, hl, hd, fun H' x' r k1 k2 k3 k4 _ _ => q H' x' r (Kw.trans (Kw.same s2) k1) k2 k3 k4⟩
def spBegun : Sp := fun vs H Q _ => ∃ (k : Nat) (p : V) (ps : List (List V)), vs = [.int k, p] ∧ k ≤ 100 ∧ FileAt H p ps ∧ ps.length ≤ 100 ∧
  ∀ H' W m, Same H H' → (∀ b ∈ muts W m, H b = none) → WAt H' W ⟨k, ps, List.replicate ps.length (List.replicate k 0), List.replicate ps.length [], [], 0⟩ m 0 → Q (.ref W) H'
theorem scBegun : FnScope ["_law_kinds", "_law_parties_here", "_law_stock", "_law_world_here", "_law_kind", "_law_party"] ["_law_kinds", "_law_parties_here"] (defScope sBegun) := ⟨rfl, rfl, rfl, by decide +kernel, rfl, by decide +kernel, by decide +kernel⟩
theorem paired_rep {α β : Type} {R : α → β → Prop} {y : β} : ∀ {xs : List α} {n : Nat}, xs.length = n → (∀ a ∈ xs, R a y) → Paired R xs (List.replicate n y)
  | [], _, e, _ => by subst e; exact .nil
  | a :: l, _, e, h => by subst e; exact .cons (h a List.mem_cons_self) (paired_rep rfl fun b hb => h b (List.mem_cons_of_mem _ hb))
theorem ok_begun {f : Addr} {fd : FuncData} (D : DefAt K mg "_law_begun" sBegun ["_law_kinds", "_law_parties_here"] f fd) (B : Blt mg) : FnOk P w K mg base CX0 1 f fd ["_law_kinds", "_law_parties_here"] spBegun := by
  refine D.F.ok scBegun (fun vs H Q E h => ?_) (fun cdv A outer s H vs Q E hr h => ?_)
  · obtain ⟨k, p, ps, rfl, _⟩ := h
    rfl
  · obtain ⟨k, p, ps, rfl, hk, hp, hps, q⟩ := h
    have nd := scBegun.nd
    have hu := hu_of hr
    refine ⟨_, (pss_cons (ps_setLc (i := 2) (own := [("_law_party", 5)]) rfl nd rfl rfl (sw_true rfl rfl rfl (by decide +kernel)) (piT K (pv 1)) (blkOk_by (N := ["_law_kinds", "_law_parties_here", "_law_stock", "_law_world_here", "_law_kind", "_law_party"]) (sc := defScope sBegun) (by decide +kernel)) (fun _ _ _ _ _ => pg_name (i := 5) nd rfl (Or.inl rfl)) (fun _ _ _ _ _ => pts_nil) (fun _ _ _ _ _ => (pe_lc (own := [("_law_kind", 4)]) rfl nd (pi_range1 rfl B.range (pa_cons (pv 0) pa_nil)) (blkOk_by (N := ["_law_kinds", "_law_parties_here", "_law_stock", "_law_world_here", "_law_kind", "_law_party"]) (sc := { kind := .function, names := [(".0", .local), ("_law_party", .local), ("range", .globalImplicit), ("_law_kinds", .cell)], isGenerator := false, isCoroutine := false }) (by decide +kernel)) (fun _ _ _ _ _ => pg_name (i := 4) nd rfl (Or.inl rfl)) (fun _ _ _ _ _ => pts_nil) (fun _ _ _ _ _ => pe_int))))
      (pss_cons (ps_set (i := 3) nd rfl (Or.inl rfl) (pe_disp (pps_cons pe_str (pv 0) (pps_cons pe_str (pv 1) (pps_cons pe_str (pv 2) (pps_cons pe_str (pe_lc (own := [("_law_party", 5)]) rfl nd (piT K (pv 1)) (blkOk_by (N := ["_law_kinds", "_law_parties_here", "_law_stock", "_law_world_here", "_law_kind", "_law_party"]) (sc := defScope sBegun) (by decide +kernel)) (fun _ _ _ _ _ => pg_name (i := 5) nd rfl (Or.inl rfl)) (fun _ _ _ _ _ => pts_nil) (fun _ _ _ _ _ => (pe_lst pa_nil))) pps_nil)))) (by rfl) (by rfl) (fun z => by cases z) (by decide)))
      (pss_cons (ps_dput hu (pv 3) pe_str (pe_lst pa_nil) rfl)
      (pss_cons (ps_dput hu (pv 3) pe_str (pe_lst pa_nil) rfl)
      (pss_cons (ps_dput hu (pv 3) pe_str pe_int rfl)
      (pss_cons (ps_dput hu (pv 3) pe_str (pe_lst pa_nil) rfl)
      (pss_one (ps_ret (pv 3))))))))), ?_⟩
    obtain ⟨pw, ⟨ap, rfl, hpa⟩, hpq⟩ := id hp
    have hl := paired_len hpq
    unfold tSeq tAsg
    dsimp only
    refine lcNew (c := (List.replicate k (0 : Int)).map V.int) (fun R h => ⟨_, rfl, h⟩) hpa (by omega) (fun x => by rfl) (fun x H3 Z hZ => ?_) fun s1 sa H1 hs1 sm1 hs1' hsl hsn hsa => ?_
    · refine ⟨_, rfl, k, rfl, by omega, by omega, fun l hl => ?_⟩
      rw [Int.toNat_natCast]
      refine lc_range (fun i H4 => H4 = upd H3 l (.lst ((List.replicate i (0 : Int)).map V.int))) rfl ?_ ?_
      · rintro i H4 hi rfl
        refine ⟨by rfl, ?_⟩
        unfold tYes
        refine iteT ?_
        refine ⟨_, upd_same, ?_, ?_⟩
        · rw [List.length_map, List.length_replicate]
          exact small1000 (by omega)
        · show upd (upd H3 l _) l _ = _
          rw [upd_upd, List.replicate_succ', List.map_append]
          rfl
      · rintro H4 rfl
        exact hZ l hl
    refine fun W hW => ?_
    have smW : Same H1 (upd H1 W (.dK [])) := fun c o e => upd_get e hW
    have hWd : (upd H1 W (.dK [])) W = some (.dK []) := upd_same
    have L1 : live H1 (s1 :: sa) := fun b hb => by
      rcases List.mem_cons.mp hb with rfl | hb
      · exact ⟨_, hs1'⟩
      · exact ⟨_, (hsa b hb).2⟩
    have n2 : (W :: s1 :: sa).Nodup := List.nodup_cons.mpr ⟨L1.fresh hW, hsn⟩
    have L2 : live (upd H1 W (.dK [])) (W :: s1 :: sa) := (L1.same smW).cons hWd
    refine ⟨_, rfl, _, rfl, _, rfl, ?_⟩
    unfold tPairs tC
    dsimp only
    refine lcNew (c := ([] : List V)) (fun R h => ⟨_, rfl, h⟩) (smW _ _ (sm1 _ _ hpa)) (by omega) (fun x => by rfl) (fun x H3 Z hZ => ⟨(by show 0 ≤ sizeLine; decide), hZ⟩) fun f1 fa H3 hf1 sm3 hf1' hfl hfn hfa => ?_
    have s03 : Same H H3 := fun c o e => sm3 _ _ (smW _ _ (sm1 _ _ e))
    have n3 : ((f1 :: fa) ++ (W :: s1 :: sa)).Nodup := by
      rw [List.nodup_append]
      refine ⟨hfn, n2, fun a ha b hb e => ?_⟩
      rw [e] at ha
      rcases List.mem_cons.mp ha with z | z
      · exact L2.fresh hf1 (z ▸ hb)
      · exact L2.fresh (hfa b z).1 hb
    have L3 : live H3 ((f1 :: fa) ++ (W :: s1 :: sa)) := fun b hb => by
      rcases List.mem_append.mp hb with hb | hb
      · rcases List.mem_cons.mp hb with rfl | hb
        · exact ⟨_, hf1'⟩
        · exact ⟨_, (hfa b hb).2⟩
      · exact (L2.same sm3) b hb
    refine ⟨sm3 _ _ hWd, [(.inr "kinds", .int k), (.inr "parties", .ref ap), (.inr "stock", .ref s1), (.inr "files", .ref f1)], rfl, by show 4 ≤ 15; decide, ?_⟩
    -- finds
    refine ⟨(by show 0 ≤ sizeLine; decide), fun g1 hg1 => ⟨_, rfl, W, _, rfl, DPut.k (k := .inr "finds") (upd_get upd_same hg1) (by show 4 < sizeLine; decide), ?_⟩⟩
    have L4 := (L3.upd (a := W) (o := .dK (mergeK [] [(.inr "kinds", .int k), (.inr "parties", .ref ap), (.inr "stock", .ref s1), (.inr "files", .ref f1)])))
    have n4 : (g1 :: ((f1 :: fa) ++ (W :: s1 :: sa))).Nodup := List.nodup_cons.mpr ⟨L4.fresh hg1, n3⟩
    have L5 := ((L4.upd (a := g1) (o := .lst [])).cons (o := .lst []) upd_same).upd (a := W) (o := .dK (putK (mergeK [] [(.inr "kinds", .int k), (.inr "parties", .ref ap), (.inr "stock", .ref s1), (.inr "files", .ref f1)]) (.inr "finds") (.ref g1)))
    refine ⟨(by show 0 ≤ sizeLine; decide), fun e1 he1 => ⟨_, rfl, W, _, rfl, DPut.k (k := .inr "events") (upd_get upd_same he1) (by show 5 < sizeLine; decide), ?_⟩⟩
    have n5 : (e1 :: g1 :: ((f1 :: fa) ++ (W :: s1 :: sa))).Nodup := List.nodup_cons.mpr ⟨L5.fresh he1, n4⟩
    have L6 := ((L5.upd (a := e1) (o := .lst [])).cons (o := .lst []) upd_same).upd (a := W) (o := .dK (putK (putK (mergeK [] [(.inr "kinds", .int k), (.inr "parties", .ref ap), (.inr "stock", .ref s1), (.inr "files", .ref f1)]) (.inr "finds") (.ref g1)) (.inr "events") (.ref e1)))
    refine ⟨_, rfl, W, _, rfl, DPut.k (k := .inr "last") upd_same (by show 6 < sizeLine; decide), ?_⟩
    have L7 := L6.upd (a := W) (o := .dK (putK (putK (putK (mergeK [] [(.inr "kinds", .int k), (.inr "parties", .ref ap), (.inr "stock", .ref s1), (.inr "files", .ref f1)]) (.inr "finds") (.ref g1)) (.inr "events") (.ref e1)) (.inr "last") (.int 0)))
    refine ⟨(by show 0 ≤ sizeLine; decide), fun i1 hi1 => ⟨_, rfl, W, _, rfl, DPut.k (k := .inr "liars") (upd_get upd_same hi1) (by show 7 < sizeLine; decide), ?_⟩⟩
    have n6 : (i1 :: e1 :: g1 :: ((f1 :: fa) ++ (W :: s1 :: sa))).Nodup := List.nodup_cons.mpr ⟨L7.fresh hi1, n5⟩
    refine ⟨_, rfl, ?_⟩
    have hWH : H W = none := none_of_same sm1 hW
    have none3 : ∀ b, b ∉ ([] : List Addr) → H3 b = none → H b = none := fun b _ hb => none_of_same s03 hb
    have u1 : ∀ {G : Hp} {a b : Addr} {o : HO}, upd G a o b = none → G b = none := fun {G a b o} h => by
      unfold upd at h
      split at h
      · cases h
      · exact h
    have g3 : H3 g1 = none := u1 hg1
    have e3 : H3 e1 = none := u1 (u1 (u1 he1))
    have i3 : H3 i1 = none := u1 (u1 (u1 (u1 (u1 (u1 hi1)))))
    have pm : (muts W ⟨ap, s1, f1, g1, e1, i1, sa, fa⟩).Perm (i1 :: e1 :: g1 :: ((f1 :: fa) ++ (W :: s1 :: sa))) := by
      rw [List.perm_iff_count]
      intro a
      unfold muts
      simp only [List.count_cons, List.count_append, List.cons_append]
      omega
    have nn := pm.nodup_iff.mpr n6
    obtain ⟨a1, a2, a3, a4, a5, a6, a7, b2, b3, b4, b5, b6, b7, c3, c4, c5, c6, c7, d4, d5, d6, d7, e5, e6, e7, f6, f7, g5, g2, g4⟩ := nd_ne nn
    dsimp only at a1 a2 a3 a4 a5 a6 a7 b2 b3 b4 b5 b6 b7 c3 c4 c5 c6 c7 d4 d5 d6 d7 e5 e6 e7 f6 f7
    -- every place that stood ahead stays
    have keep : ∀ (c : Addr), c ≠ W → c ≠ g1 → c ≠ e1 → c ≠ i1 → ∀ {o : HO}, H3 c = some o → (upd (upd (upd (upd (upd (upd (upd (upd H3 W (.dK (mergeK [] [(.inr "kinds", .int k), (.inr "parties", .ref ap), (.inr "stock", .ref s1), (.inr "files", .ref f1)]))) g1 (.lst [])) W (.dK (putK (mergeK [] [(.inr "kinds", .int k), (.inr "parties", .ref ap), (.inr "stock", .ref s1), (.inr "files", .ref f1)]) (.inr "finds") (.ref g1)))) e1 (.lst [])) W (.dK (putK (putK (mergeK [] [(.inr "kinds", .int k), (.inr "parties", .ref ap), (.inr "stock", .ref s1), (.inr "files", .ref f1)]) (.inr "finds") (.ref g1)) (.inr "events") (.ref e1)))) W (.dK (putK (putK (putK (mergeK [] [(.inr "kinds", .int k), (.inr "parties", .ref ap), (.inr "stock", .ref s1), (.inr "files", .ref f1)]) (.inr "finds") (.ref g1)) (.inr "events") (.ref e1)) (.inr "last") (.int 0)))) i1 (.lst [])) W (.dK (putK (putK (putK (putK (mergeK [] [(.inr "kinds", .int k), (.inr "parties", .ref ap), (.inr "stock", .ref s1), (.inr "files", .ref f1)]) (.inr "finds") (.ref g1)) (.inr "events") (.ref e1)) (.inr "last") (.int 0)) (.inr "liars") (.ref i1)))) c = some o := by
      intro c w1 w2 w3 w4 o hc
      rw [upd_ne w1, upd_ne w4, upd_ne w1, upd_ne w1, upd_ne w3, upd_ne w1, upd_ne w2, upd_ne w1]
      exact hc
    have sm9 : Same H _ := fun c o e => keep c (ne_of_none e hWH) (ne_of_none e (none_of_same s03 g3)) (ne_of_none e (none_of_same s03 e3)) (ne_of_none e (none_of_same s03 i3)) (s03 _ _ e)
    have hs3 : ∀ {c : Addr} {o : HO}, H1 c = some o → H3 c = some o := fun e => sm3 _ _ (smW _ _ e)
    refine q _ W ⟨ap, s1, f1, g1, e1, i1, sa, fa⟩ sm9 (fun b hb => ?_) ⟨?_, (Kt.same sm9).kp.file hp, keep _ a1.symm b3 b4 b5 (hs3 hs1'), paired_rep (by show sa.length = _; omega) fun c hc => ?_, keep _ a2.symm c3 c4 c5 hf1', paired_rep (by show fa.length = _; omega) fun c hc => ⟨[], ?_, .nil⟩, ⟨[], ?_, .nil⟩, ⟨[], ?_, Nat.le_refl _⟩, ⟨[], ?_, Nat.le_refl _⟩, nn⟩
    · have hb' := pm.mem_iff.mp hb
      simp only [List.mem_cons, List.mem_append, List.cons_append] at hb'
      rcases hb' with rfl | rfl | rfl | rfl | z | rfl | rfl | z
      · exact none_of_same s03 i3
      · exact none_of_same s03 e3
      · exact none_of_same s03 g3
      · exact none_of_same sm1 (none_of_same smW hf1)
      · exact none_of_same sm1 (none_of_same smW (hfa b z).1)
      · exact hWH
      · exact hs1
      · exact (hsa b z).1
    · rw [upd_same]
      rfl
    · exact keep _ (a6 c hc).symm (d6 c hc).symm (e6 c hc).symm (f6 c hc).symm (hs3 (hsa c hc).2)
    · exact keep _ (a7 c hc).symm (d7 c hc).symm (e7 c hc).symm (f7 c hc).symm (hfa c hc).2
    · rw [upd_ne a3.symm, upd_ne d5, upd_ne a3.symm, upd_ne a3.symm, upd_ne d4, upd_ne a3.symm, upd_same]
    · rw [upd_ne a4.symm, upd_ne e5, upd_ne a4.symm, upd_ne a4.symm, upd_same]
    · rw [upd_ne a5.symm, upd_same]
      rfl
end
end K1
end
section
set_option Elab.async false
set_option linter.all false
set_option maxRecDepth 100000
set_option maxHeartbeats 2000000
namespace K1
open PySem PyProof.Rows L2
theorem paired_mapl {α β γ : Type} {R : α → β → Prop} {f : α → γ} : ∀ {xs : List α} {ys : List β}, Paired R xs ys → Paired (fun v y => ∃ a, v = f a ∧ R a y) (xs.map f) ys
  | _, _, .nil => .nil
  | _, _, .cons r t => .cons ⟨_, rfl, r⟩ (paired_mapl t)
/-- isinstance(e, c) of the suite's error -/
def rIsR (K : PySem.W.Frag) (a : Addr) (cls : Value) (d : Option Addr) : List V → Hp → VK → Prop := fun xs H Q => ∃ (c : V) (cv : Value) (b : Bool) (D dd : Addr), xs = [.ref a, c] ∧ cls = .ref D ∧ d = some dd ∧ (∃ fs, H dd = some (.xd fs)) ∧ ExcC K D ∧ (∀ u, L2.RelV c u → u = cv) ∧ PySem.W.kitOne K (.ref D) cv = some b ∧ Q (.bl b) H
theorem isR {X : Cx} (K : PySem.W.Frag) {a : Addr} {cls : Value} {d : Option Addr} {oe : Obj} {pn : List (Addr × Obj)} (hz : Zc cls d oe) (hf : ∃ vs, oe.data = .fields vs) (hK : X.K = K := by rfl) : CallR (X.suite a ((a, oe) :: pn)) (.builtin "isinstance") (rIsR K a cls d) := by
  subst hK
  intro pins s σ H xs us Q I r h
  obtain ⟨c, cv, b, D, dd, rfl, rfl, rfl, hfs, hC, h1, h2, q⟩ := h
  exact call_isR hC hz hf pins s σ H _ us Q I r ⟨c, cv, b, rfl, hfs, h1, h2, q⟩
theorem pow_step (i : Nat) : (60 * 2 ^ (i + 1) : Int) = 2 * (60 * 2 ^ i) := by rw [Int.pow_succ]; omega
theorem pow_le {i : Nat} (h : i ≤ 24) : (60 * 2 ^ i : Int) ≤ 1006632960 := by
  have h1 : (2 : Nat) ^ i ≤ 2 ^ 24 := Nat.pow_le_pow_right (by decide) h
  have h2 : ((2 ^ i : Nat) : Int) ≤ ((2 ^ 24 : Nat) : Int) := Int.ofNat_le.mpr h1
  rw [Int.natCast_pow] at h2
  have h3 : ((2 ^ 24 : Nat) : Int) = 16777216 := by decide
  rw [h3] at h2
  have h4 : ((2 : Nat) : Int) ^ i = (2 : Int) ^ i := rfl
  rw [h4] at h2
  omega
section
variable {P : Program} {w : World} {K : PySem.W.Frag} {mg : Str → Option Value} {base : Heap}
def spWorld (K : PySem.W.Frag) : Sp := fun vs H Q _ => ∃ (a : Addr) (ns : List Int) (c : Nat), vs = [.ref a, .int 4, .int c, .int 5, .int 3] ∧ SqL K H a (ns.map V.int) ∧ c ≤ 24 ∧
  ∀ H' W x m n B, Same H H' → WAt H' W x m n → WOk B x → x.last ≤ 24 → Q (.ref W) H'
theorem SqL.same {K : PySem.W.Frag} {H H' : Hp} {a : Addr} {xs : List V} (h : SqL K H a xs) (s : Same H H') : SqL K H' a xs := s.seq h
theorem scWorld : FnScope ["_law_script", "_law_start", "_law_many", "_law_most", "_law_lying", "_law_world_here", "_law_k"] ["_law_script", "_law_start", "_law_many", "_law_most", "_law_lying"] (defScope sWorld) := ⟨rfl, rfl, rfl, by decide +kernel, rfl, by decide +kernel, by decide +kernel⟩
theorem ok_world {f fC fP fB fD fE : Addr} {fd fdC fdP fdB fdD fdE : FuncData} (D : DefAt K mg "_law_world" sWorld ["_law_script", "_law_start", "_law_many", "_law_most", "_law_lying"] f fd) (B : Blt mg)
    (DC : DefAt K mg "_law_cell" sCell ["_law_script", "_law_k"] fC fdC) (GC : FnOk P w K mg base CX0 1 fC fdC ["_law_script", "_law_k"] (spCell K))
    (DP : DefAt K mg "_law_parties" sParties ["_law_cell_here", "_law_most"] fP fdP) (GP : FnOk P w K mg base CX0 2 fP fdP ["_law_cell_here", "_law_most"] spLParties)
    (DB : DefAt K mg "_law_begun" sBegun ["_law_kinds", "_law_parties_here"] fB fdB) (GB : FnOk P w K mg base CX0 1 fB fdB ["_law_kinds", "_law_parties_here"] spBegun)
    (DE : DefAt K mg "_law_deed" sDeed ["_law_cell_here", "_law_world_here", "_law_lying"] fE fdE) (GE : FnOk P w K mg base CX0 2 fE fdE ["_law_cell_here", "_law_world_here", "_law_lying"] spDeed)
    (DD : DefAt K mg "_law_did" sDid ["_law_world_here", "_law_deed_here"] fD fdD) (GD : FnOk P w K mg base CX0 3 fD fdD ["_law_world_here", "_law_deed_here"] spDidT) :
    FnOk P w K mg base CX0 4 f fd ["_law_script", "_law_start", "_law_many", "_law_most", "_law_lying"] (spWorld K) := by
  refine D.F.ok scWorld (fun vs H Q E h => ?_) (fun cdv A outer s H vs Q E hr h => ?_)
  · obtain ⟨a, ns, c, rfl, _⟩ := h
    rfl
  · obtain ⟨a, ns, c, rfl, hS, hc, q⟩ := h
    have nd := scWorld.nd
    have hu := hu_of hr
    have hr1 := hr.mono (show 1 ≤ 3 by decide)
    have hr2 := hr.mono (show 2 ≤ 3 by decide)
    refine ⟨_, (pss_cons (ps_set (i := 5) nd rfl (Or.inl rfl) (pe_call GB hr1 (by rfl) DB.g DB.k DB.b .nil pass0 (pa_cons (pe_op op_add pe_int (pe_op op_mod (pe_op op_fdiv (pe_call GC hr1 (by rfl) DC.g DC.k DC.b .nil pass0 (pa_cons (pv 0) (pa_cons (pv 1) pa_nil))) pe_int) pe_int)) (pa_cons (pe_call GP hr2 (by rfl) DP.g DP.k DP.b .nil pass0 (pa_cons (pe_call GC hr1 (by rfl) DC.g DC.k DC.b .nil pass0 (pa_cons (pv 0) (pa_cons (pv 1) pa_nil))) (pa_cons (pv 3) pa_nil))) pa_nil))))
      (pss_cons (ps_for PassesOwn.never rfl (pi_range1 rfl B.range (pa_cons (pv 2) pa_nil)) (pg_name (i := 6) nd rfl (Or.inl rfl)) (pss_one (ps_expr (pe_call GD hr (by rfl) DD.g DD.k DD.b .nil pass0 (pa_cons (pv 5) (pa_cons (pe_call GE hr2 (by rfl) DE.g DE.k DE.b .nil pass0 (pa_cons (pe_call GC hr1 (by rfl) DC.g DC.k DC.b .nil pass0 (pa_cons (pv 0) (pa_cons (pe_op op_add (pe_op op_add (pv 1) pe_int) (pv 6)) pa_nil))) (pa_cons (pv 5) (pa_cons (pv 4) pa_nil)))) pa_nil))))))
      (pss_one (ps_ret (pv 5))))), ?_⟩
    refine ⟨_, rfl, _, rfl, a, ns, 4, rfl, hS, fun z => ⟨_, _, rfl, rfl, ⟨by decide, by decide⟩, _, _, rfl, rfl, (by show (0 : Int) < 2; decide), _, _, rfl, rfl, ?_⟩⟩
    refine ⟨_, rfl, _, rfl, a, ns, 4, rfl, hS, fun z2 => ⟨_, rfl, z2, rfl, fun H1 v rs s1 hf r1 r5 rb => ?_⟩⟩
    obtain ⟨k, hk, hkl⟩ := mod_nat (z := z / 7) (show (0 : Int) < 2 by decide)
    refine ⟨1 + k, v, rs, ?_, by omega, hf, by omega, fun H2 W m s2 hfr h2 => ?_⟩
    · show [V.int (1 + z / 7 % 2), v] = [V.int ((1 + k : Nat) : Int), v]
      rw [hk]
      congr 2
    have s12 : Same H H2 := fun c o e => s2 _ _ (s1 _ _ e)
    have hfrH : ∀ b ∈ muts W m, H b = none := fun b hb => none_of_same s1 (hfr b hb)
    have w0 := wOk_start (k := ((1 + k : Nat) : Int)) (by omega) (by omega) r1 r5 rb
    rw [Int.toNat_natCast] at w0
    have w1 : WOk (60 * 2 ^ 0) _ := (show (60 * 2 ^ 0 : Int) = 60 by decide).symm ▸ w0
    refine ⟨_, rfl, c, rfl, by omega, by omega, ?_⟩
    rw [Int.toNat_natCast]
    refine for_range (fun i σ H3 => ∃ (kk : Option V) (x : Wd) (n : Nat), σ = [some (.ref a), some (.int 4), some (.int c), some (.int 5), some (.int 3), some (.ref W), kk] ∧ Same H H3 ∧ WAt H3 W x m n ∧ n ≤ 4 * i ∧ WOk (60 * 2 ^ i) x ∧ x.last ≤ i)
      ⟨none, _, 0, rfl, s12, h2, Nat.le_refl _, w1, Int.le_refl _⟩ ?_ ?_
    · rintro i σ H3 hi ⟨kk, x, n, rfl, s3, h3, hn, hw, hl⟩
      refine ⟨_, rfl, _, rfl, _, rfl, _, _, rfl, rfl, _, rfl, _, _, rfl, rfl, a, ns, 4 + 1 + i, ?_, s3.seq hS, fun z3 => ⟨_, rfl, _, rfl, z3, 3, W, x, m, n, 60 * 2 ^ i, rfl, h3, hw, fun H4 v4 d p o k4 a4 b4 s4 hv4 hd => ?_⟩⟩
      · show [V.ref a, V.int (4 + 1 + (0 + (i : Int)))] = [V.ref a, V.int ((4 + 1 + i : Nat) : Int)]
        congr 3
        omega
      have e2 := pow_le (show i ≤ 24 by omega)
      refine ⟨W, v4, x, m, n, d, p, o, k4, a4, b4, 60 * 2 ^ i, rfl, hv4, h3.same s4, by omega, hw, by omega, by omega, hd, fun H5 x' r kw h5 hw5 hl5 => ?_⟩
      refine ⟨_, x', n + 4, rfl, fun b o e => kw b o (s4 _ _ (s3 _ _ e)) fun hm => ?_, h5, by omega, ?_, by omega⟩
      · rw [hfrH b hm] at e
        cases e
      · rw [pow_step]
        exact hw5
    · rintro σ H3 ⟨kk, x, n, rfl, s3, h3, hn, hw, hl⟩
      exact ⟨_, rfl, q H3 W x m n _ s3 h3 hw (by omega)⟩
def spEvid : Sp := fun vs H Q _ => ∃ (W : Addr) (x : Wd) (m : Wm) (n : Nat), vs = [.ref W] ∧ WAt H W x m n ∧ x.fs.length ≤ 100 ∧ x.gs.length ≤ 1000 ∧ ∀ H' v, Same H H' → EvAt H' v (evOf x) → Q v H'
theorem scEvid : FnScope ["_law_world_here", "_law_files", "_law_file"] ["_law_world_here"] (defScope sEvidence) := ⟨rfl, rfl, rfl, by decide +kernel, rfl, by decide +kernel, by decide +kernel⟩
theorem ok_evid {f : Addr} {fd : FuncData} (D : DefAt K mg "_law_evidence" sEvidence ["_law_world_here"] f fd) (B : Blt mg) : FnOk P w K mg base CX0 1 f fd ["_law_world_here"] spEvid := by
  refine D.F.ok scEvid (fun vs H Q E h => ?_) (fun cdv A outer s H vs Q E hr h => ?_)
  · obtain ⟨W, x, m, n, rfl, _⟩ := h
    rfl
  · obtain ⟨W, x, m, n, rfl, h0, hf, hg, q⟩ := h
    have nd := scEvid.nd
    have hu := hu_of hr
    refine ⟨_, (pss_cons (ps_set (i := 1) nd rfl (Or.inl rfl) (pe_callTy (tupK K) (by rfl) B.tup b_tuple (pa_cons (pe_lc (own := [("_law_file", 2)]) rfl nd (piL K (pe_dget hu (pv 0) pe_str (fun _ _ => rfl))) (blkOk_by (N := ["_law_world_here", "_law_files", "_law_file"]) (sc := defScope sEvidence) (by decide +kernel)) (fun _ _ _ _ _ => pg_name (i := 2) nd rfl (Or.inl rfl)) (fun _ _ _ _ _ => pts_nil) (fun _ _ _ _ _ => (pe_callTy (tupK K) (by rfl) B.tup b_tuple (pa_cons (pv 2) pa_nil)))) pa_nil)))
      (pss_one (ps_ret (pe_tup (pa_cons (pe_dget hu (pv 0) pe_str (fun _ _ => rfl)) (pa_cons (pe_dget hu (pv 0) pe_str (fun _ _ => rfl)) (pa_cons (pv 1) (pa_cons (pe_callTy (tupK K) (by rfl) B.tup b_tuple (pa_cons (pe_dget hu (pv 0) pe_str (fun _ _ => rfl)) pa_nil)) pa_nil)))))))), ?_⟩
    refine ⟨_, rfl, W, _, rfl, h0.files, m.f, rfl, ⟨_, SqL.of h0.hf⟩, fun D hD => ?_⟩
    have hl := paired_len h0.hfa
    refine lcBL (R := fun v rs => ∃ a, v = V.ref a ∧ RowsAt H a rs) (S := FileAt) (fun rs => rs) (fun _ _ _ _ k z => k.file z) h0.hf (by rw [List.length_map]; omega) (paired_mapl h0.hfa) hD (fun x => by rfl) (fun v y H3 hy hv sm Z hZ => ?_) fun ys H' s1 hD' hq => ?_
    · obtain ⟨a, rfl, ws, hw, hwq⟩ := hv
      refine ⟨_, rfl, a, ws, rfl, .inl ⟨SqL.of (sm _ _ hw), fun l hl => ?_⟩⟩
      have s4 : Same H3 (upd H3 l (.tup ws)) := fun c o e => upd_get e hl
      exact hZ _ _ s4 ⟨ws, ⟨l, rfl, upd_same⟩, Paired.mapP hwq fun _ _ z => (Kt.same s4).kp.tp ((Kt.same sm).kp.tp z)⟩
    · rw [List.map_id'] at hq
      refine ⟨D, ys, rfl, .inl ⟨SqL.of hD', fun l hl => ?_⟩⟩
      have s2 : Same H' (upd H' l (.tup ys)) := fun c o e => upd_get e hl
      have s12 : Same H (upd H' l (.tup ys)) := fun c o e => s2 _ _ (s1 _ _ e)
      have h2 := h0.same s12
      obtain ⟨gw, hgw, hgq⟩ := h2.hg
      refine ⟨_, rfl, W, _, rfl, h2.kinds, _, rfl, W, _, rfl, h2.parties, _, rfl, _, rfl, W, _, rfl, h2.finds, m.g, gw, rfl, .inl ⟨SqL.of hgw, fun t ht => ⟨(by show 4 ≤ sizeLine; decide), fun u hu => ?_⟩⟩⟩
      have s3 : Same _ (upd _ t (.tup gw)) := fun c o e => upd_get e ht
      have s4 : Same _ (upd _ u (.tup [.int x.k, .ref m.p, .ref l, .ref t])) := fun c o e => upd_get e hu
      have k2 := (Kt.same s2).kp
      have k3 := (Kt.same s3).kp
      have k4 := (Kt.same s4).kp
      exact q _ _ (fun c o e => s4 _ _ (s3 _ _ (s12 _ _ e))) ⟨.ref m.p, .ref l, .ref t, ⟨u, rfl, upd_same⟩, k4.file (k3.file h2.hp), ⟨ys, k4.tp (k3.tp ⟨l, rfl, upd_same⟩), Paired.mapP hq fun _ _ z => k4.file (k3.file (k2.file z))⟩, ⟨gw, k4.tp ⟨t, rfl, upd_same⟩, Paired.mapP hgq fun _ _ z => k4.tp (k3.tp z)⟩⟩
/-- what the told errors are -/
structure ErrTxt (P : Program) (K : PySem.W.Frag) (mg : Str → Option Value) (C CT fI cd cc : Addr) : Prop where
  ref : RefTxt P K mg C fI cd cc
  exc : ExcC K C
  gT : mg "TrailError" = some (.ref CT)
  kT : PySem.W.kitOne K (.ref C) (.ref CT) = some true
  kV : PySem.W.kitOne K (.ref C) (.type "ValueError") = some true
def spTold : Sp := fun vs H Q _ => ∃ (v : V) (e : Ev) (pt kd am m : Int), vs = [v, .int pt, .int kd, .int am] ∧ EvAt H v e ∧ EvOk e ∧ IsMax0 m (numsOf e) ∧
  (200 ≤ e.finds.length → ∀ H', Same H H' → Q (.str "too many finds") H') ∧ (e.finds.length < 200 → 1000000000 ≤ m → ∀ H', Same H H' → Q (.str "no number left") H') ∧
  (e.finds.length < 200 → m < 1000000000 → ∀ H' v', Same H H' → EvAt H' v' (withFind e [.int (m + 1), .int pt, .int kd, .int am]) → Q v' H')
theorem scTold : FnScope ["_law_evidence_here", "_law_party", "_law_kind", "_law_amount", "e"] ["_law_evidence_here", "_law_party", "_law_kind", "_law_amount"] (defScope sTold) := ⟨rfl, rfl, rfl, by decide +kernel, rfl, by decide +kernel, by decide +kernel⟩
theorem b_verr : bootBuiltins "ValueError" = some (.type "ValueError") := by decide +kernel
theorem b_isi : bootBuiltins "isinstance" = some (.builtin "isinstance") := by decide +kernel
theorem ok_told {f fF C CT fI cd cc : Addr} {fd fdF : FuncData} (D : DefAt K mg "_law_told" sTold ["_law_evidence_here", "_law_party", "_law_kind", "_law_amount"] f fd) (B : Blt mg) (T : ErrTxt P K mg C CT fI cd cc)
    (DF : DefAt K mg "with_find" sWithFind ["evidence", "party", "kind", "amount"] fF fdF) (GF : FnOk P w K mg base (L2.CX P w) 3 fF fdF ["evidence", "party", "kind", "amount"] (spWithFind C)) :
    FnOk P w K mg base CX0 4 f fd ["_law_evidence_here", "_law_party", "_law_kind", "_law_amount"] spTold := by
  refine D.F.ok scTold (fun vs H Q E h => ?_) (fun cdv A outer s H vs Q E hr h => ?_)
  · obtain ⟨v, e, pt, kd, am, m, rfl, _⟩ := h
    rfl
  · obtain ⟨v, e, pt, kd, am, m, rfl, he, ok, hm, q1, q2, q3⟩ := h
    have nd := scTold.nd
    refine ⟨_, pss_one (ps_try_as (i := 4) (tb := fun W => tRet (tCallS (spWithFind C) (WE W) (tCons (tVar 0) (tCons (tVar 1) (tCons (tVar 2) (tCons (tVar 3) tNil))))))
        (ts := fun a cls d => tRet (tIf (tAnd (tB (tCB (rIsR K a cls d) (tCons (tVar 4) (tCons (tC (.ref CT)) tNil)))) (tB (tCB (rIsR K a cls d) (tCons (tVar 4) (tCons (tC (.ty "ValueError")) tNil))))) (tWhat C a cls d (tVar 4)) (tC (.str "other"))))
        (Wout := fun _ _ _ _ => False) rfl rfl nd rfl rfl ⟨rfl, by decide, Or.inl T.ref.gC⟩ takes0
        (fun W pn xe tk _ => pss_one (ps_ret (by exact (pe_callS GF hr rfl DF.g DF.k DF.b (fun σ => passAt tk σ) (by exact (pa_cons (pv 0) (pa_cons (pv 1) (pa_cons (pv 2) (pa_cons (pv 3) pa_nil)))))))))
        (fun a oe cls d pn hz hf => pss_one (ps_ret (pe_ifExp (PW.pt (pw_and (pt_val (pe_callB (isR K hz hf) (by rfl) B.isi b_isi (pa_cons (pv 4) (pa_cons (pe_glob (v := .ref CT) rfl T.gT rfl) pa_nil)))) (pw_and1 (pt_val (pe_callB (isR K hz hf) (by rfl) B.isi b_isi (pa_cons (pv 4) (pa_cons (pe_bltn (v := .ty "ValueError") rfl B.verr b_verr rfl) pa_nil))))))) (pe_what T.ref hz hf (pv 4)) pe_str)))), ?_⟩
    have rd : ∀ (x : Str) (d : Addr) (H' : Hp) (Dn : Ends), H' d = some (.xd [(("what" : Str), .str x)]) → Dn.rt (.str x) H' → ∀ a, H' a = none →
        tRet (tIf (tAnd (tB (tCB (rIsR K a (.ref C) (some d)) (tCons (tVar 4) (tCons (tC (.ref CT)) tNil)))) (tB (tCB (rIsR K a (.ref C) (some d)) (tCons (tVar 4) (tCons (tC (.ty "ValueError")) tNil))))) (tWhat C a (.ref C) (some d) (tVar 4)) (tC (.str "other"))) Dn
          [some v, some (.int pt), some (.int kd), some (.int am), some (.ref a)] H' := by
      intro x d H' Dn hd k a ha
      refine ⟨_, rfl, _, _, true, C, d, rfl, rfl, rfl, ⟨_, hd⟩, T.exc, fun u h => h, T.kT, true, rfl, ?_⟩
      refine iteT ?_
      refine ⟨_, rfl, _, _, true, C, d, rfl, rfl, rfl, ⟨_, hd⟩, T.exc, fun u h => h, T.kV, true, rfl, ?_⟩
      refine iteT ?_
      exact ⟨_, rfl, rfl, rfl, d, _, rfl, hd, k⟩
    refine ⟨_, rfl, _, rfl, _, rfl, _, rfl, v, e, pt, kd, am, m, rfl, he, ok, hm, fun h d H' s1 hd hd' => ?_, fun h1 h2 d H' s1 hd hd' => ?_, fun h1 h2 H' v' s1 hv => q3 h1 h2 H' v' s1 hv⟩
    · exact ⟨true, T.ref.te, fun _ a ha => rd _ d H' _ hd' (q1 h H' s1) a ha, fun z => Bool.noConfusion z⟩
    · exact ⟨true, T.ref.te, fun _ a ha => rd _ d H' _ hd' (q2 h1 h2 H' s1) a ha, fun z => Bool.noConfusion z⟩
end
end K1
end
section
set_option Elab.async false
set_option linter.all false
set_option maxRecDepth 100000
set_option maxHeartbeats 2000000
namespace K1
open PySem PyProof.Rows L2
/-! the evidence as data: its text is short, it equals itself -/
open PySem.PyData in
def vD : V → PyData
  | .int i => .int i
  | .bl b => .bool b
  | .str x => .str x
  | _ => .none
def rowD (r : List V) : PyData := .tuple (r.map vD)
def fileD (rs : List (List V)) : PyData := .tuple (rs.map rowD)
def filesD (fs : List (List (List V))) : PyData := .tuple (fs.map fileD)
def evD (e : Ev) : PyData := .tuple [.int e.kinds, fileD e.parties, filesD e.files, fileD e.finds]
/-- what a row may hold -/
inductive Cell : V → Prop
  | int (i : Int) (h : i.natAbs ≤ 1000000000000) : Cell (.int i)
  | bl (b : Bool) : Cell (.bl b)
  | str (x : Str) (h : x = "made" ∨ x = "treated" ∨ x = "gave" ∨ x = "took") : Cell (.str x)
def Plain (r : List V) : Prop := r.length ≤ 6 ∧ ∀ y ∈ r, Cell y
theorem okEntry.plain {k p o : Int} {r : List V} (hk : k ≤ 3) (hp : p ≤ 8) (h : okEntry k p o r) : Plain r := by
  obtain ⟨n, kd, am, h1, h2, h3, ⟨d, hd, rfl⟩ | ⟨d, ot, b, hd, h4, h5, h6, rfl⟩⟩ := h
  · refine ⟨by show 4 ≤ 6; decide, fun y hy => ?_⟩
    simp only [List.mem_cons, List.not_mem_nil, or_false] at hy
    rcases hy with rfl | rfl | rfl | rfl
    · exact .int _ (by omega)
    · exact .str _ (by rcases hd with h | h <;> simp [h])
    · exact .int _ (by omega)
    · exact .int _ (by omega)
  · refine ⟨by show 6 ≤ 6; decide, fun y hy => ?_⟩
    simp only [List.mem_cons, List.not_mem_nil, or_false] at hy
    rcases hy with rfl | rfl | rfl | rfl | rfl | rfl
    · exact .int _ (by omega)
    · exact .str _ (by rcases hd with h | h <;> simp [h])
    · exact .int _ (by omega)
    · exact .int _ (by omega)
    · exact .int _ (by omega)
    · exact .bl _
theorem okFind.plain {k p : Int} {r : List V} (hk : k ≤ 3) (hp : p ≤ 8) (h : okFind k p r) : Plain r := by
  obtain ⟨n, pt, kd, am, h1, h2, h3, h4, rfl⟩ := h
  refine ⟨by show 4 ≤ 6; decide, fun y hy => ?_⟩
  simp only [List.mem_cons, List.not_mem_nil, or_false] at hy
  rcases hy with rfl | rfl | rfl | rfl <;> exact .int _ (by omega)
/-- every row plain, not too many -/
structure EvPlain (e : Ev) : Prop where
  k : e.kinds.natAbs ≤ 1000000000000
  p : ∀ r ∈ e.parties, Plain r
  f : ∀ rs ∈ e.files, ∀ r ∈ rs, Plain r
  g : ∀ r ∈ e.finds, Plain r
  np : e.parties.length ≤ 1000
  nf : e.files.length ≤ 1000
  nr : e.files.flatten.length ≤ 1000
  ng : e.finds.length ≤ 1000
theorem EvGood.plain {e : Ev} (g : EvGood e) : EvPlain e := by
  have k1 := g.k1
  have k3 := g.k3
  have p8 := g.p8
  refine ⟨by omega, fun r hr => ?_, fun rs hrs r hr => ?_, fun r hr => (g.gr r hr).plain g.k3 (by omega), by omega, by have := g.len; omega, Nat.le_trans g.many (by decide), Nat.le_trans g.gl (by decide)⟩
  · obtain ⟨a, b, rfl⟩ := g.par r hr
    refine ⟨by show 2 ≤ 6; decide, fun y hy => ?_⟩
    simp only [List.mem_cons, List.not_mem_nil, or_false] at hy
    rcases hy with rfl | rfl <;> exact .bl _
  · obtain ⟨i, hi⟩ := List.getElem?_of_mem hrs
    exact ((g.fl i rs hi).2.1 r hr).plain g.k3 (by omega)
section
variable {K : PySem.W.Frag} {H : Hp}
theorem cell_dp {y : V} (h : Cell y) : Dp K H y (vD y) := by
  cases h with
  | int i _ => exact .int i
  | bl b => exact .bl b
  | str x _ => exact .str x
theorem row_all : ∀ {r : List V}, (∀ y ∈ r, Cell y) → DpAll K H r (r.map vD)
  | [], _ => .nil
  | y :: r, h => .cons (cell_dp (h y List.mem_cons_self)) (row_all fun z hz => h z (List.mem_cons_of_mem _ hz))
theorem row_dp {v : V} {r : List V} (h : TpV H v r) (p : Plain r) : Dp K H v (rowD r) := by
  obtain ⟨a, rfl, e⟩ := h
  exact .tup (SqT.of e) (row_all p.2)
theorem rows_all : ∀ {vs : List V} {rs : List (List V)}, Paired (TpV H) vs rs → (∀ r ∈ rs, Plain r) → DpAll K H vs (rs.map rowD)
  | _, _, .nil, _ => .nil
  | _, _, .cons r t, h => .cons (row_dp r (h _ List.mem_cons_self)) (rows_all t fun z hz => h z (List.mem_cons_of_mem _ hz))
theorem file_dp {v : V} {rs : List (List V)} (h : FileAt H v rs) (p : ∀ r ∈ rs, Plain r) : Dp K H v (fileD rs) := by
  obtain ⟨vs, ⟨a, rfl, e⟩, q⟩ := h
  exact .tup (SqT.of e) (rows_all q p)
theorem files_all : ∀ {vs : List V} {fs : List (List (List V))}, Paired (FileAt H) vs fs → (∀ rs ∈ fs, ∀ r ∈ rs, Plain r) → DpAll K H vs (fs.map fileD)
  | _, _, .nil, _ => .nil
  | _, _, .cons r t, h => .cons (file_dp r (h _ List.mem_cons_self)) (files_all t fun z hz => h z (List.mem_cons_of_mem _ hz))
theorem files_dp {v : V} {fs : List (List (List V))} (h : FilesAt H v fs) (p : ∀ rs ∈ fs, ∀ r ∈ rs, Plain r) : Dp K H v (filesD fs) := by
  obtain ⟨vs, ⟨a, rfl, e⟩, q⟩ := h
  exact .tup (SqT.of e) (files_all q p)
theorem ev_dp {v : V} {e : Ev} (h : EvAt H v e) (p : EvPlain e) : Dp K H v (evD e) := by
  obtain ⟨x, f, g, ⟨a, rfl, ea⟩, h1, h2, h3⟩ := h
  exact .tup (SqT.of ea) (.cons (.int _) (.cons (file_dp h1 p.p) (.cons (files_dp h2 p.f) (.cons (file_dp h3 p.g) .nil))))
theorem ints_all : ∀ ns : List Int, DpAll K H (ns.map V.int) (ns.map PyData.int)
  | [] => .nil
  | n :: ns => .cons (.int n) (ints_all ns)
end
/-! sizes -/
theorem lay_all {α : Type} {f : α → PyData} : ∀ {xs : List α}, (∀ x ∈ xs, (f x).canLay0 = true) → PyData.canLayAll0 (xs.map f) = true
  | [], _ => rfl
  | x :: xs, h => by
    show ((f x).canLay0 && PyData.canLayAll0 (xs.map f)) = true
    rw [h x List.mem_cons_self, lay_all fun y hy => h y (List.mem_cons_of_mem _ hy)]
    rfl
theorem show_all {α : Type} {f : α → PyData} : ∀ {xs : List α}, (∀ x ∈ xs, (f x).showable = true) → PyData.showableAll (xs.map f) = true
  | [], _ => by rfl
  | x :: xs, h => by
    rw [List.map_cons, PyData.showableAll, h x List.mem_cons_self, show_all fun y hy => h y (List.mem_cons_of_mem _ hy)]
    rfl
theorem short_all {α : Type} {f : α → PyData} : ∀ {xs : List α}, (∀ x ∈ xs, (f x).leavesShort 14 = true) → PyData.leavesShortAll 14 (xs.map f) = true
  | [], _ => by rfl
  | x :: xs, h => by
    rw [List.map_cons, PyData.leavesShortAll, h x List.mem_cons_self, short_all fun y hy => h y (List.mem_cons_of_mem _ hy)]
    rfl
theorem dict_all {α : Type} {f : α → PyData} : ∀ {xs : List α}, (∀ x ∈ xs, (f x).hasDict = false) → PyData.hasDictAll (xs.map f) = false
  | [], _ => by rfl
  | x :: xs, h => by
    rw [List.map_cons, PyData.hasDictAll, h x List.mem_cons_self, dict_all fun y hy => h y (List.mem_cons_of_mem _ hy)]
    rfl
theorem depth_all {α : Type} {f : α → PyData} {d : Nat} : ∀ {xs : List α}, (∀ x ∈ xs, (f x).depth ≤ d) → PyData.depthAll (xs.map f) ≤ d
  | [], _ => by
    rw [List.map_nil, PyData.depthAll]
    exact Nat.zero_le _
  | x :: xs, h => by
    rw [List.map_cons, PyData.depthAll]
    have h1 := h x List.mem_cons_self
    have h2 := depth_all (f := f) fun y hy => h y (List.mem_cons_of_mem _ hy)
    omega
theorem weight_all {α : Type} {f : α → PyData} {d : Nat} : ∀ {xs : List α}, (∀ x ∈ xs, (f x).weight ≤ d) → PyData.weightAll (xs.map f) ≤ xs.length * (d + 1)
  | [], _ => by
    rw [List.map_nil, PyData.weightAll]
    exact Nat.zero_le _
  | x :: xs, h => by
    rw [List.map_cons, PyData.weightAll, List.length_cons, Nat.succ_mul]
    have h1 := h x List.mem_cons_self
    have h2 := weight_all (f := f) fun y hy => h y (List.mem_cons_of_mem _ hy)
    omega
theorem log_small {n : Nat} (h : n ≤ 1000000000000) : n.log2 < 40 := by
  by_cases z : n = 0
  · rw [z]; decide
  · rw [Nat.log2_lt z]
    exact Nat.lt_of_le_of_lt h (by decide)
theorem cell_facts {y : V} (h : Cell y) : (vD y).canLay0 = true ∧ (vD y).showable = true ∧ (vD y).leavesShort 14 = true ∧ (vD y).hasDict = false ∧ (vD y).depth ≤ 0 ∧ (vD y).weight ≤ 41 := by
  cases h with
  | int i h =>
    have l := log_small h
    refine ⟨rfl, decide_eq_true (Nat.lt_trans l (by decide)), decide_eq_true ?_, rfl, Nat.le_refl 0, ?_⟩
    · show (Str.ofString (toString i)).length ≤ 14
      have q := int_text_length_le10 (a := i) (k := 13) (by decide) (Nat.lt_of_le_of_lt h (by decide))
      rw [PySem.ofString_length]
      exact q
    · show (if i == 0 then 0 else i.natAbs.log2 + 1) ≤ 41
      split <;> omega
  | bl b => exact ⟨rfl, rfl, rfl, rfl, Nat.le_refl 0, Nat.zero_le _⟩
  | str x h => rcases h with rfl | rfl | rfl | rfl <;> exact ⟨by decide +kernel, rfl, by decide +kernel, rfl, Nat.le_refl 0, by decide +kernel⟩
theorem row_facts {r : List V} (h : Plain r) : (rowD r).canLay0 = true ∧ (rowD r).showable = true ∧ (rowD r).leavesShort 14 = true ∧ (rowD r).hasDict = false ∧ (rowD r).depth ≤ 1 ∧ (rowD r).weight ≤ 252 := by
  refine ⟨lay_all fun x hx => (cell_facts (h.2 x hx)).1, ?_, ?_, ?_, ?_, ?_⟩
  · show PyData.showable (.tuple _) = true
    rw [PyData.showable]
    exact show_all fun x hx => (cell_facts (h.2 x hx)).2.1
  · show PyData.leavesShort 14 (.tuple _) = true
    rw [PyData.leavesShort]
    exact short_all fun x hx => (cell_facts (h.2 x hx)).2.2.1
  · show PyData.hasDict (.tuple _) = false
    rw [PyData.hasDict]
    exact dict_all fun x hx => (cell_facts (h.2 x hx)).2.2.2.1
  · show PyData.depth (.tuple _) ≤ 1
    rw [PyData.depth]
    have := depth_all (f := vD) (d := 0) fun x hx => (cell_facts (h.2 x hx)).2.2.2.2.1
    omega
  · show PyData.weight (.tuple _) ≤ 252
    rw [PyData.weight]
    have := weight_all (f := vD) (d := 41) fun x hx => (cell_facts (h.2 x hx)).2.2.2.2.2
    have := h.1
    omega
theorem file_facts {rs : List (List V)} (h : ∀ r ∈ rs, Plain r) : (fileD rs).canLay0 = true ∧ (fileD rs).showable = true ∧ (fileD rs).leavesShort 14 = true ∧ (fileD rs).hasDict = false ∧ (fileD rs).depth ≤ 2 ∧ (fileD rs).weight ≤ rs.length * 253 := by
  refine ⟨lay_all fun x hx => (row_facts (h x hx)).1, ?_, ?_, ?_, ?_, ?_⟩
  · show PyData.showable (.tuple _) = true
    rw [PyData.showable]
    exact show_all fun x hx => (row_facts (h x hx)).2.1
  · show PyData.leavesShort 14 (.tuple _) = true
    rw [PyData.leavesShort]
    exact short_all fun x hx => (row_facts (h x hx)).2.2.1
  · show PyData.hasDict (.tuple _) = false
    rw [PyData.hasDict]
    exact dict_all fun x hx => (row_facts (h x hx)).2.2.2.1
  · show PyData.depth (.tuple _) ≤ 2
    rw [PyData.depth]
    have := depth_all (f := rowD) (d := 1) fun x hx => (row_facts (h x hx)).2.2.2.2.1
    omega
  · show PyData.weight (.tuple _) ≤ _
    rw [PyData.weight]
    exact weight_all (f := rowD) (d := 252) fun x hx => (row_facts (h x hx)).2.2.2.2.2
theorem files_weight : ∀ {fs : List (List (List V))}, (∀ rs ∈ fs, ∀ r ∈ rs, Plain r) → PyData.weightAll (fs.map fileD) ≤ fs.flatten.length * 253 + fs.length
  | [], _ => by
    rw [List.map_nil, PyData.weightAll]
    exact Nat.zero_le _
  | x :: xs, h => by
    rw [List.map_cons, PyData.weightAll, List.flatten_cons, List.length_append, List.length_cons, Nat.add_mul]
    have h1 := (file_facts (h x List.mem_cons_self)).2.2.2.2.2
    have h2 := files_weight fun y hy => h y (List.mem_cons_of_mem _ hy)
    omega
theorem files_facts {fs : List (List (List V))} (h : ∀ rs ∈ fs, ∀ r ∈ rs, Plain r) : (filesD fs).canLay0 = true ∧ (filesD fs).showable = true ∧ (filesD fs).leavesShort 14 = true ∧ (filesD fs).hasDict = false ∧ (filesD fs).depth ≤ 3 ∧ (filesD fs).weight ≤ fs.flatten.length * 253 + fs.length := by
  refine ⟨lay_all fun x hx => (file_facts (h x hx)).1, ?_, ?_, ?_, ?_, ?_⟩
  · show PyData.showable (.tuple _) = true
    rw [PyData.showable]
    exact show_all fun x hx => (file_facts (h x hx)).2.1
  · show PyData.leavesShort 14 (.tuple _) = true
    rw [PyData.leavesShort]
    exact short_all fun x hx => (file_facts (h x hx)).2.2.1
  · show PyData.hasDict (.tuple _) = false
    rw [PyData.hasDict]
    exact dict_all fun x hx => (file_facts (h x hx)).2.2.2.1
  · show PyData.depth (.tuple _) ≤ 3
    rw [PyData.depth]
    have := depth_all (f := fileD) (d := 2) fun x hx => (file_facts (h x hx)).2.2.2.2.1
    omega
  · show PyData.weight (.tuple _) ≤ _
    rw [PyData.weight]
    exact files_weight h
/-- what == and repr ask of the evidence -/
structure EvFacts (d : PyData) : Prop where
  shaped : SeqAt.shaped d = true
  shows : d.showable = true
  nodict : d.hasDict = false
  depth : d.depth ≤ 60
  short : d.shown.length ≤ sizeLine
  refl : PyData.eqv d d = true
theorem ev_facts {e : Ev} (p : EvPlain e) : EvFacts (evD e) := by
  obtain ⟨k1, k2, k3, k4, k5, k6⟩ := cell_facts (.int e.kinds p.k)
  obtain ⟨a1, a2, a3, a4, a5, a6⟩ := file_facts p.p
  obtain ⟨b1, b2, b3, b4, b5, b6⟩ := files_facts p.f
  obtain ⟨c1, c2, c3, c4, c5, c6⟩ := file_facts p.g
  have lay : (evD e).canLay0 = true := by
    show (PyData.canLay0 (.int e.kinds) && ((fileD e.parties).canLay0 && ((filesD e.files).canLay0 && ((fileD e.finds).canLay0 && true)))) = true
    rw [a1, b1, c1]
    rfl
  have dep : (evD e).depth ≤ 4 := by
    show PyData.depth (.tuple _) ≤ 4
    simp only [PyData.depth, PyData.depthAll]
    omega
  have sh : (evD e).leavesShort 14 = true := by
    show PyData.leavesShort 14 (.tuple _) = true
    simp only [PyData.leavesShort, PyData.leavesShortAll, a3, b3, c3, Bool.and_true]
    exact k3
  refine ⟨?_, ?_, ?_, by omega, ?_, SeqAt.eqv_refl _ lay⟩
  · show ((evD e).canLay0 && decide ((evD e).depth ≤ 64)) = true
    rw [lay, decide_eq_true (by omega)]
    rfl
  · show PyData.showable (.tuple _) = true
    simp only [PyData.showable, PyData.showableAll, a2, b2, c2, Bool.and_true]
    exact k2
  · show PyData.hasDict (.tuple _) = false
    simp only [PyData.hasDict, PyData.hasDictAll, a4, b4, c4, Bool.or_false]
  · have h := PyData.shown_le 14 (by decide) (evD e) sh
    have w : (evD e).weight ≤ 770000 := by
      show PyData.weight (.tuple _) ≤ _
      simp only [PyData.weight, PyData.weightAll]
      have k6' : (if e.kinds == 0 then 0 else e.kinds.natAbs.log2 + 1) ≤ 41 := k6
      have := p.np
      have := p.nf
      have := p.nr
      have := p.ng
      omega
    rw [sizeLine_eq]
    omega
theorem ints_facts (ns : List Int) : SeqAt.shaped (.list (ns.map PyData.int)) = true ∧ PyData.eqv (.list (ns.map PyData.int)) (.list (ns.map PyData.int)) = true := by
  have lay : PyData.canLay0 (.list (ns.map PyData.int)) = true := lay_all fun _ _ => rfl
  refine ⟨?_, SeqAt.eqv_refl _ lay⟩
  show (PyData.canLay0 _ && decide (PyData.depth _ ≤ 64)) = true
  rw [lay]
  have : PyData.depth (.list (ns.map PyData.int)) ≤ 1 := by
    rw [PyData.depth]
    have := depth_all (f := PyData.int) (d := 0) (xs := ns) fun _ _ => Nat.le_refl 0
    omega
  rw [decide_eq_true (by omega)]
  rfl
end K1
end
section
set_option Elab.async false
set_option linter.all false
set_option maxRecDepth 100000
set_option maxHeartbeats 2000000
namespace K1
open PySem PyProof.Rows L2
theorem b_repr : bootBuiltins "repr" = some (.builtin "repr") := by decide +kernel
/-- the evidence as law holds it: its parts in its names, its own tuple -/
def EvIn (H : Hp) (ve p fl g : V) (e : Ev) : Prop := TpV H ve [.int e.kinds, p, fl, g] ∧ FileAt H p e.parties ∧ FilesAt H fl e.files ∧ FileAt H g e.finds
theorem EvIn.at_ {H : Hp} {ve p fl g : V} {e : Ev} (h : EvIn H ve p fl g e) : EvAt H ve e := ⟨p, fl, g, h.1, h.2.1, h.2.2.1, h.2.2.2⟩
theorem EvIn.kp {H H' : Hp} {ve p fl g : V} {e : Ev} (h : EvIn H ve p fl g e) (k : Kp H H') : EvIn H' ve p fl g e := ⟨k.tp h.1, k.file h.2.1, k.files h.2.2.1, k.file h.2.2.2⟩
theorem withFind_plain {e : Ev} {r : List V} (p : EvPlain e) (h : Plain r) (l : e.finds.length ≤ 999) : EvPlain (withFind e r) := by
  refine ⟨p.k, p.p, p.f, fun r' hr' => ?_, p.np, p.nf, p.nr, ?_⟩
  · rcases List.mem_append.mp (show r' ∈ e.finds ++ [r] from hr') with z | z
    · exact p.g r' z
    · rw [List.mem_singleton.mp z]; exact h
  · show (e.finds ++ [r]).length ≤ 1000
    rw [List.length_append, List.length_singleton]
    omega
section
variable {P : Program} {w : World} {K : PySem.W.Frag} {mg : Str → Option Value} {base : Heap}
abbrev lawN : List Str := ["_law_script", "_law_kinds", "_law_parties_here", "_law_files", "_law_finds", "_law_kind", "_law_k", "_law_evidence_here", "_law_kept", "_law_numbers", "_law_file", "_law_last", "_law_number", "_law_parts", "_law_due", "_law_rows", "_law_told_here", "_law_row"]
def spLaw (K : PySem.W.Frag) (T1 T2 T3 T4 T5 : Addr) : Sp := fun vs H Q _ => ∃ (a : Addr) (ns : List Int), vs = [.ref a] ∧ SqL K H a (ns.map V.int) ∧ Tabs H T1 T2 T3 T4 T5 ∧ ∀ H', Q (.bl true) H'
theorem scLaw : FnScope lawN ["_law_script"] (defScope sLaw) := ⟨rfl, rfl, rfl, by decide +kernel, rfl, by decide +kernel, by decide +kernel⟩
abbrev lawX (P : Program) (w : World) (K : PySem.W.Frag) (mg : Str → Option Value) (base : Heap) (f : Addr) (cdv : Value) (A : Around) (outer : List Env) (s : Shared) (H : Hp) (E : XK) : Cx := (cxOf CX0 P w K mg base lawN "law" (defScope sLaw) f cdv A outer s H E).nox
/-- from told to the end -/
theorem law_end {f fT : Addr} {fdT : FuncData} {cdv : Value} {A : Around} {outer : List Env} {s : Shared} {H : Hp} {E : XK} {Q : VK} (B : Blt mg) (hr : Room 6 (A.deeper (envOfC "law" (defScope sLaw) s.heap.objs.size f cdv))) (hgu : A.guards = some [])
    (DT : DefAt K mg "_law_told" sTold ["_law_evidence_here", "_law_party", "_law_kind", "_law_amount"] fT fdT) (GT : FnOk P w K mg base CX0 4 fT fdT ["_law_evidence_here", "_law_party", "_law_kind", "_law_amount"] spTold) :
    ∃ tR, PSs (lawX P w K mg base f cdv A outer s H E) ((defBody sLaw).drop 15) tR ∧ ∀ (H1 : Hp) (e : Ev) (m : Int) (x0 p fl g x5 ve : V) (x6 x9 x10 x12 x13 x14 x15 x16 x17 : Option V),
      EvIn H1 ve p fl g e → EvOk e → EvPlain e → IsMax0 m (numsOf e) → e.finds.length ≤ 200 → (∀ r ∈ e.finds, (hdI r).natAbs ≤ 1000000000) → m ≤ 1000000000 → 0 ≤ m → 1 ≤ e.parties.length → 1 ≤ e.kinds → e.parties.length ≤ 8 → e.kinds ≤ 3 → (∀ H', Q (.bl true) H') →
        tR { nx := fun _ H' => Q .non H', rt := Q } [some x0, some (.int e.kinds), some p, some fl, some g, some x5, x6, some ve, some (.str (evD e).shown), x9, x10, some (.int m), x12, x13, x14, x15, x16, x17] H1 := by
  have nd := scLaw.nd
  have hu := hu_of hr
  have hr4 := hr.mono (show 4 ≤ 6 by decide)
  have hu8 : (A.deeper (envOfC "law" (defScope sLaw) s.heap.objs.size f cdv)).units + 80 < cLine := by have := hr.un; omega
  have hu64 : (A.deeper (envOfC "law" (defScope sLaw) s.heap.objs.size f cdv)).units + 64 < cLine := by omega
  have hgu : (lawX P w K mg base f cdv A outer s H E).A.guards = some [] := hgu
  refine ⟨_, (pss_cons (ps_set (i := 16) nd rfl (Or.inl rfl) (pe_call GT hr4 (by rfl) DT.g DT.k DT.b .nil pass0 (pa_cons (pv 7) (pa_cons (pe_op op_sub (pe_callB (lenK K) (by rfl) B.len b_len (pa_cons (pv 2) pa_nil)) pe_int) (pa_cons (pe_op op_sub (pv 1) pe_int) (pa_cons pe_int pa_nil))))))
      (pss_cons (ps_if (pt_cmpR op_ge (pe_callB (lenK K) (by rfl) B.len b_len (pa_cons (pv 4) pa_nil)) pe_int (nomark _)) (pss_one (ps_ret (pe_and (pe_cmpR op_eq (pv 16) pe_str (nomark _)) (pe_one (pe_cmpR op_eq (pe_callB (cr_repr hgu hu8) (by rfl) B.repr b_repr (pa_cons (pv 7) pa_nil)) (pv 8) (nomark _)))))) pss_nil)
      (pss_cons (ps_if (pt_cmpR op_ge (pv 11) (pe_op op_pow pe_int pe_int) (nomark _)) (pss_one (ps_ret (pe_and (pe_cmpR op_eq (pv 16) pe_str (nomark _)) (pe_one (pe_cmpR op_eq (pe_callB (cr_repr hgu hu8) (by rfl) B.repr b_repr (pa_cons (pv 7) pa_nil)) (pv 8) (nomark _)))))) pss_nil)
      (pss_cons (ps_set (i := 14) nd rfl (Or.inl rfl) (pe_tup (pa_cons (pv 1) (pa_cons (pv 2) (pa_cons (pv 3) (pa_cons (pe_op op_catA (pv 4) (pe_tup (pa_cons (pe_tup (pa_cons (pe_op op_add (pv 11) pe_int) (pa_cons (pe_op op_sub (pe_callB (lenK K) (by rfl) B.len b_len (pa_cons (pv 2) pa_nil)) pe_int) (pa_cons (pe_op op_sub (pv 1) pe_int) (pa_cons pe_int pa_nil))))) pa_nil))) pa_nil))))))
      (pss_one (ps_ret (pe_and (pe_cmpR (op_eqD hu64) (pv 16) (pv 14) (nomark _)) (pe_one (pe_cmpR op_eq (pe_callB (cr_repr hgu hu8) (by rfl) B.repr b_repr (pa_cons (pv 7) pa_nil)) (pv 8) (nomark _)))))))))), ?_⟩
  intro H1 e m x0 p fl g x5 ve x6 x9 x10 x12 x13 x14 x15 x16 x17 hin ok pl hm hg200 hnum hm9 hm0 hp1 hk1 hp8 hk3 q
  obtain ⟨⟨av, rfl, hav⟩, hp, hf, hg⟩ := id hin
  obtain ⟨pw, ⟨ap, rfl, hpa⟩, hpq⟩ := id hp
  obtain ⟨gw, ⟨ag, rfl, hga⟩, hgq⟩ := id hg
  have hpl := paired_len hpq
  have hgl := paired_len hgq
  have fa := ev_facts pl
  refine ⟨_, rfl, _, rfl, _, _, rfl, .inr (SqT.of hpa), _, _, rfl, rfl, _, rfl, _, _, rfl, rfl, ?_⟩
  refine ⟨.ref av, e, (pw.length : Int) - 1, e.kinds - 1, 7, m, rfl, hin.at_, ok, hm, fun h2 H2 s2 => ?_, fun h2 h3 H2 s2 => ?_, fun h2 h3 H2 v2 s2 hv2 => ?_⟩
  · refine ⟨_, rfl, _, _, rfl, .inr (SqT.of (s2 _ _ hga)), _, _, rfl, rfl, _, rfl, ?_⟩
    refine iteY (decide_eq_true (by omega)) ?_
    refine ⟨_, rfl, rfl, _, rfl, ?_⟩
    refine iteY (decide_eq_true rfl) ?_
    refine ⟨_, rfl, av, evD e, rfl, ev_dp ((Kt.same s2).kp.ev hin.at_) pl, fa.shows, fa.nodict, fa.depth, fa.short, _, rfl, rfl, ?_⟩
    rw [decide_eq_true rfl]
    exact q _
  · refine ⟨_, rfl, _, _, rfl, .inr (SqT.of (s2 _ _ hga)), _, _, rfl, rfl, _, rfl, ?_⟩
    refine iteN (decide_eq_false (by omega)) ?_
    refine ⟨_, rfl, _, _, rfl, rfl, ⟨by decide, by decide, by decide⟩, _, _, rfl, rfl, _, rfl, ?_⟩
    refine iteY (decide_eq_true (by show (10 : Int) ^ (9 : Int).toNat ≤ m; exact h3)) ?_
    refine ⟨_, rfl, rfl, _, rfl, ?_⟩
    refine iteY (decide_eq_true rfl) ?_
    refine ⟨_, rfl, av, evD e, rfl, ev_dp ((Kt.same s2).kp.ev hin.at_) pl, fa.shows, fa.nodict, fa.depth, fa.short, _, rfl, rfl, ?_⟩
    rw [decide_eq_true rfl]
    exact q _
  · refine ⟨_, rfl, _, _, rfl, .inr (SqT.of (s2 _ _ hga)), _, _, rfl, rfl, _, rfl, ?_⟩
    refine iteN (decide_eq_false (by omega)) ?_
    refine ⟨_, rfl, _, _, rfl, rfl, ⟨by decide, by decide, by decide⟩, _, _, rfl, rfl, _, rfl, ?_⟩
    refine iteN (decide_eq_false (by show ¬ (10 : Int) ^ (9 : Int).toNat ≤ m; exact Int.not_le.mpr h3)) ?_
    have k2 := (Kt.same s2).kp
    refine ⟨_, rfl, _, rfl, _, rfl, _, rfl, _, rfl, _, _, rfl, rfl, _, rfl, _, _, rfl, .inr (SqT.of (s2 _ _ hpa)), _, _, rfl, rfl, _, rfl, _, _, rfl, rfl, (by show 4 ≤ sizeLine; decide), fun t1 ht1 => ⟨(by show 1 ≤ sizeLine; decide), fun t2 ht2 => ?_⟩⟩
    have s3 : Same H2 (upd H2 t1 (.tup [.int (m + 1), .int ((pw.length : Int) - 1), .int (e.kinds - 1), .int 7])) := fun c o z => upd_get z ht1
    have s4 : Same _ (upd (upd H2 t1 (.tup [.int (m + 1), .int ((pw.length : Int) - 1), .int (e.kinds - 1), .int 7])) t2 (.tup [.ref t1])) := fun c o z => upd_get z ht2
    have row : TpV (upd (upd H2 t1 (.tup [.int (m + 1), .int ((pw.length : Int) - 1), .int (e.kinds - 1), .int 7])) t2 (.tup [.ref t1])) (.ref t1) [.int (m + 1), .int ((pw.length : Int) - 1), .int (e.kinds - 1), .int 7] := ⟨t1, rfl, s4 _ _ upd_same⟩
    have s24 : Same H2 (upd (upd H2 t1 (.tup [.int (m + 1), .int ((pw.length : Int) - 1), .int (e.kinds - 1), .int 7])) t2 (.tup [.ref t1])) := fun c o z => s4 _ _ (s3 _ _ z)
    have hplr : Plain [V.int (m + 1), .int ((pw.length : Int) - 1), .int (e.kinds - 1), .int 7] := by
      refine ⟨by show 4 ≤ 6; decide, fun y hy => ?_⟩
      simp only [List.mem_cons, List.not_mem_nil, or_false] at hy
      rcases hy with rfl | rfl | rfl | rfl <;> exact .int _ (by omega)
    have pl2 := withFind_plain pl hplr (by omega)
    have fb := ev_facts pl2
    have fin : ∀ (b : Addr) (H5 : Hp), Same (upd (upd H2 t1 (.tup [.int (m + 1), .int ((pw.length : Int) - 1), .int (e.kinds - 1), .int 7])) t2 (.tup [.ref t1])) H5 → H5 b = some (.tup (gw ++ [.ref t1])) →
        (4 : Nat) ≤ sizeLine ∧ ∀ t, H5 t = none → tRet (tAndV (tOp (rEqD K) (tVar 16) (tVar 14)) (tOp rEq (tCB (fun xs H Q => ∃ (a : Addr) (d : PyData), xs = [V.ref a] ∧ Dp K H (.ref a) d ∧ d.showable = true ∧ d.hasDict = false ∧ d.depth ≤ 60 ∧ d.shown.length ≤ sizeLine ∧ Q (.str d.shown) H) (tCons (tVar 7) tNil)) (tVar 8))) { nx := fun _ H' => Q .non H', rt := Q }
          [some x0, some (.int e.kinds), some (.ref ap), some fl, some (.ref ag), some x5, x6, some (.ref av), some (.str (evD e).shown), x9, x10, some (.int m), x12, x13, some (.ref t), x15, some v2, x17] (upd H5 t (.tup [.int e.kinds, .ref ap, fl, .ref b])) := by
      intro b H5 s5 hb
      refine ⟨by decide, fun t ht => ?_⟩
      have s6 : Same H5 (upd H5 t (.tup [.int e.kinds, .ref ap, fl, .ref b])) := fun c o z => upd_get z ht
      have sall : Same H1 (upd H5 t (.tup [.int e.kinds, .ref ap, fl, .ref b])) := fun c o z => s6 _ _ (s5 _ _ (s24 _ _ (s2 _ _ z)))
      have k2e := (Kt.same (fun c o z => s6 _ _ (s5 _ _ (s24 _ _ z)) : Same H2 (upd H5 t (.tup [.int e.kinds, .ref ap, fl, .ref b])))).kp
      have k1e := (Kt.same sall).kp
      have k56 := (Kt.same (fun c o z => s6 _ _ (s5 _ _ z) : Same (upd (upd H2 t1 (.tup [.int (m + 1), .int ((pw.length : Int) - 1), .int (e.kinds - 1), .int 7])) t2 (.tup [.ref t1])) (upd H5 t (.tup [.int e.kinds, .ref ap, fl, .ref b])))).kp
      have due : EvAt (upd H5 t (.tup [.int e.kinds, .ref ap, fl, .ref b])) (.ref t) (withFind e [.int (m + 1), .int ((pw.length : Int) - 1), .int (e.kinds - 1), .int 7]) :=
        ⟨.ref ap, fl, .ref b, ⟨t, rfl, upd_same⟩, k1e.file hp, k1e.files hf, gw ++ [.ref t1], ⟨b, rfl, s6 _ _ hb⟩, paired_app (Paired.mapP hgq fun _ _ z => k1e.tp z) (.cons (k56.tp row) .nil)⟩
      refine ⟨_, rfl, _, rfl, _, _, ev_dp (k2e.ev hv2) pl2, ev_dp due pl2, fb.shaped, fb.shaped, true, ?_, ?_⟩
      · rw [fb.refl]
      refine iteT ?_
      refine ⟨_, rfl, av, evD e, rfl, ev_dp ((Kt.same sall).kp.ev hin.at_) pl, fa.shows, fa.nodict, fa.depth, fa.short, _, rfl, rfl, ?_⟩
      rw [decide_eq_true rfl]
      exact q _
    have hsz : gw.length + 1 ≤ sizeLine := Nat.le_of_lt (small1000 (by omega))
    refine ⟨ag, t2, gw, [.ref t1], rfl, rfl, SqT.of (s24 _ _ (s2 _ _ hga)), SqT.of upd_same, hsz, fun e0 => ?_, fun _ z => absurd z (by simp), fun _ _ t3 ht3 => ?_⟩
    · subst e0
      exact fin t2 _ (fun c o z => z) upd_same
    · exact fin t3 _ (fun c o z => upd_get z ht3) upd_same
end
end K1
end
section
set_option Elab.async false
set_option linter.all false
set_option maxRecDepth 100000
set_option maxHeartbeats 2000000
namespace K1
open PySem PyProof.Rows L2
section
variable {X : Cx} {c a b : Expr} {pos : Pos} {tA : TT}
def tIfT (t ta tb : TT) : TT := fun σ H Q => t σ H fun k H1 => if k = true then ta σ H1 Q else tb σ H1 Q
/-- x if c else y, as a test -/
theorem pt_ifExp {tc ta tb : TT} (hc : PT X c tc) (ha : PT X a ta) (hb : PT X b tb) : PT X (.IfExp c a b pos) (tIfT tc ta tb) := by
  refine ⟨fun pins s σ H Q I h => ?_⟩
  unfold PySem.isTrue
  refine wpAny_bind (thn (hc.run pins s σ H _ I h) fun d s1 hd => ?_)
  obtain ⟨H1, I1, q1⟩ := hd
  cases d with
  | true => exact ha.run pins s1 σ H1 Q I1 q1
  | false => exact hb.run pins s1 σ H1 Q I1 q1
theorem slK (K : PySem.W.Frag) (h : X.K = K := by rfl) : SlR X (rSlL K) := h ▸ sl_list
end
theorem paired_snoc {α β : Type} {R : α → β → Prop} : ∀ {ys : List α} {as : List β} {a : β}, Paired R ys (as ++ [a]) → ∃ ys0 y, ys = ys0 ++ [y] ∧ Paired R ys0 as ∧ R y a
  | _, [], _, h => by
    cases h with
    | cons r t =>
      cases t
      exact ⟨[], _, rfl, .nil, r⟩
  | _, b :: as, _, h => by
    cases h with
    | cons r t =>
      obtain ⟨ys0, y, rfl, q, z⟩ := paired_snoc t
      exact ⟨_ :: ys0, y, rfl, .cons r q, z⟩
theorem cut_last (ys : List V) (y : V) : cutV (ys ++ [y]) none (some (-1)) = ys := by
  unfold cutV
  rw [HT.sIx_none]
  have e : HT.sIx (ys ++ [y]).length (ys ++ [y]).length (some (-1)) = ys.length := by
    unfold HT.sIx
    rw [List.length_append, List.length_singleton]
    simp
    omega
  rw [e]
  simp
/-- which rows the k-th part keeps -/
def pkR (i : Nat) (n m : Int) : Bool := if decide (V.int (0 + (i : Int)) = V.int 0) = true then decide (m ≤ n) else !decide (V.int m = V.int n)
theorem pkR0 (n : Int) (e : Ev) : pickBy (pkR 0 n) e = pickBy (fun m => decide (m ≤ n)) e := pickBy_congr fun m _ => by
  unfold pkR
  rw [if_pos (by simp)]
theorem pkR1 (n : Int) (e : Ev) : pickBy (pkR 1 n) e = pickBy (fun m => decide (m ≠ n)) e := pickBy_congr fun m _ => by
  unfold pkR
  rw [if_neg (by simp)]
  simp
section
variable {P : Program} {w : World} {K : PySem.W.Frag} {mg : Str → Option Value} {base : Heap}
/-- the parts against what is due -/
theorem law_parts {f fI : Addr} {fdI : FuncData} {cI T1 T2 T3 T4 T5 : Addr} {cdv : Value} {A : Around} {outer : List Env} {s : Shared} {H : Hp} {E : XK} {Q : VK} (B : Blt mg) (hr : Room 6 (A.deeper (envOfC "law" (defScope sLaw) s.heap.objs.size f cdv)))
    (DI : DefC K mg "is_evidence" sIsEvidence ["thing"] fI fdI cI) (GI : FnOk P w K mg base CX0 6 fI fdI ["thing"] (spIsEv T1 T2 T3 T4 T5)) (hq : ∀ H', Q (.bl true) H')
    (tE : TS) (hE : PSs (lawX P w K mg base f cdv A outer s H E) ((defBody sLaw).drop 15) tE) :
    ∃ tR, PSs (lawX P w K mg base f cdv A outer s H E) ((defBody sLaw).drop 14) tR ∧ ∀ (H1 : Hp) (e : Ev) (m n : Int) (x0 p fl g x5 ve kept : V) (lp : Addr) (v0 v1 : V) (x6 x9 x10 x14 x15 x16 x17 : Option V),
      EvIn H1 ve p fl g e → EvGood e → Tabs H1 T1 T2 T3 T4 T5 → H1 lp = some (.lst [v0, v1]) → EvAt H1 v0 (pickBy (fun m => decide (m ≤ n)) e) → EvAt H1 v1 (pickBy (fun m => decide (m ≠ n)) e) →
      (∀ (H2 : Hp) (y6 y13 y14 y15 : Option V), Kt H1 H2 → tE { nx := fun _ H' => Q .non H', rt := Q } [some x0, some (.int e.kinds), some p, some fl, some g, some x5, y6, some ve, some kept, x9, x10, some (.int m), some (.int n), y13, y14, y15, x16, x17] H2) →
        tR { nx := fun _ H' => Q .non H', rt := Q } [some x0, some (.int e.kinds), some p, some fl, some g, some x5, x6, some ve, some kept, x9, x10, some (.int m), some (.int n), some (.ref lp), x14, x15, x16, x17] H1 := by
  have nd := scLaw.nd
  have hu := hu_of hr
  have hr6 := hr
  have hu64 : (A.deeper (envOfC "law" (defScope sLaw) s.heap.objs.size f cdv)).units + 64 < cLine := by have := hr.un; omega
  refine ⟨_, (pss_cons (ps_for PassesOwn.never rfl (pi_range1 rfl B.range (pa_cons pe_int pa_nil)) (pg_name (i := 6) nd rfl (Or.inr rfl)) (pss_cons (ps_set (i := 14) nd rfl (Or.inl rfl) (pe_lst pa_nil))
      (pss_cons (ps_for PassesOwn.never rfl (piT K (pe_op op_catA (pv 3) (pe_tup (pa_cons (pv 4) pa_nil)))) (pg_name (i := 15) nd rfl (Or.inl rfl)) (pss_one (ps_expr (pe_bm PySem.F.plainAttrs_list PySem.F.slot_list_append PySem.F.type_list_append mt_append (pv 14) (pa_cons (pe_callTy (tupK K) (by rfl) B.tup b_tuple (pa_cons (pe_lc (own := [("_law_row", 17)]) rfl nd (piT K (pv 15)) (blkOk_by (N := lawN) (sc := defScope sLaw) (by decide +kernel)) (fun _ _ _ _ _ => pg_name (i := 17) nd rfl (Or.inl rfl)) (fun _ _ _ _ _ => pts_one (pt_ifExp (pt_cmpR op_eq (pv 6) pe_int (nomark _)) (pt_cmpR op_le (pe_ix (ixT K) (pv 17) pe_int (fun _ _ => rfl)) (pv 12) (nomark _)) (pt_cmpR op_ne (pe_ix (ixT K) (pv 17) pe_int (fun _ _ => rfl)) (pv 12) (nomark _)))) (fun _ _ _ _ _ => pv 17)) pa_nil)) pa_nil)))))
      (pss_one (ps_if (PW.pt (pw_or (pt_cmpR (op_neD hu64) (pe_ix (ixL K) (pv 13) (pv 6) (fun _ _ => rfl)) (pe_tup (pa_cons (pv 1) (pa_cons (pv 2) (pa_cons (pe_callTy (tupK K) (by rfl) B.tup b_tuple (pa_cons (pe_slice (slK K) (pv 14) po_none (po_some (pe_un un_neg pe_int))) pa_nil)) (pa_cons (pe_ix (ixL K) (pv 14) (pe_un un_neg pe_int) (fun _ _ => rfl)) pa_nil))))) (nomark _)) (pw_or1 (pt_cmpR op_notBl (pe_call GI hr6 (by rfl) DI.g DI.F.kp DI.b .nil pass0 (pa_cons (pe_ix (ixL K) (pv 13) (pv 6) (fun _ _ => rfl)) pa_nil)) pe_bl (nomark _))))) (pss_one (ps_ret pe_bl)) pss_nil)))))
      hE), ?_⟩
  intro H1 e m n x0 p fl g x5 ve kept lp v0 v1 x6 x9 x10 x14 x15 x16 x17 hin good hT hlp hv0 hv1 fin
  have ok := good.ok
  refine ⟨2, rfl, by decide, by decide, ?_⟩
  refine for_range (n := 2) (fun i σ H2 => ∃ (x6 x14 x15 : Option V), σ = [some x0, some (.int e.kinds), some p, some fl, some g, some x5, x6, some ve, some kept, x9, x10, some (.int m), some (.int n), some (.ref lp), x14, x15, x16, x17] ∧ Kt H1 H2) ⟨x6, x14, x15, rfl, Kt.refl⟩ ?_ ?_
  · rintro i σ H2 hi ⟨x6, x14, x15, rfl, kt2⟩
    have part : ∃ v, atI [v0, v1] (0 + (i : Int)) = some v ∧ EvAt H1 v (pickBy (pkR i n) e) := by
      have c : i = 0 ∨ i = 1 := by omega
      rcases c with rfl | rfl
      · exact ⟨v0, rfl, by rw [pkR0]; exact hv0⟩
      · exact ⟨v1, rfl, by rw [pkR1]; exact hv1⟩
    obtain ⟨vp, hvp, hevp⟩ := part
    have hin2 := hin.kp kt2.kp
    obtain ⟨hve, hp, ⟨fw, ⟨af, rfl, hfa⟩, hfq⟩, hg⟩ := id hin2
    obtain ⟨ag, rfl⟩ : ∃ ag, g = .ref ag := by
      obtain ⟨_, ⟨a, e, _⟩, _⟩ := id hg
      exact ⟨a, e⟩
    have hfne : fw ≠ [] := fun z => by
      have h1 := paired_len hfq
      have h2 := good.len
      have h3 := good.p1
      rw [z] at h1
      simp only [List.length_nil] at h1
      omega
    have hfl : fw.length ≤ 8 := by
      have h1 := paired_len hfq
      have h2 := good.len
      have h3 := good.p8
      omega
    -- due = []
    refine ⟨(by show 0 ≤ sizeLine; decide), fun D hD => ?_⟩
    have sD : Same H2 (upd H2 D (.lst [])) := fun c o z => upd_get z hD
    refine ⟨_, rfl, _, rfl, (by show 1 ≤ sizeLine; decide), fun t1 ht1 => ?_⟩
    have s1 : Same _ (upd (upd H2 D (.lst [])) t1 (.tup [.ref ag])) := fun c o z => upd_get z ht1
    refine ⟨af, t1, fw, [.ref ag], rfl, rfl, SqT.of (s1 _ _ (sD _ _ hfa)), SqT.of upd_same, Nat.le_of_lt (small1000 (by show fw.length + 1 ≤ 1000; omega)), fun z => absurd z hfne, fun _ z => absurd z (by simp), fun _ _ t2 ht2 => ?_⟩
    have s2 : Same _ (upd (upd (upd H2 D (.lst [])) t1 (.tup [.ref ag])) t2 (.tup (fw ++ [.ref ag]))) := fun c o z => upd_get z ht2
    have hD4 := s2 _ _ (s1 _ _ (upd_same (H := H2) (a := D) (o := .lst [])))
    have ht4 : (upd (upd (upd H2 D (.lst [])) t1 (.tup [.ref ag])) t2 (.tup (fw ++ [.ref ag]))) t2 = some (.tup (fw ++ [.ref ag])) := upd_same
    have s24 : Same H2 (upd (upd (upd H2 D (.lst [])) t1 (.tup [.ref ag])) t2 (.tup (fw ++ [.ref ag]))) := fun c o z => s2 _ _ (s1 _ _ (sD _ _ z))
    generalize upd (upd (upd H2 D (.lst [])) t1 (.tup [.ref ag])) t2 (.tup (fw ++ [.ref ag])) = H4 at *
    have hall : Paired (FileAt H4) (fw ++ [.ref ag]) (e.files ++ [e.finds]) := paired_app (Paired.mapP hfq fun _ _ z => (Kt.same s24).kp.file z) (.cons ((Kt.same s24).kp.file hg) .nil)
    have ntD : t2 ≠ D := fun z => by
      rw [z, hD4] at ht4
      cases ht4
    refine ⟨t2, rfl, ⟨_, SqT.of ht4⟩, ?_⟩
    refine for_tup (K := K) (xs := fw ++ [.ref ag]) (fun j σ H5 => ∃ x15, σ = [some x0, some (.int e.kinds), some p, some (.ref af), some (.ref ag), some x5, some (.int (0 + (i : Int))), some ve, some kept, x9, x10, some (.int m), some (.int n), some (.ref lp), some (.ref D), x15, x16, x17] ∧
        (∀ b o, b ≠ D → H4 b = some o → H5 b = some o) ∧ ∃ ys, H5 D = some (.lst ys) ∧ Paired (FileAt H5) ys (((e.files ++ [e.finds]).take j).map fun rs => rs.filter fun r => pkR i n (hdI r)))
      ⟨x15, rfl, fun _ _ _ z => z, [], hD4, .nil⟩ (fun j σ H5 _ ⟨_, _, k5, _⟩ => SqT.of (k5 _ _ ntD ht4)) ?_ ?_
    · rintro j v σ H5 hv ⟨x15, rfl, k5, ys, hy, hyq⟩
      obtain ⟨rs, hrs, hfile⟩ := Paired.getL hall hv
      have hj : j < (fw ++ [V.ref ag]).length := (List.getElem?_eq_some_iff.mp hv).1
      have kp5 : Kp H4 H5 := fun b xs z => k5 b _ (fun y => by rw [y, hD4] at z; cases z) z
      obtain ⟨b, rfl⟩ : ∃ b, v = .ref b := by
        obtain ⟨_, ⟨b, e, _⟩, _⟩ := id hfile
        exact ⟨b, e⟩
      have hrl : rs.length ≤ 400 ∧ ∀ r ∈ rs, IsRow r := by
        rcases List.mem_append.mp (List.mem_of_getElem? hrs) with z | z
        · obtain ⟨q, hq⟩ := List.getElem?_of_mem z
          have h1 := good.fl q rs hq
          exact ⟨by omega, fun r hr => (h1.2.1 r hr).row⟩
        · rw [List.mem_singleton.mp z]
          exact ⟨by have := good.gl; omega, fun r hr => (good.gr r hr).row⟩
      refine ⟨_, rfl, .inl ⟨rfl, _, SqL.of hy⟩, ?_⟩
      unfold tCB tCons
      dsimp only
      refine lcR2 (fun r => pkR i n (hdI r)) (fun R h => ⟨_, rfl, h⟩) (kp5.file hfile) (by omega) (fun x => by rfl) (fun c r H6 hr s6 hc => ⟨fun R hR => ?_, fun _ R hR => ⟨_, rfl, hR⟩⟩) fun D3 xs hD3 hxq => ?_
      · obtain ⟨t, et⟩ := hrl.2 r hr
        rw [et] at hc
        refine ⟨_, rfl, rfl, _, rfl, ?_⟩
        unfold pkR at hR
        refine iteB (fun h => ?_) (fun h => ?_)
        · rw [if_pos h] at hR
          exact ⟨_, rfl, c, _, 0, _, rfl, rfl, SqT.of hc, atI_nat (j := 0) rfl, _, rfl, _, _, rfl, rfl, _, rfl, hR⟩
        · rw [if_neg (by rw [h]; exact Bool.false_ne_true)] at hR
          exact ⟨_, rfl, c, _, 0, _, rfl, rfl, SqT.of hc, atI_nat (j := 0) rfl, _, rfl, rfl, _, rfl, hR⟩
      · refine ⟨D3, xs, rfl, .inl ⟨SqL.of upd_same, fun l hl => ?_⟩⟩
        have s7 : Same H5 (upd (upd H5 D3 (.lst xs)) l (.tup xs)) := fun c o z => upd_get (upd_get z hD3) hl
        have hy7 := s7 _ _ hy
        have hl7 : (upd (upd H5 D3 (.lst xs)) l (.tup xs)) l = some (.tup xs) := upd_same
        refine ⟨D, ys, _, rfl, rfl, hy7, ?_, ?_⟩
        · rw [paired_len hyq, List.length_map, List.length_take]
          rw [List.length_append, List.length_singleton] at hj
          exact small1000 (by omega)
        · have k8 : Kp (upd (upd H5 D3 (.lst xs)) l (.tup xs)) (upd (upd (upd H5 D3 (.lst xs)) l (.tup xs)) D (.lst (ys ++ [.ref l]))) := kp_upd hy7 fun zs z => nomatch z
          refine ⟨_, rfl, fun b o hb z => by rw [upd_ne hb]; exact s7 _ _ (k5 _ _ hb z), _, upd_same, ?_⟩
          rw [List.take_add_one, hrs, List.map_append]
          refine paired_app (Paired.mapP hyq fun _ _ z => k8.file ((Kt.same s7).kp.file z)) (.cons ⟨xs, k8.tp ⟨l, rfl, hl7⟩, Paired.mapP hxq fun _ _ z => k8.tp ((Kt.same s7).kp.tp z)⟩ .nil)
    · rintro σ H5 ⟨x15, rfl, k5, ys, hy, hyq⟩
      have kp5 : Kp H4 H5 := fun b xs z => k5 b _ (fun y => by rw [y, hD4] at z; cases z) z
      have s25 : Same H2 H5 := fun b o z => k5 b o (ne_of_none z hD) (s24 _ _ z)
      rw [paired_len hall, List.take_length, List.map_append] at hyq
      obtain ⟨ys0, y, rfl, hq0, hq1⟩ := paired_snoc hyq
      have kt5 : Kt H1 H5 := kt2.trans (Kt.same s25)
      have hlp5 := kt5.keep _ _ hlp fun _ z => nomatch z
      refine ⟨_, rfl, _, rfl, lp, _, _, _, rfl, rfl, SqL.of hlp5, hvp, ?_⟩
      refine ⟨_, rfl, _, rfl, _, rfl, 1, rfl, _, rfl, D, _, rfl, SqL.of hy, fun t3 ht3 => ?_⟩
      rw [show cutV (ys0 ++ [y]) none (some (-1)) = ys0 from cut_last ys0 y]
      have s6 : Same H5 (upd H5 t3 (.lst ys0)) := fun c o z => upd_get z ht3
      refine ⟨t3, ys0, rfl, .inl ⟨SqL.of upd_same, fun t4 ht4 => ?_⟩⟩
      have s7 : Same _ (upd (upd H5 t3 (.lst ys0)) t4 (.tup ys0)) := fun c o z => upd_get z ht4
      refine ⟨_, rfl, 1, rfl, D, _, _, _, rfl, rfl, SqL.of (s7 _ _ (s6 _ _ hy)), atI_last ys0 y, (by show 4 ≤ sizeLine; decide), fun t5 ht5 => ?_⟩
      have s8 : Same _ (upd (upd (upd H5 t3 (.lst ys0)) t4 (.tup ys0)) t5 (.tup [.int e.kinds, p, .ref t4, y])) := fun c o z => upd_get z ht5
      have s58 : Same H5 (upd (upd (upd H5 t3 (.lst ys0)) t4 (.tup ys0)) t5 (.tup [.int e.kinds, p, .ref t4, y])) := fun c o z => s8 _ _ (s7 _ _ (s6 _ _ z))
      have kt8 := kt5.trans (Kt.same s58)
      have k58 := (Kt.same s58).kp
      have gp := pick_good (pkR i n) good
      have fa := ev_facts gp.plain
      have due : EvAt (upd (upd (upd H5 t3 (.lst ys0)) t4 (.tup ys0)) t5 (.tup [.int e.kinds, p, .ref t4, y])) (.ref t5) (pickBy (pkR i n) e) :=
        ⟨p, .ref t4, y, ⟨t5, rfl, upd_same⟩, kt8.kp.file hin.2.1, ⟨ys0, ⟨t4, rfl, s8 _ _ upd_same⟩, Paired.mapP hq0 fun _ _ z => k58.file z⟩, k58.file hq1⟩
      refine ⟨_, _, ev_dp (kt8.kp.ev hevp) gp.plain, ev_dp due gp.plain, fa.shaped, fa.shaped, _, rfl, ?_⟩
      refine iteN (by rw [fa.refl]; rfl) ?_
      refine ⟨_, rfl, _, rfl, lp, _, _, _, rfl, rfl, SqL.of (s58 _ _ hlp5), hvp, vp, pickBy (pkR i n) e, rfl, kt8.kp.ev hevp, gp, hT.kt kt8, fun H9 kt9 => ?_⟩
      refine ⟨true, true, rfl, rfl, _, rfl, ?_⟩
      refine iteF ?_
      exact ⟨_, _, _, rfl, kt8.trans kt9⟩
  · rintro σ H2 ⟨y6, y14, y15, rfl, kt2⟩
    exact fin H2 _ _ _ _ kt2
end
end K1
end
section
set_option Elab.async false
set_option linter.all false
set_option maxRecDepth 100000
set_option maxHeartbeats 2000000
namespace K1
open PySem PyProof.Rows L2
theorem seq_asg {te : TE} {g : TG} {t : TS} {D : Ends} {σ : L2.St} {H : Hp} (h : te σ H fun x H1 => g x σ H1 (t D)) : tSeq (tAsg te g) t D σ H := h
theorem asc_eq : ∀ {l l' : List Int}, l.Pairwise (· < ·) → l'.Pairwise (· < ·) → (∀ x, x ∈ l ↔ x ∈ l') → l = l'
  | [], [], _, _, _ => rfl
  | [], b :: l', _, _, h => absurd ((h b).mpr List.mem_cons_self) (by simp)
  | a :: l, [], _, _, h => absurd ((h a).mp List.mem_cons_self) (by simp)
  | a :: l, b :: l', p, p', h => by
    obtain ⟨p1, p2⟩ := List.pairwise_cons.mp p
    obtain ⟨q1, q2⟩ := List.pairwise_cons.mp p'
    have e : a = b := by
      rcases List.mem_cons.mp ((h a).mp List.mem_cons_self) with z | z
      · exact z
      · rcases List.mem_cons.mp ((h b).mpr List.mem_cons_self) with y | y
        · exact y.symm
        · have := p1 b y
          have := q1 a z
          omega
    subst e
    rw [asc_eq p2 q2 fun x => ?_]
    constructor
    · intro hx
      rcases List.mem_cons.mp ((h x).mp (List.mem_cons_of_mem _ hx)) with z | z
      · have := p1 x hx
        omega
      · exact z
    · intro hx
      rcases List.mem_cons.mp ((h x).mpr (List.mem_cons_of_mem _ hx)) with z | z
      · have := q1 x hx
        omega
      · exact z
/-- the greatest of 0 and rows' numbers -/
theorem max0_of {e : Ev} {acc : List Int} {m : Int} (pos : ∀ x ∈ numsOf e, 1 ≤ x) (ha : ∀ x, x ∈ acc ↔ x ∈ numsOf e) (hm : m ∈ (0 : Int) :: acc) (h : ∀ y ∈ (0 : Int) :: acc, y ≤ m) : IsMax0 m (numsOf e) := by
  have up : ∀ y ∈ numsOf e, y ≤ m := fun y hy => h y (List.mem_cons_of_mem _ ((ha y).mpr hy))
  rcases List.mem_cons.mp hm with rfl | hm
  · left
    refine ⟨List.eq_nil_iff_forall_not_mem.mpr fun y hy => ?_, rfl⟩
    have := up y hy
    have := pos y hy
    omega
  · exact .inr ⟨(ha m).mp hm, up⟩
theorem EvGood.nums {e : Ev} (g : EvGood e) : ∀ x ∈ numsOf e, 1 ≤ x ∧ x ≤ 1000000000 := by
  intro x hx
  unfold numsOf at hx
  rcases List.mem_append.mp hx with hx | hx
  · obtain ⟨r, hr, rfl⟩ := List.mem_map.mp hx
    obtain ⟨rs, h1, h2⟩ := List.mem_flatten.mp hr
    obtain ⟨i, hi⟩ := List.getElem?_of_mem h1
    obtain ⟨n, kd, am, h3, _, _, ⟨d, _, rfl⟩ | ⟨d, ot, b, _, _, _, _, rfl⟩⟩ := (g.fl i rs hi).2.1 r h2
    · exact h3
    · exact h3
  · obtain ⟨r, hr, rfl⟩ := List.mem_map.mp hx
    obtain ⟨n, pt, kd, am, h3, _, _, _, rfl⟩ := g.gr r hr
    exact h3
section
variable {P : Program} {w : World} {K : PySem.W.Frag} {mg : Str → Option Value} {base : Heap}
/-- from the numbers to the parts -/
theorem law_nums {f fA fL fC fU fO : Addr} {fdA fdL fdC fdU fdO : FuncData} {cdv : Value} {A : Around} {outer : List Env} {s : Shared} {H : Hp} {E : XK} {Q : VK} (B : Blt mg) (hr : Room 6 (A.deeper (envOfC "law" (defScope sLaw) s.heap.objs.size f cdv)))
    (DA : DefAt K mg "all_numbers" sAllNumbers ["evidence"] fA fdA) (GA : FnOk P w K mg base CX0 2 fA fdA ["evidence"] spAllNums) (DL : DefAt K mg "last_number" sLastNumber ["evidence"] fL fdL) (GL : FnOk P w K mg base CX0 1 fL fdL ["evidence"] spLast)
    (DC : DefAt K mg "_law_cell" sCell ["_law_script", "_law_k"] fC fdC) (GC : FnOk P w K mg base CX0 1 fC fdC ["_law_script", "_law_k"] (spCell K))
    (DU : DefAt K mg "cut" sCut ["evidence", "number"] fU fdU) (GU : FnOk P w K mg base CX0 3 fU fdU ["evidence", "number"] (spCutBy fun m n => decide (m ≤ n)))
    (DO : DefAt K mg "without" sWithout ["evidence", "number"] fO fdO) (GO : FnOk P w K mg base CX0 3 fO fdO ["evidence", "number"] (spCutBy fun m n => decide (m ≠ n)))
    (tP : TS) (hP : PSs (lawX P w K mg base f cdv A outer s H E) ((defBody sLaw).drop 14) tP) :
    ∃ tR, PSs (lawX P w K mg base f cdv A outer s H E) ((defBody sLaw).drop 6) tR ∧ ∀ (H1 : Hp) (e : Ev) (a : Addr) (ns : List Int) (p fl g x5 ve kept : V) (x6 x9 x10 x11 x12 x13 x14 x15 x16 x17 : Option V),
      EvIn H1 ve p fl g e → EvGood e → SqL K H1 a (ns.map V.int) →
      (∀ (H2 : Hp) (m n : Int) (lp : Addr) (v0 v1 : V) (y9 y10 : Option V), Same H1 H2 → IsMax0 m (numsOf e) → 0 ≤ m → m ≤ 1000000000 → H2 lp = some (.lst [v0, v1]) → EvAt H2 v0 (pickBy (fun m => decide (m ≤ n)) e) → EvAt H2 v1 (pickBy (fun m => decide (m ≠ n)) e) →
        tP { nx := fun _ H' => Q .non H', rt := Q } [some (.ref a), some (.int e.kinds), some p, some fl, some g, some x5, x6, some ve, some kept, y9, y10, some (.int m), some (.int n), some (.ref lp), x14, x15, x16, x17] H2) →
        tR { nx := fun _ H' => Q .non H', rt := Q } [some (.ref a), some (.int e.kinds), some p, some fl, some g, some x5, x6, some ve, some kept, x9, x10, x11, x12, x13, x14, x15, x16, x17] H1 := by
  have nd := scLaw.nd
  have hu := hu_of hr
  have hr1 := hr.mono (show 1 ≤ 6 by decide)
  have hr2 := hr.mono (show 2 ≤ 6 by decide)
  have hr3 := hr.mono (show 3 ≤ 6 by decide)
  have hu64 : (A.deeper (envOfC "law" (defScope sLaw) s.heap.objs.size f cdv)).units + 64 < cLine := by have := hr.un; omega
  refine ⟨_, (pss_cons (ps_set (i := 9) nd rfl (Or.inr rfl) (pe_lc (own := [("_law_row", 17)]) rfl nd (piT K (pv 4)) (blkOk_by (N := lawN) (sc := defScope sLaw) (by decide +kernel)) (fun _ _ _ _ _ => pg_name (i := 17) nd rfl (Or.inl rfl)) (fun _ _ _ _ _ => pts_nil) (fun _ _ _ _ _ => (pe_ix (ixT K) (pv 17) pe_int (fun _ _ => rfl)))))
      (pss_cons (ps_for PassesOwn.never rfl (piT K (pv 3)) (pg_name (i := 10) nd rfl (Or.inl rfl)) (pss_one (ps_set (i := 9) nd rfl (Or.inr rfl) (pe_op op_cat (pv 9) (pe_lc (own := [("_law_row", 17)]) rfl nd (piT K (pv 10)) (blkOk_by (N := lawN) (sc := defScope sLaw) (by decide +kernel)) (fun _ _ _ _ _ => pg_name (i := 17) nd rfl (Or.inl rfl)) (fun _ _ _ _ _ => pts_nil) (fun _ _ _ _ _ => (pe_ix (ixT K) (pv 17) pe_int (fun _ _ => rfl))))))))
      (pss_cons (ps_set (i := 9) nd rfl (Or.inr rfl) (pe_callB cr_sortedI (by rfl) B.sorted b_sorted (pa_cons (pv 9) pa_nil)))
      (pss_cons (ps_set (i := 9) nd rfl (Or.inr rfl) (pe_lc (own := [("_law_k", 6)]) rfl nd (pi_range1 rfl B.range (pa_cons (pe_callB (lenK K) (by rfl) B.len b_len (pa_cons (pv 9) pa_nil)) pa_nil)) (blkOk_by (N := lawN) (sc := defScope sLaw) (by decide +kernel)) (fun _ _ _ _ _ => pg_name (i := 6) nd rfl (Or.inl rfl)) (fun _ _ _ _ _ => (pts_one (PW.pt (pw_or (pt_cmpR op_eq (pv 6) pe_int (nomark _)) (pw_or1 (pt_cmpR op_ne (pe_ix (ixL K) (pv 9) (pe_op op_sub (pv 6) pe_int) (fun _ _ => rfl)) (pe_ix (ixL K) (pv 9) (pv 6) (fun _ _ => rfl)) (nomark _))))))) (fun _ _ _ _ _ => (pe_ix (ixL K) (pv 9) (pv 6) (fun _ _ => rfl)))))
      (pss_cons (ps_set (i := 11) nd rfl (Or.inl rfl) (pe_callB (cr_max rfl) (by rfl) B.max b_max (pa_cons (pe_op op_cat (pe_lst (pa_cons pe_int pa_nil)) (pv 9)) pa_nil)))
      (pss_cons (ps_if (PW.pt (pw_or (pt_cmpR (op_neD hu64) (pe_call GA hr2 (by rfl) DA.g DA.k DA.b .nil pass0 (pa_cons (pv 7) pa_nil)) (pv 9) (nomark _)) (pw_or1 (pt_cmpR op_ne (pe_call GL hr1 (by rfl) DL.g DL.k DL.b .nil pass0 (pa_cons (pv 7) pa_nil)) (pv 11) (nomark _))))) (pss_one (ps_ret pe_bl)) pss_nil)
      (pss_cons (ps_set (i := 12) nd rfl (Or.inr rfl) (pe_op op_mod (pe_call GC hr1 (by rfl) DC.g DC.k DC.b .nil pass0 (pa_cons (pv 0) (pa_cons pe_int pa_nil))) (pe_op op_add (pv 11) pe_int)))
      (pss_cons (ps_set (i := 13) nd rfl (Or.inl rfl) (pe_lst (pa_cons (pe_call GU hr3 (by rfl) DU.g DU.k DU.b .nil pass0 (pa_cons (pv 7) (pa_cons (pv 12) pa_nil))) (pa_cons (pe_call GO hr3 (by rfl) DO.g DO.k DO.b .nil pass0 (pa_cons (pv 7) (pa_cons (pv 12) pa_nil))) pa_nil))))
      hP)))))))), ?_⟩
  intro H1 e a ns p fl g x5 ve kept x6 x9 x10 x11 x12 x13 x14 x15 x16 x17 hin good hS fin
  have ok := good.ok
  have hgl := good.gl
  have hmany := good.many
  obtain ⟨hve, hp, ⟨fw, ⟨af, rfl, hfa⟩, hfq⟩, hg⟩ := id hin
  obtain ⟨ag, rfl⟩ : ∃ ag, g = .ref ag := by
    obtain ⟨_, ⟨a, e, _⟩, _⟩ := id hg
    exact ⟨a, e⟩
  have hfl := paired_len hfq
  -- the numbers of the finds
  refine seq_asg ?_
  refine lcR1 (fun _ => true) (fun r => V.int (hdI r)) (fun R h => ⟨_, rfl, h⟩) hg (by omega) (fun x => by rfl) (fun c r H3 hr sm3 hc => ⟨fun R h => h, fun _ R hR => ?_⟩) fun D hD => ?_
  · obtain ⟨t, et⟩ := ok.finds r hr
    rw [et] at hc
    exact ⟨_, rfl, c, _, 0, _, rfl, rfl, SqT.of hc, atI_nat (j := 0) rfl, hR⟩
  rw [filter_all]
  have s1 : Same H1 (upd H1 D (.lst (e.finds.map fun r => V.int (hdI r)))) := fun c o z => upd_get z hD
  -- and of the files
  refine ⟨_, rfl, af, rfl, ⟨_, SqT.of (s1 _ _ hfa)⟩, ?_⟩
  refine for_tup (K := K) (xs := fw) (fun j σ H3 => ∃ (l : Addr) (y10 : Option V), σ = [some (.ref a), some (.int e.kinds), some p, some (.ref af), some (.ref ag), some x5, x6, some ve, some kept, some (.ref l), y10, x11, x12, x13, x14, x15, x16, x17] ∧ Same H1 H3 ∧ H3 l = some (.lst ((e.finds.map hdI ++ (e.files.take j).flatten.map hdI).map V.int)))
    ⟨D, x10, rfl, s1, by rw [upd_same, List.take_zero]; simp⟩ (fun j σ H3 _ ⟨_, _, _, s3, _⟩ => SqT.of (s3 _ _ hfa)) ?_ ?_
  · rintro j v σ H3 hv ⟨l, y10, rfl, s3, hl⟩
    obtain ⟨rs, hrs, hfile⟩ := Paired.getL hfq hv
    obtain ⟨b, rfl⟩ : ∃ b, v = .ref b := by
      obtain ⟨_, ⟨b, e, _⟩, _⟩ := id hfile
      exact ⟨b, e⟩
    obtain ⟨g1, g2, g3⟩ := good.fl j rs hrs
    unfold gName tOp
    dsimp only
    refine ⟨_, rfl, ?_⟩
    refine lcR1 (fun _ => true) (fun r => V.int (hdI r)) (fun R h => ⟨_, rfl, h⟩) ((Kt.same s3).kp.file hfile) (by omega) (fun x => by rfl) (fun c r H4 hr sm4 hc => ⟨fun R h => h, fun _ R hR => ?_⟩) fun D2 hD2 => ?_
    · obtain ⟨t, et⟩ := (g2 r hr).row
      rw [et] at hc
      exact ⟨_, rfl, c, _, 0, _, rfl, rfl, SqT.of hc, atI_nat (j := 0) rfl, hR⟩
    rw [filter_all]
    have s4 : Same H3 (upd H3 D2 (.lst (rs.map fun r => V.int (hdI r)))) := fun c o z => upd_get z hD2
    have fll := flat_le (i := rs.length) hrs
    rw [List.take_length, List.length_append] at fll
    refine ⟨l, D2, _, _, rfl, rfl, s4 _ _ hl, upd_same, ?_, fun L hL => ?_⟩
    · simp only [List.length_map, List.length_append]
      exact Nat.le_of_lt (small1000 (by omega))
    · refine ⟨L, _, rfl, fun c o z => upd_get (s4 _ _ (s3 _ _ z)) hL, ?_⟩
      rw [upd_same, sum_take hrs]
      simp [List.map_append, List.map_map, Function.comp_def]
  · rintro σ H3 ⟨l, y10, rfl, s3, hl⟩
    rw [hfl, List.take_length] at hl
    have hlen : (e.finds.map hdI ++ e.files.flatten.map hdI).length ≤ 600 := by
      rw [List.length_append, List.length_map, List.length_map]
      omega
    -- sorted
    refine ⟨_, rfl, l, _, rfl, SqL.of hl, fun ys l2 hperm hsort hl2 => ?_⟩
    have hylen : ys.length ≤ 600 := by rw [hperm.length_eq]; exact hlen
    have s4 : Same H3 (upd H3 l2 (.lst (ys.map V.int))) := fun c o z => upd_get z hl2
    have hl2' : (upd H3 l2 (.lst (ys.map V.int))) l2 = some (.lst (ys.map V.int)) := upd_same
    have s14 : Same H1 (upd H3 l2 (.lst (ys.map V.int))) := fun c o z => s4 _ _ (s3 _ _ z)
    generalize upd H3 l2 (.lst (ys.map V.int)) = H4 at *
    -- each once
    refine ⟨_, rfl, l2, _, rfl, .inl (SqL.of hl2'), _, rfl, by omega, by rw [List.length_map]; omega, fun D3 hD3 => ?_⟩
    rw [Int.toNat_natCast, List.length_map]
    refine lc_range (fun i H5 => ∃ acc : List Int, H5 = upd H4 D3 (.lst (acc.map V.int)) ∧ acc.Pairwise (· < ·) ∧ acc.length ≤ i ∧ ∀ x, x ∈ acc ↔ x ∈ ys.take i) ⟨[], rfl, List.Pairwise.nil, Nat.le_refl _, fun x => by simp⟩ ?_ ?_
    · rintro i H5 hi ⟨acc, rfl, hp1, hal, hmem⟩
      refine ⟨by rfl, ?_⟩
      have hl5 := upd_get (u := .lst (acc.map V.int)) hl2' hD3
      have tk : ys.take (i + 1) = ys.take i ++ [ys[i]] := by rw [List.take_add_one, List.getElem?_eq_getElem hi]; rfl
      have le_i : ∀ x ∈ ys.take i, x ≤ ys[i] := by
        intro x hx
        obtain ⟨j, hj, rfl⟩ := List.mem_iff_getElem.mp hx
        rw [List.length_take] at hj
        rw [List.getElem_take]
        exact (List.pairwise_iff_getElem.mp hsort) j i (by omega) hi (by omega)
      -- the item is put in
      have yes : (∀ x ∈ acc, x < ys[i]) → (tOp (rIxL K) (tVar 9) (tVar 6) [some (.ref a), some (.int e.kinds), some p, some (.ref af), some (.ref ag), some x5, some (.int (0 + (i : Int))), some ve, some kept, some (.ref l2), y10, x11, x12, x13, x14, x15, x16, x17] (upd H4 D3 (.lst (acc.map V.int))) fun y H6 => ∃ acc', H6 D3 = some (.lst acc') ∧ acc'.length < sizeLine ∧
          ∃ acc : List Int, upd H6 D3 (.lst (acc' ++ [y])) = upd H4 D3 (.lst (acc.map V.int)) ∧ acc.Pairwise (· < ·) ∧ acc.length ≤ i + 1 ∧ ∀ x, x ∈ acc ↔ x ∈ ys.take (i + 1)) := by
        intro lt
        refine ⟨_, rfl, _, rfl, l2, _, _, _, rfl, rfl, SqL.of hl5, (by rw [Int.zero_add]; exact int_at hi), _, upd_same, ?_, acc ++ [ys[i]], ?_, ?_, ?_, fun x => ?_⟩
        · rw [List.length_map]
          exact small1000 (by omega)
        · rw [upd_upd, List.map_append]
          rfl
        · rw [List.pairwise_append]
          exact ⟨hp1, by simp, fun x hx y hy => by rw [List.mem_singleton.mp hy]; exact lt x hx⟩
        · rw [List.length_append, List.length_singleton]
          omega
        · rw [tk, List.mem_append, List.mem_append, hmem]
      by_cases h0 : i = 0
      · subst h0
        refine ⟨_, rfl, rfl, _, rfl, ?_⟩
        refine iteY (by simp) ?_
        refine iteT ?_
        refine yes fun x hx => absurd ((hmem x).mp hx) (by simp)
      · refine ⟨_, rfl, rfl, _, rfl, ?_⟩
        refine iteN (by simp; omega) ?_
        have hi1 : i - 1 < ys.length := by omega
        refine ⟨_, rfl, _, rfl, _, _, rfl, rfl, l2, _, _, _, rfl, rfl, SqL.of hl5, (by rw [show (0 : Int) + (i : Int) - 1 = ((i - 1 : Nat) : Int) by omega]; exact int_at hi1), ?_⟩
        refine ⟨_, rfl, _, rfl, l2, _, _, _, rfl, rfl, SqL.of hl5, (by rw [Int.zero_add]; exact int_at hi), rfl, _, rfl, ?_⟩
        have tk1 : ys.take i = ys.take (i - 1) ++ [ys[i - 1]] := by
          have q := List.take_add_one (l := ys) (i := i - 1)
          rw [show i - 1 + 1 = i by omega, List.getElem?_eq_getElem hi1] at q
          exact q
        by_cases heq : ys[i - 1] = ys[i]
        · refine iteN (by rw [heq]; simp) ?_
          refine ⟨acc, rfl, hp1, by omega, fun x => ?_⟩
          rw [tk, List.mem_append, List.mem_singleton, hmem]
          constructor
          · exact Or.inl
          · rintro (z | rfl)
            · exact z
            · rw [tk1, ← heq]
              exact List.mem_append_right _ (List.mem_singleton.mpr rfl)
        · refine iteY (by simp [heq]) ?_
          refine yes fun x hx => ?_
          have hx' := (hmem x).mp hx
          have h1 : x ≤ ys[i - 1] := by
            rw [tk1] at hx'
            rcases List.mem_append.mp hx' with z | z
            · obtain ⟨j, hj, rfl⟩ := List.mem_iff_getElem.mp z
              rw [List.length_take] at hj
              rw [List.getElem_take]
              exact (List.pairwise_iff_getElem.mp hsort) j (i - 1) (by omega) hi1 (by omega)
            · rw [List.mem_singleton.mp z]
              exact Int.le_refl _
          have h2 : ys[i - 1] ≤ ys[i] := (List.pairwise_iff_getElem.mp hsort) (i - 1) i hi1 hi (by omega)
          omega
    · rintro H5 ⟨acc, rfl, hp1, hal, hmem⟩
      rw [List.take_length] at hmem
      have hacc : ∀ x, x ∈ acc ↔ x ∈ numsOf e := fun x => by
        rw [hmem, hperm.mem_iff]
        unfold numsOf
        rw [List.mem_append, List.mem_append]
        exact Or.comm
      have s5 : Same H4 (upd H4 D3 (.lst (acc.map V.int))) := fun c o z => upd_get z hD3
      have hd5 : (upd H4 D3 (.lst (acc.map V.int))) D3 = some (.lst (acc.map V.int)) := upd_same
      have s15 : Same H1 (upd H4 D3 (.lst (acc.map V.int))) := fun c o z => s5 _ _ (s14 _ _ z)
      generalize upd H4 D3 (.lst (acc.map V.int)) = H5 at *
      -- the last
      refine ⟨(by show 1 ≤ sizeLine; decide), fun z1 hz1 => ⟨_, rfl, z1, D3, _, _, rfl, rfl, upd_same, upd_get hd5 hz1, ?_, fun z2 hz2 => ⟨z2, 0 :: acc, rfl, SqL.of upd_same, by simp, fun m hm hmx => ?_⟩⟩⟩
      · rw [List.length_map]
        exact Nat.le_of_lt (small1000 (by show 1 + acc.length ≤ 1000; omega))
      have nums := good.nums
      have hmax : IsMax0 m (numsOf e) := max0_of (fun x hx => (nums x hx).1) hacc hm hmx
      have hm0 : 0 ≤ m := hmx 0 List.mem_cons_self
      have hm9 : m ≤ 1000000000 := by
        rcases hmax with ⟨_, rfl⟩ | ⟨h1, _⟩
        · decide
        · exact (nums m h1).2
      have s6 : Same H5 (upd (upd H5 z1 (.lst [.int 0])) z2 (.lst ([.int 0] ++ acc.map V.int))) := fun c o z => upd_get (upd_get z hz1) hz2
      have s16 : Same H1 (upd (upd H5 z1 (.lst [.int 0])) z2 (.lst ([.int 0] ++ acc.map V.int))) := fun c o z => s6 _ _ (s15 _ _ z)
      have hd6 := s6 _ _ hd5
      generalize upd (upd H5 z1 (.lst [.int 0])) z2 (.lst ([.int 0] ++ acc.map V.int)) = H6 at *
      -- what the program tells
      refine ⟨_, rfl, ve, e, rfl, (hin.kp (Kt.same s16).kp).at_, ok, fun H7 l3 ms s7 hl3 hl3' hasc => ?_⟩
      have em : ms = acc := asc_eq hasc.1 hp1 fun x => (hasc.2 x).trans (hacc x).symm
      subst em
      have hd7 := s7 _ _ hd6
      have s17 : Same H1 H7 := fun c o z => s7 _ _ (s16 _ _ z)
      have fi := ints_facts ms
      refine ⟨_, rfl, _, _, .lst (SqL.of hl3') (ints_all ms), .lst (SqL.of hd7) (ints_all ms), fi.1, fi.1, _, rfl, ?_⟩
      refine iteN (by rw [fi.2]; rfl) ?_
      refine ⟨_, rfl, ve, e, rfl, (hin.kp (Kt.same s17).kp).at_, ok, fun H8 m2 s8 hm2 => ?_⟩
      obtain rfl := hm2.uniq hmax
      refine ⟨_, rfl, rfl, _, rfl, ?_⟩
      refine iteN (by simp) ?_
      have s18 : Same H1 H8 := fun c o z => s8 _ _ (s17 _ _ z)
      -- the number
      refine ⟨_, rfl, a, ns, 3, rfl, s18.seq hS, fun z => ⟨_, rfl, _, _, rfl, rfl, _, _, rfl, rfl, (by show 0 < m2 + 3; omega), ?_⟩⟩
      -- the parts
      refine ⟨_, rfl, _, rfl, ve, _, e, rfl, (hin.kp (Kt.same s18).kp).at_, ok, ?_, fun H9 v0 s9 h0 => ?_⟩
      · have := good.len
        have := good.p8
        omega
      have s19 : Same H1 H9 := fun c o z => s9 _ _ (s18 _ _ z)
      refine ⟨_, rfl, _, rfl, ve, _, e, rfl, (hin.kp (Kt.same s19).kp).at_, ok, ?_, fun H10 v1 s10 h1 => ?_⟩
      · have := good.len
        have := good.p8
        omega
      refine ⟨(by show 2 ≤ sizeLine; decide), fun lp hlp => ?_⟩
      have s11 : Same H10 (upd H10 lp (.lst [v0, v1])) := fun c o z => upd_get z hlp
      exact fin _ m2 _ lp v0 v1 _ _ (fun c o z => s11 _ _ (s10 _ _ (s19 _ _ z))) hmax hm0 hm9 upd_same ((Kt.same s11).kp.ev ((Kt.same s10).kp.ev h0)) ((Kt.same s11).kp.ev h1)
end
end K1
end
section
set_option Elab.async false
set_option linter.all false
set_option maxRecDepth 100000
set_option maxHeartbeats 2000000
namespace K1
open PySem PyProof.Rows L2
def withFinds (e : Ev) (more : List (List V)) : Ev := { e with finds := e.finds ++ more }
theorem good_ext {e : Ev} (g : EvGood e) (small : ∀ x ∈ numsOf e, x ≤ 100) {more : List (List V)} (hm : ∀ r ∈ more, okFind e.kinds e.parties.length r ∧ 100 < hdI r) (ha : Asc more) (hl : e.finds.length + more.length ≤ 200) : EvGood (withFinds e more) := by
  have inF : ∀ r ∈ e.finds, hdI r ≤ 100 := fun r hr => small _ (List.mem_append_right _ (List.mem_map.mpr ⟨r, hr, rfl⟩))
  refine ⟨g.k1, g.k3, g.p1, g.p8, g.par, g.len, g.fl, by show (e.finds ++ more).length ≤ 200; rw [List.length_append]; exact hl, fun r hr => ?_, ?_, fun r hr hx => ?_, g.many⟩
  · rcases List.mem_append.mp (show r ∈ e.finds ++ more from hr) with z | z
    · exact g.gr r z
    · exact (hm r z).1
  · show Asc (e.finds ++ more)
    rw [asc_pair, List.pairwise_append]
    refine ⟨asc_pair.mp g.ga, asc_pair.mp ha, fun x hx y hy => ?_⟩
    have := inF x hx
    have := (hm y hy).2
    omega
  · rcases List.mem_append.mp (show r ∈ e.finds ++ more from hr) with z | z
    · exact g.apart r z hx
    · have := (hm r z).2
      have := small _ (List.mem_append_left _ hx)
      omega
def row900 (i : Nat) : List V := [.int (900 + (0 + (i : Int))), .int 0, .int 0, .int 5]
theorem rows900_asc (n : Nat) : Asc ((List.range n).map row900) := by
  intro i r r' h1 h2
  rw [List.getElem?_map] at h1 h2
  have e1 : (List.range n)[i]? = some i := by
    cases z : (List.range n)[i]? with
    | none => rw [z] at h1; cases h1
    | some j =>
      obtain ⟨hj, e⟩ := List.getElem?_eq_some_iff.mp z
      rw [List.getElem_range] at e
      rw [e]
  have e2 : (List.range n)[i + 1]? = some (i + 1) := by
    cases z : (List.range n)[i + 1]? with
    | none => rw [z] at h2; cases h2
    | some j =>
      obtain ⟨hj, e⟩ := List.getElem?_eq_some_iff.mp z
      rw [List.getElem_range] at e
      rw [e]
  rw [e1] at h1
  rw [e2] at h2
  cases h1
  cases h2
  show (900 + (0 + (i : Int)) : Int) < 900 + (0 + ((i + 1 : Nat) : Int))
  omega
theorem cat_files {K : PySem.W.Frag} {H : Hp} {ag bg : Addr} {gs more : List (List V)} {Z : VK} (h1 : FileAt H (.ref ag) gs) (h2 : FileAt H (.ref bg) more) (hz : gs.length + more.length ≤ 1000) (k : ∀ H' b, Same H H' → FileAt H' (.ref b) (gs ++ more) → Z (.ref b) H') :
    rCatA K (.ref ag) (.ref bg) H Z := by
  obtain ⟨ws, ⟨a', e1, ha⟩, hq⟩ := h1
  cases e1
  obtain ⟨us, ⟨b', e2, hb⟩, hr⟩ := h2
  cases e2
  have l1 := paired_len hq
  have l2 := paired_len hr
  refine ⟨ag, bg, ws, us, rfl, rfl, SqT.of ha, SqT.of hb, Nat.le_of_lt (small1000 (by omega)), fun z => ?_, fun _ z => ?_, fun _ _ p hp => ?_⟩
  · subst z
    cases hq
    exact k H bg (fun _ _ y => y) ⟨us, ⟨bg, rfl, hb⟩, hr⟩
  · subst z
    cases hr
    rw [List.append_nil] at k
    exact k H ag (fun _ _ y => y) ⟨ws, ⟨ag, rfl, ha⟩, hq⟩
  · have s : Same H (upd H p (.tup (ws ++ us))) := fun c o y => upd_get y hp
    exact k _ p s ⟨ws ++ us, ⟨p, rfl, upd_same⟩, paired_app (Paired.mapP hq fun _ _ y => (Kt.same s).kp.tp y) (Paired.mapP hr fun _ _ y => (Kt.same s).kp.tp y)⟩
section
variable {P : Program} {w : World} {K : PySem.W.Frag} {mg : Str → Option Value} {base : Heap}
/-- the evidence made, its text taken -/
theorem law_start {f fC fW fV : Addr} {fdC fdW fdV : FuncData} {T1 T2 T3 T4 T5 : Addr} {cdv : Value} {A : Around} {outer : List Env} {s : Shared} {H : Hp} {E : XK} {Q : VK} (B : Blt mg) (hr : Room 6 (A.deeper (envOfC "law" (defScope sLaw) s.heap.objs.size f cdv))) (hgu : A.guards = some [])
    (DC : DefAt K mg "_law_cell" sCell ["_law_script", "_law_k"] fC fdC) (GC : FnOk P w K mg base CX0 1 fC fdC ["_law_script", "_law_k"] (spCell K))
    (DW : DefAt K mg "_law_world" sWorld ["_law_script", "_law_start", "_law_many", "_law_most", "_law_lying"] fW fdW) (GW : FnOk P w K mg base CX0 4 fW fdW ["_law_script", "_law_start", "_law_many", "_law_most", "_law_lying"] (spWorld K))
    (DV : DefAt K mg "_law_evidence" sEvidence ["_law_world_here"] fV fdV) (GV : FnOk P w K mg base CX0 1 fV fdV ["_law_world_here"] spEvid)
    (tN : TS) (hN : PSs (lawX P w K mg base f cdv A outer s H E) ((defBody sLaw).drop 6) tN)
    (fin : ∀ (H2 : Hp) (e : Ev) (a : Addr) (ns : List Int) (p fl g x5 ve : V), EvIn H2 ve p fl g e → EvGood e → SqL K H2 a (ns.map V.int) → Tabs H2 T1 T2 T3 T4 T5 →
      tN { nx := fun _ H' => Q .non H', rt := Q } [some (.ref a), some (.int e.kinds), some p, some fl, some g, some x5, none, some ve, some (.str (evD e).shown), none, none, none, none, none, none, none, none, none] H2)
    {a : Addr} {ns : List Int} (hS : SqL K H a (ns.map V.int)) (hT : Tabs H T1 T2 T3 T4 T5) :
    ∃ tR, PSs (lawX P w K mg base f cdv A outer s H E) (defBody sLaw) tR ∧ tR { nx := fun _ H' => Q .non H', rt := Q } (L2.start lawN [.ref a]) H := by
  have nd := scLaw.nd
  have hu := hu_of hr
  have hr1 := hr.mono (show 1 ≤ 6 by decide)
  have hr4 := hr.mono (show 4 ≤ 6 by decide)
  have hu8 : (A.deeper (envOfC "law" (defScope sLaw) s.heap.objs.size f cdv)).units + 80 < cLine := by have := hr.un; omega
  have hgu : (lawX P w K mg base f cdv A outer s H E).A.guards = some [] := hgu
  have mid : ∃ tM, PSs (lawX P w K mg base f cdv A outer s H E) ((defBody sLaw).drop 4) tM ∧ ∀ (H2 : Hp) (e : Ev) (p fl g x5 : V), FileAt H2 p e.parties → FilesAt H2 fl e.files → FileAt H2 g e.finds → EvGood e → Same H H2 →
      tM { nx := fun _ H' => Q .non H', rt := Q } [some (.ref a), some (.int e.kinds), some p, some fl, some g, some x5, none, none, none, none, none, none, none, none, none, none, none, none] H2 := by
    refine ⟨_, (pss_cons (ps_set (i := 7) nd rfl (Or.inl rfl) (pe_tup (pa_cons (pv 1) (pa_cons (pv 2) (pa_cons (pv 3) (pa_cons (pv 4) pa_nil))))))
      (pss_cons (ps_set (i := 8) nd rfl (Or.inl rfl) (pe_callB (cr_repr hgu hu8) (by rfl) B.repr b_repr (pa_cons (pv 7) pa_nil)))
      hN)), ?_⟩
    intro H2 e p fl g x5 hp hf hg good s2
    refine ⟨_, rfl, _, rfl, _, rfl, _, rfl, (by show 4 ≤ sizeLine; decide), fun t ht => ?_⟩
    have s3 : Same H2 (upd H2 t (.tup [.int e.kinds, p, fl, g])) := fun c o z => upd_get z ht
    have s13 : Same H (upd H2 t (.tup [.int e.kinds, p, fl, g])) := fun c o z => s3 _ _ (s2 _ _ z)
    have k3 := (Kt.same s3).kp
    have hin : EvIn (upd H2 t (.tup [.int e.kinds, p, fl, g])) (.ref t) p fl g e := ⟨⟨t, rfl, upd_same⟩, k3.file hp, k3.files hf, k3.file hg⟩
    have fa := ev_facts good.plain
    refine ⟨_, rfl, t, evD e, rfl, ev_dp hin.at_ good.plain, fa.shows, fa.nodict, fa.depth, fa.short, ?_⟩
    exact fin _ e a ns p fl g x5 (.ref t) hin good (s13.seq hS) (hT.kt (Kt.same s13))
  obtain ⟨tM, hM, mid⟩ := mid
  refine ⟨_, (pss_cons (ps_asg (pe_call GV hr1 (by rfl) DV.g DV.k DV.b .nil pass0 (pa_cons (pe_call GW hr4 (by rfl) DW.g DW.k DW.b .nil pass0 (pa_cons (pv 0) (pa_cons pe_int (pa_cons (pe_op op_mod (pe_call GC hr1 (by rfl) DC.g DC.k DC.b .nil pass0 (pa_cons (pv 0) (pa_cons pe_int pa_nil))) pe_int) (pa_cons pe_int (pa_cons pe_int pa_nil)))))) pa_nil)) (pgT K 4 rfl (pgs_cons (pg_name (i := 1) nd rfl (Or.inl rfl)) (pgs_cons (pg_name (i := 2) nd rfl (Or.inl rfl)) (pgs_cons (pg_name (i := 3) nd rfl (Or.inl rfl)) (pgs_cons (pg_name (i := 4) nd rfl (Or.inl rfl)) pgs_nil))))))
      (pss_cons (ps_set (i := 5) nd rfl (Or.inl rfl) (pe_op op_mod (pe_call GC hr1 (by rfl) DC.g DC.k DC.b .nil pass0 (pa_cons (pv 0) (pa_cons pe_int pa_nil))) pe_int))
      (pss_cons (ps_if (pt_cmpR op_eq (pv 5) pe_int (nomark _)) (pss_one (ps_set (i := 4) nd rfl (Or.inl rfl) (pe_op op_catA (pv 4) (pe_callTy (tupK K) (by rfl) B.tup b_tuple (pa_cons (pe_lc (own := [("_law_k", 6)]) rfl nd (pi_range1 rfl B.range (pa_cons (pe_op op_sub (pe_op op_add pe_int (pe_op op_mod (pe_call GC hr1 (by rfl) DC.g DC.k DC.b .nil pass0 (pa_cons (pv 0) (pa_cons pe_int pa_nil))) pe_int)) (pe_callB (lenK K) (by rfl) B.len b_len (pa_cons (pv 4) pa_nil))) pa_nil)) (blkOk_by (N := lawN) (sc := defScope sLaw) (by decide +kernel)) (fun _ _ _ _ _ => pg_name (i := 6) nd rfl (Or.inl rfl)) (fun _ _ _ _ _ => pts_nil) (fun _ _ _ _ _ => (pe_tup (pa_cons (pe_op op_add pe_int (pv 6)) (pa_cons pe_int (pa_cons pe_int (pa_cons pe_int pa_nil))))))) pa_nil))))) pss_nil)
      (pss_cons (ps_if (pt_cmpR op_eq (pv 5) pe_int (nomark _)) (pss_one (ps_set (i := 4) nd rfl (Or.inl rfl) (pe_op op_catA (pv 4) (pe_tup (pa_cons (pe_tup (pa_cons (pe_op op_sub (pe_op op_pow pe_int pe_int) (pe_op op_mod (pe_call GC hr1 (by rfl) DC.g DC.k DC.b .nil pass0 (pa_cons (pv 0) (pa_cons pe_int pa_nil))) pe_int)) (pa_cons pe_int (pa_cons pe_int (pa_cons pe_int pa_nil))))) pa_nil))))) pss_nil)
      hM)))), ?_⟩
  refine ⟨_, rfl, _, rfl, a, ns, 0, rfl, hS, fun z0 => ⟨_, _, rfl, rfl, (by show (0 : Int) < 25; decide), ?_⟩⟩
  obtain ⟨c, hc, hcl⟩ := mod_nat (z := z0) (show (0 : Int) < 25 by decide)
  dsimp only
  rw [hc]
  refine ⟨a, ns, c, rfl, hS, by omega, fun H1 W x m n Bd s1 hw ok hl => ?_⟩
  have p5 := ok.p5
  have lf := ok.lf
  have mG := ok.manyG
  have kk1 := ok.k1
  have pp1 := ok.p1
  refine ⟨W, x, m, n, rfl, hw, by omega, by omega, fun H2 v s2 hev => ?_⟩
  have s12 : Same H H2 := fun c o z => s2 _ _ (s1 _ _ z)
  obtain ⟨p, fl, g, ⟨av, rfl, hav⟩, hp, hf, hg⟩ := hev
  have good := ok.good (by omega)
  have small : ∀ y ∈ numsOf (evOf x), y ≤ 100 := by
    intro y hy
    rcases List.mem_append.mp (show y ∈ x.fs.flatten.map hdI ++ x.gs.map hdI from hy) with hy | hy
    · obtain ⟨r, hr, rfl⟩ := List.mem_map.mp hy
      obtain ⟨rs, h1, h2⟩ := List.mem_flatten.mp hr
      obtain ⟨j, hj⟩ := List.getElem?_of_mem h1
      have := ((ok.fl j rs hj).1 r h2).2
      omega
    · obtain ⟨r, hr, rfl⟩ := List.mem_map.mp hy
      have := (ok.gr r hr).2
      omega
  obtain ⟨gw, ⟨ag, rfl, hga⟩, hgq⟩ := id hg
  have hgl := paired_len hgq
  have hgl' : gw.length = x.gs.length := hgl
  refine ⟨_, _, rfl, SqT.of hav, rfl, _, _, rfl, _, _, rfl, _, _, rfl, _, _, rfl, rfl, ?_⟩
  -- the kind of the trial
  refine ⟨_, rfl, a, ns, 1, rfl, s12.seq hS, fun z1 => ⟨_, _, rfl, rfl, (by show (0 : Int) < 5; decide), ?_⟩⟩
  refine ⟨_, rfl, rfl, _, rfl, ?_⟩
  by_cases c0 : z1 % 5 = 0
  · refine iteY (by show decide (V.int (z1 % 5) = V.int 0) = true; rw [c0]; rfl) ?_
    refine ⟨_, rfl, _, rfl, a, ns, 2, rfl, s12.seq hS, fun z2 => ⟨_, _, rfl, rfl, (by show (0 : Int) < 2; decide), _, _, rfl, rfl, _, rfl, _, _, rfl, .inr (SqT.of hga), _, _, rfl, rfl, ?_⟩⟩
    have e0 : 0 ≤ z2 % 2 := Int.emod_nonneg _ (by decide)
    have e1 : z2 % 2 < 2 := Int.emod_lt_of_pos _ (by decide)
    refine ⟨_, rfl, by omega, by omega, fun D hD => ?_⟩
    obtain ⟨nn, hnn⟩ : ∃ nn : Nat, 199 + z2 % 2 - (gw.length : Int) = nn := ⟨(199 + z2 % 2 - (gw.length : Int)).toNat, by omega⟩
    dsimp only
    rw [hnn, Int.toNat_natCast]
    refine lc_range (fun i H3 => Same H2 H3 ∧ ∃ ys, H3 D = some (.lst ys) ∧ Paired (TpV H3) ys ((List.range i).map row900)) ⟨fun c o z => upd_get z hD, [], upd_same, .nil⟩ ?_ ?_
    · rintro i H3 hi ⟨s3, ys, hy, hq⟩
      refine ⟨by rfl, ?_⟩
      unfold tYes
      refine iteT ?_
      refine ⟨_, rfl, _, _, rfl, rfl, (by show 4 ≤ sizeLine; decide), fun t ht => ?_⟩
      have s4 : Same H3 (upd H3 t (.tup (row900 i))) := fun c o z => upd_get z ht
      have ht4 : (upd H3 t (.tup (row900 i))) t = some (.tup (row900 i)) := upd_same
      refine ⟨ys, s4 _ _ hy, ?_, ?_⟩
      · rw [paired_len hq, List.length_map, List.length_range]
        exact small1000 (by omega)
      · have k5 : Kp (upd H3 t (.tup (row900 i))) (upd (upd H3 t (.tup (row900 i))) D (.lst (ys ++ [.ref t]))) := kp_upd (s4 _ _ hy) fun zs z => nomatch z
        refine ⟨fun b o z => ?_, ys ++ [.ref t], upd_same, ?_⟩
        · rw [upd_ne (ne_of_none z hD)]
          exact s4 _ _ (s3 _ _ z)
        · rw [List.range_succ, List.map_append]
          exact paired_app (Paired.mapP hq fun _ _ z => k5.tp ((Kt.same s4).kp.tp z)) (.cons (k5.tp ⟨t, rfl, ht4⟩) .nil)
    · rintro H3 ⟨s3, ys, hy, hq⟩
      refine ⟨D, ys, rfl, .inl ⟨SqL.of hy, fun t ht => ?_⟩⟩
      have s4 : Same H3 (upd H3 t (.tup ys)) := fun c o z => upd_get z ht
      have s24 : Same H2 (upd H3 t (.tup ys)) := fun c o z => s4 _ _ (s3 _ _ z)
      have more : FileAt (upd H3 t (.tup ys)) (.ref t) ((List.range nn).map row900) := ⟨ys, ⟨t, rfl, upd_same⟩, Paired.mapP hq fun _ _ z => (Kt.same s4).kp.tp z⟩
      refine cat_files ((Kt.same s24).kp.file hg) more (by rw [List.length_map, List.length_range]; show x.gs.length + nn ≤ 1000; omega) fun H5 b s5 hfile => ?_
      have k25 : Kp H2 H5 := (Kt.same (fun c o z => s5 _ _ (s24 _ _ z) : Same H2 H5)).kp
      refine ⟨_, rfl, rfl, _, rfl, ?_⟩
      refine iteN (by show decide (V.int (z1 % 5) = V.int 1) = false; rw [c0]; rfl) ?_
      refine mid H5 (withFinds (evOf x) ((List.range nn).map row900)) p fl (.ref b) _ (k25.file hp) (k25.files hf) hfile (good_ext good small (fun r hr => ?_) (rows900_asc nn) ?_) fun c o z => s5 _ _ (s24 _ _ (s12 _ _ z))
      · obtain ⟨i, hi, rfl⟩ := List.mem_map.mp hr
        have hi' := List.mem_range.mp hi
        refine ⟨⟨900 + (0 + (i : Int)), 0, 0, 5, by omega, ?_, ?_, by decide, rfl⟩, ?_⟩
        · show (0 : Int) ≤ 0 ∧ (0 : Int) ≤ x.ps.length - 1
          omega
        · show (0 : Int) ≤ 0 ∧ (0 : Int) ≤ x.k - 1
          omega
        · show (100 : Int) < 900 + (0 + (i : Int))
          omega
      · rw [List.length_map, List.length_range]
        show x.gs.length + nn ≤ 200
        omega
  · refine iteN (by simp [c0]) ?_
    refine ⟨_, rfl, rfl, _, rfl, ?_⟩
    by_cases c1 : z1 % 5 = 1
    · refine iteY (by show decide (V.int (z1 % 5) = V.int 1) = true; rw [c1]; rfl) ?_
      refine ⟨_, rfl, _, _, rfl, rfl, ⟨by decide, by decide, by decide⟩, _, rfl, a, ns, 2, rfl, s12.seq hS, fun z2 => ⟨_, _, rfl, rfl, (by show (0 : Int) < 2; decide), _, _, rfl, rfl, (by show 4 ≤ sizeLine; decide), fun t1 ht1 => ⟨(by show 1 ≤ sizeLine; decide), fun t2 ht2 => ?_⟩⟩⟩
      have e0 : 0 ≤ z2 % 2 := Int.emod_nonneg _ (by decide)
      have e1 : z2 % 2 < 2 := Int.emod_lt_of_pos _ (by decide)
      have s3 : Same H2 (upd H2 t1 (.tup [.int ((10 : Int) ^ (9 : Int).toNat - z2 % 2), .int 0, .int 0, .int 5])) := fun c o z => upd_get z ht1
      have s4 : Same _ (upd (upd H2 t1 (.tup [.int ((10 : Int) ^ (9 : Int).toNat - z2 % 2), .int 0, .int 0, .int 5])) t2 (.tup [.ref t1])) := fun c o z => upd_get z ht2
      have s24 : Same H2 (upd (upd H2 t1 (.tup [.int ((10 : Int) ^ (9 : Int).toNat - z2 % 2), .int 0, .int 0, .int 5])) t2 (.tup [.ref t1])) := fun c o z => s4 _ _ (s3 _ _ z)
      have more : FileAt (upd (upd H2 t1 (.tup [.int ((10 : Int) ^ (9 : Int).toNat - z2 % 2), .int 0, .int 0, .int 5])) t2 (.tup [.ref t1])) (.ref t2) [[.int ((10 : Int) ^ (9 : Int).toNat - z2 % 2), .int 0, .int 0, .int 5]] := ⟨[.ref t1], ⟨t2, rfl, upd_same⟩, .cons ⟨t1, rfl, s4 _ _ upd_same⟩ .nil⟩
      refine cat_files ((Kt.same s24).kp.file hg) more (by show x.gs.length + 1 ≤ 1000; omega) fun H5 b s5 hfile => ?_
      have k25 : Kp H2 H5 := (Kt.same (fun c o z => s5 _ _ (s24 _ _ z) : Same H2 H5)).kp
      have e9 : (10 : Int) ^ (9 : Int).toNat = 1000000000 := by decide
      rw [e9] at hfile
      refine mid H5 (withFinds (evOf x) [[.int (1000000000 - z2 % 2), .int 0, .int 0, .int 5]]) p fl (.ref b) _ (k25.file hp) (k25.files hf) hfile (good_ext good small (fun r hr => ?_) (fun i r r' h1 h2 => ?_) ?_) fun c o z => s5 _ _ (s24 _ _ (s12 _ _ z))
      · rw [List.mem_singleton.mp hr]
        refine ⟨⟨1000000000 - z2 % 2, 0, 0, 5, by omega, ?_, ?_, by decide, rfl⟩, ?_⟩
        · show (0 : Int) ≤ 0 ∧ (0 : Int) ≤ x.ps.length - 1
          omega
        · show (0 : Int) ≤ 0 ∧ (0 : Int) ≤ x.k - 1
          omega
        · show (100 : Int) < 1000000000 - z2 % 2
          omega
      · rw [List.getElem?_cons_succ, List.getElem?_nil] at h2
        cases h2
      · show x.gs.length + 1 ≤ 200
        omega
    · refine iteN (by simp [c1]) ?_
      exact mid H2 (evOf x) p fl (.ref ag) _ hp hf hg good s12
end
end K1
end
section
set_option Elab.async false
set_option linter.all false
set_option maxRecDepth 100000
set_option maxHeartbeats 2000000
namespace K1
open PySem PyProof.Rows L2
/-! the end: the law's run at the caller's place alone (nothing under way there, which repr asks) -/
/-- a def's run at one place -/
structure FnHere (P : Program) (w : World) (K : PySem.W.Frag) (mg : Str → Option Value) (base : Heap) (CX : CXT) (A : Around) (k : Nat) (f : Addr) (fd : FuncData) (ps : List Str) (sp : Sp) : Prop where
  run : ∀ (outer : List Env) (s : Shared) (H : Hp) (args : Args) (us : List Value) (vs : List V) (Q : VK) (E : XK), Room k A → Env0 P w K mg base A outer s H → BindsTo s fd args (ps.zip us) → Vals vs us → sp vs H Q E →
    codeAny (model P w) A (.call (.ref f) args) (CR CX outer P w H s Q E) s
theorem fn_here {CX : CXT} {P : Program} {w : World} {K : PySem.W.Frag} {mg : Str → Option Value} {base : Heap} {A : Around} {k : Nat} {f : Addr} {name qual : Str} {params : Arguments} {body : List Stmt} {scope : Scope} {dV kV doc pm cdv ct oc : Value} {an od : Option Addr}
    {osl : Array (Option Value)} {N ps : List Str} {sp : Sp} (look : K.lookup f = some ⟨oc, od, .func (PySem.W.fnOf name qual params body scope dV kV doc pm an cdv ct), osl⟩) (code : PySem.W.codeIn K cdv qual = true) (S : FnScope N ps scope)
    (len : ∀ vs H Q E, sp vs H Q E → vs.length = ps.length)
    (walk : ∀ (outer : List Env) (s : Shared) (H : Hp) (vs : List V) (Q : VK) (E : XK), Room k (A.deeper (envOfC qual scope s.heap.objs.size f cdv)) → sp vs H Q E →
      ∃ t, PSs (cxOf CX P w K mg base N qual scope f cdv A outer s H E) body t ∧ t { nx := fun _ H' => Q .non H', rt := Q } (L2.start N vs) H) :
    FnHere P w K mg base CX A (k + 1) f (PySem.W.fnOf name qual params body scope dV kV doc pm an cdv ct) ps sp := by
  refine ⟨fun outer s H args us vs Q E room e0 hb rel hsp => ?_⟩
  have hlen := len _ _ _ _ hsp
  have inK : K.In s.heap := e0.mod.kin.keeps fun b o z => (e0.bs b o z).1
  have nolim : s.heap.NoLimit := e0.mod.nolimit.keeps fun b o z => (e0.bs b o z).1
  have kinds : ∀ y ∈ ps.zip us, scope.names.lookup y.1 = some .local ∨ (scope.names.lookup y.1 = some .cell ∧ ((cellsFrom (s.heap.objs.size + 1) scope.names []).lookup y.1).isSome = true) := fun ⟨n, v⟩ hy => by
    rcases S.par n (List.of_mem_zip hy).1 with z | z
    · exact .inl z
    · exact .inr ⟨z, PySem.W.cellsFrom_some _ _ _ (.inl z)⟩
  refine codeAny_call_function room.depth (inK _ _ look) rfl S.co S.gen rfl (PySem.W.codeRec_of inK code) (hb _ _ _ _ ?_)
  refine wpAny_newFunctionEnv_cells S.kind kinds fun env he s1 x => ?_
  subst he
  refine ⟨nolim.keeps x.toInCall.keep, codeAny_func ?_⟩
  obtain ⟨t, run, q⟩ := walk outer s H vs Q E (room.deeper _) hsp
  have I : Inv (cxOf CX P w K mg base N qual scope f cdv A outer s H E) [] (L2.start N vs) H s1 := inv_start S room.hd e0 hlen rel x
  refine wpAny_mono (run.run [] s1 (L2.start N vs) H _ I q) (fun fl s' hs => ?_) fun e s' hs => hs
  have out : ∀ {σ' : L2.St} {H' : Hp} {v : V} {u : Value}, Inv (cxOf CX P w K mg base N qual scope f cdv A outer s H E) [] σ' H' s' → L2.RelV v u → Q v H' → CE outer P w H s Q u s' :=
    fun {σ' H' v u} J rv z => ⟨v, H', J.os, J.bare, J.base, J.hok, rv, z⟩
  cases fl with
  | ret u =>
    obtain ⟨v, σ', H', J, rv, z⟩ := hs
    exact out J rv z
  | next =>
    obtain ⟨σ', H', J, z⟩ := hs
    exact out (v := V.non) (u := Value.none) J rfl z
  | brk =>
    obtain ⟨_, _, _, z⟩ := hs
    exact False.elim z
  | cont =>
    obtain ⟨_, _, _, z⟩ := hs
    exact False.elim z
/-- what the head leaves where the law is called -/
structure Head (K : PySem.W.Frag) (mg : Str → Option Value) (cs : List (Addr × Addr)) (a : Addr) (vs : List Value) (ns : List Int) (h : Heap) : Prop where
  kin : K.In h
  glob : h.Ns mainGlobals mg
  blt : ∃ mb, h.Ns builtinsNs mb ∧ ∀ x : Str, x ≠ "__name__" → mb x = bootBuiltins x
  lim : h.NoLimit
  empty : ∀ p ∈ cs, h.get? p.2 = some { cls := .none, data := .fields #[] }
  notK : ∀ p ∈ cs, K.lookup p.2 = none
  code : ∀ p ∈ cs, PySem.W.CodeHd h p.1 p.2
  mods : ∃ (bm : Addr) (ob : Obj), mg "__builtins__" = some (.ref bm) ∧ bm ≠ builtinsNs ∧ h.get? bm = some ob ∧ ob.cls = .type "module" ∧ ob.dict = some builtinsNs ∧ ob.data = .plain
  script : h.get? a = some { cls := .type "list", data := .seq vs.toArray }
  itms : IntsAre vs ns
  few : ns.length ≤ sizeLine
/-- the places that the layer tracks at the start: tables, and the script where it is none of the written part -/
structure Track (K : PySem.W.Frag) (P : Program) (w : World) (cs : List (Addr × Addr)) (a : Addr) (ns : List Int) (h : Heap) (H : Hp) : Prop where
  tabs : ∀ p ∈ cs, H p.2 = some (.tbl #[])
  kinds : ∀ b, H b = none ∨ b ∈ cs.map (·.2) ∨ ∃ o xs, H b = some (.frz o (.lst xs))
  seq : SqL K H a (ns.map V.int)
  ok : HOk P w H h
  only : ∀ b o, H b = some o → b = a ∨ b ∈ cs.map (·.2)
  free : ∀ o, H a = some o → K.lookup a = none
section
variable {P : Program} {w : World} {K : PySem.W.Frag} {mg : Str → Option Value} {cs : List (Addr × Addr)} {a : Addr} {vs : List Value} {ns : List Int}
theorem Head.tabAt {h : Heap} (D : Head K mg cs a vs ns h) {b : Addr} (hb : b ∈ cs.map (·.2)) : h.get? b = some { cls := .none, data := .fields #[] } := by
  obtain ⟨p, hp, rfl⟩ := List.mem_map.mp hb
  exact D.empty p hp
theorem Head.apart {h : Heap} (D : Head K mg cs a vs ns h) : a ∉ cs.map (·.2) := fun z => by
  have q := D.tabAt z
  rw [D.script] at q
  cases q
def tabH (cs : List (Addr × Addr)) : Hp := fun b => if b ∈ cs.map (·.2) then some (.tbl #[]) else none
theorem tabH_in {b : Addr} (h : b ∈ cs.map (·.2)) : tabH cs b = some (.tbl #[]) := if_pos h
theorem tabH_out {b : Addr} (h : b ∉ cs.map (·.2)) : tabH cs b = none := if_neg h
theorem tabH_some {b : Addr} {o : HO} (h : tabH cs b = some o) : b ∈ cs.map (·.2) ∧ o = .tbl #[] := by
  by_cases hb : b ∈ cs.map (·.2)
  · rw [tabH_in hb] at h
    exact ⟨hb, (Option.some.inj h).symm⟩
  · rw [tabH_out hb] at h
    cases h
theorem track_exists {h : Heap} (D : Head K mg cs a vs ns h) : ∃ H, Track K P w cs a ns h H := by
  have rel := vals_ints D.itms
  have hl := D.itms.length
  cases hk : K.lookup a with
  | some o =>
    have e := D.kin a o hk
    rw [D.script] at e
    cases e
    refine ⟨tabH cs, fun p hp => tabH_in (List.mem_map.mpr ⟨p, hp, rfl⟩), fun b => ?_, .inr ⟨_, vs.toArray, _, hk, rfl, rfl, rfl, by rw [List.size_toArray, hl]; exact D.few, by simpa using rel⟩, fun b u z => ?_, fun b o z => .inr (tabH_some z).1, fun o z => absurd (tabH_some z).1 D.apart⟩
    · by_cases hb : b ∈ cs.map (·.2)
      · exact .inr (.inl hb)
      · exact .inl (tabH_out hb)
    · obtain ⟨hb, rfl⟩ := tabH_some z
      exact D.tabAt hb
  | none =>
    have ne : ∀ {b : Addr}, b ∈ cs.map (·.2) → b ≠ a := fun hb z => D.apart (z ▸ hb)
    refine ⟨upd (tabH cs) a (.frz { cls := .type "list", data := .seq vs.toArray } (.lst (ns.map V.int))), fun p hp => ?_, fun b => ?_, .inl (.inr ⟨_, upd_same⟩), fun b u z => ?_, fun b o z => ?_, fun _ _ => hk⟩
    · have hm : p.2 ∈ cs.map (·.2) := List.mem_map.mpr ⟨p, hp, rfl⟩
      rw [upd_ne (ne hm)]
      exact tabH_in hm
    · by_cases e : b = a
      · rw [e]
        exact .inr (.inr ⟨_, _, upd_same⟩)
      · rw [upd_ne e]
        by_cases hb : b ∈ cs.map (·.2)
        · exact .inr (.inl hb)
        · exact .inl (tabH_out hb)
    · by_cases e : b = a
      · rw [e, upd_same] at z
        cases z
        rw [e]
        exact ⟨D.script, by rw [List.length_map]; exact D.few, vs, _, rel, D.script⟩
      · rw [upd_ne e] at z
        obtain ⟨hb, rfl⟩ := tabH_some z
        exact D.tabAt hb
    · by_cases e : b = a
      · exact .inl e
      · rw [upd_ne e] at z
        exact .inr (tabH_some z).1
/-- an object that is no list and no empty record of fields is not tracked -/
theorem Track.out {h : Heap} {H : Hp} (D : Head K mg cs a vs ns h) (T : Track K P w cs a ns h H) {b : Addr} {o : Obj} (e : h.get? b = some o) (n1 : ∀ us n, o.data ≠ .seq us n) (n2 : o.data ≠ .fields #[]) : H b = none := by
  cases z : H b with
  | none => rfl
  | some u =>
    rcases T.only b u z with rfl | hb
    · rw [D.script] at e
      cases e
      exact absurd rfl (n1 _ _)
    · rw [D.tabAt hb] at e
      cases e
      exact absurd rfl n2
theorem here_mod {h : Heap} {H : Hp} (D : Head K mg cs a vs ns h) (T : Track K P w cs a ns h H) : L2.Mod K mg (hidT h H) := by
  have ns' : ∀ {b : Addr} {m : Str → Option Value}, h.Ns b m → (hidT h H).Ns b m := fun {b m} ⟨o, es, ep, e, d, r⟩ =>
    ⟨o, es, ep, hidT_get e (T.out D e (fun us n z => by rw [d] at z; cases z) (fun z => by rw [d] at z; cases z)), d, r⟩
  refine ⟨fun b o e => hidT_get (D.kin b o e) ?_, ns' D.glob, ?_, ?_⟩
  · cases z : H b with
    | none => rfl
    | some u =>
      rcases T.only b u z with rfl | hb
      · rw [T.free u z] at e
        cases e
      · obtain ⟨p, hp, rfl⟩ := List.mem_map.mp hb
        rw [D.notK p hp] at e
        cases e
  · obtain ⟨mb, h1, h2⟩ := D.blt
    exact ⟨mb, ns' h1, h2⟩
  · obtain ⟨mc, h1, h2⟩ := D.lim
    exact ⟨mc, ns' h1, h2⟩
theorem here_tab {h : Heap} {H : Hp} (D : Head K mg cs a vs ns h) (T : Track K P w cs a ns h H) : ∀ p ∈ cs, LamX.TabB (hidT h H) mg p.1 p.2 := by
  intro p hp
  have ht := D.empty p hp
  refine ⟨?_, ?_, fun z => ?_⟩
  · obtain ⟨o, us, file, tf, flags, tg, inF, text, tt, e1, r1, r2, r3, rest⟩ := D.code p hp
    refine ⟨o, us, file, tf, flags, tg, inF, text, tt, hidT_get e1 (T.out D e1 (fun us' n z => ?_) fun z => ?_), r1, r2, r3, rest⟩
    · rw [r2] at z
      cases z
    · rw [r2] at z
      cases z
      simp at r3
  · obtain ⟨bm, ob, b1, b2, b3, b4, b5, b6⟩ := D.mods
    refine ⟨bm, ob, b1, b2, fun q => ?_, fun q => ?_, hidT_get b3 (T.out D b3 (fun us n z => by rw [b6] at z; cases z) (fun z => by rw [b6] at z; cases z)), b4, b5, b6⟩
    · obtain ⟨o, es, ep, e, hd, _⟩ := D.glob
      rw [q, e] at b3
      cases b3
      rw [hd] at b6
      cases b6
    · rw [q, ht] at b3
      cases b3
      cases b6
  · obtain ⟨o, es, ep, e, hd, _⟩ := D.glob
    rw [z, ht] at e
    cases e
    cases hd
/-- the law's call: True, and of the old objects the tables alone have grown -/
theorem call_here {CX : CXT} {k : Nat} {fa : Addr} {fd : FuncData} {x : Str} {sp : Sp} {s₁ : Shared} (D : Head K mg cs a vs ns s₁.heap) (hg : s₁.gens = #[]) (room : Room k callerA)
    (F : ∀ base : Heap, K.In base → base.Ns mainGlobals mg → (∀ p ∈ cs, LamX.TabB base mg p.1 p.2) → FnHere P w K mg base CX callerA k fa fd [x] sp) (bind : ∀ (s : Shared) (u : Value), BindsTo s fd ⟨[u], []⟩ [(x, u)])
    (hsp : ∀ H : Hp, (∀ p ∈ cs, H p.2 = some (.tbl #[])) → SqL K H a (ns.map V.int) → sp [.ref a] H (fun v _ => v = .bl true) fun _ _ _ => False)
    (hCX : ∀ H e s', CX [] H s₁ (fun _ _ _ => False) e s' → False) :
    codeAny (model P w) callerA (.call (.ref fa) ⟨[.ref a], []⟩) (fun r s' => r = .ok (.ret (.bool true)) ∧ OldK s₁.heap s'.heap ∧ s'.os = s₁.os ∧ AllBare s'.gens) s₁ := by
  obtain ⟨H, T⟩ := track_exists (P := P) (w := w) D
  have M := here_mod D T
  have e0 : Env0 P w K mg (hidT s₁.heap H) callerA [] s₁ H := ⟨rfl, M, fun b o e => of_hidT e, Nat.le_of_eq (hidT_size _ _), trivial, fun b hb => absurd (show b ∈ ([] : List Addr) from hb) (by simp), T.ok, .of_eq hg⟩
  have run := (F _ M.kin M.glob (here_tab D T)).run [] s₁ H ⟨[.ref a], []⟩ [.ref a] [.ref a] _ _ room e0 (bind s₁ (.ref a)) (.cons rfl .nil) (hsp H T.tabs T.seq)
  refine codeAny_mono run fun r s' hr => ?_
  cases r with
  | error e => exact (hCX H e s' hr).elim
  | ok fl =>
    cases fl with
    | next => exact False.elim hr
    | brk => exact False.elim hr
    | cont => exact False.elim hr
    | ret u =>
      obtain ⟨v, H', os, bare, un, ok', rel, q⟩ := hr
      obtain rfl : v = .bl true := q
      obtain rfl : u = Value.bool true := rel
      -- what is no table stays as it is
      have stays : ∀ b o, b ∉ cs.map (·.2) → s₁.heap.get? b = some o → s'.heap.get? b = some o := by
        intro b o nb e
        cases z : H b with
        | none => exact un.keep b o e z (by intro y; exact absurd (show b ∈ ([] : List Addr) from y) (by simp)) (by simp)
        | some u =>
          rcases T.kinds b with y | y | ⟨ob, xs, y⟩
          · rw [z] at y
            cases y
          · exact absurd y nb
          · obtain ⟨e1, _⟩ := T.ok b _ y
            obtain ⟨e2, _⟩ := ok' b _ (un.frzs b ob _ y)
            rw [e] at e1
            cases e1
            exact e2
      have grew : ∀ p ∈ cs, ∃ more : Array Value, s'.heap.get? p.2 = some { cls := .none, data := .fields more } := fun p hp => by
        obtain ⟨more, y⟩ := un.tbls p.2 #[] (T.tabs p hp)
        exact ⟨_, ok' p.2 _ y⟩
      refine ⟨rfl, ⟨fun b o e => ?_, fun b o e => ?_⟩, os, bare⟩
      · by_cases hb : b ∈ cs.map (·.2)
        · obtain ⟨p, hp, rfl⟩ := List.mem_map.mp hb
          obtain ⟨more, hm⟩ := grew p hp
          have ht := D.empty p hp
          rw [ht] at e
          cases e
          exact .inr (.inl ⟨((D.code p hp).tab ht).isCodeTable, rfl, #[], more, rfl, by rw [Array.empty_append]; exact hm⟩)
        · exact .inl (stays b o hb e)
      · by_cases hb : b ∈ cs.map (·.2)
        · obtain ⟨p, hp, rfl⟩ := List.mem_map.mp hb
          obtain ⟨more, hm⟩ := grew p hp
          exact ⟨_, hm⟩
        · exact ⟨o, stays b o hb e⟩
end
end K1
end
section
set_option Elab.async false
set_option linter.all false
set_option maxRecDepth 100000
set_option maxHeartbeats 2000000
namespace K1
open PySem PyProof.Rows L2
/-- a def's code object and its table, empty still -/
def TabFact (mg : Str → Option Value) (h : Heap) (name : Str) : Prop := ∃ (a : Addr) (o : Obj) (fd : FuncData) (c P : Addr) (oc : Obj) (vc : Array Value), mg name = some (.ref a) ∧ h.get? a = some o ∧ o.data = .func fd ∧ fd.code = .ref c ∧ PySem.W.CodeHd h c P ∧
  h.get? c = some oc ∧ oc.data = .fields vc ∧ vc[11]? = some (.ref P) ∧ h.get? P = some { cls := .none, data := .fields #[] }
/-- the same, at known places -/
theorem TabFact.at_ {mg : Str → Option Value} {h : Heap} {name : Str} {K : PySem.W.Frag} {f c P : Addr} {x q : Str} {ps : Arguments} {bd : List Stmt} {sc : Scope} {dV kV dc pm ct e1 e2 : Value} {an od d2 : Option Addr} {sl s2 : Array (Option Value)} {vs : Array Value}
    (T : TabFact mg h name) (X : K.In h) (g : mg name = some (.ref f)) (l : K.lookup f = some ⟨e1, od, .func (PySem.W.fnOf x q ps bd sc dV kV dc pm an (.ref c) ct), sl⟩) (lc : K.lookup c = some ⟨e2, d2, .fields vs, s2⟩) (lp : vs[11]? = some (.ref P)) :
    PySem.W.CodeHd h c P ∧ h.get? P = some { cls := .none, data := .fields #[] } := by
  obtain ⟨a, o, fd, c', P', oc, vc, h1, h2, h3, h4, h5, h6, h7, h8, h9⟩ := T
  rw [g] at h1
  cases h1
  rw [X _ _ l] at h2
  cases h2
  cases h3
  have e : c = c' := Value.ref.inj h4
  subst e
  rw [X _ _ lc] at h6
  cases h6
  cases h7
  rw [lp] at h8
  cases h8
  exact ⟨h5, h9⟩
/-- what the end wants of the law at the head's heap -/
def LawHere (l : PySem.W.OpenLaw) (w : World) (K : PySem.W.Frag) (k n : Nat) (x : Str) (mg : Str → Option Value) (fa : Addr) (h : Heap) : Prop :=
  ∃ (fd : FuncData) (cs : List (Addr × Addr)) (sp : Sp), (∀ p ∈ cs, h.get? p.2 = some { cls := .none, data := .fields #[] }) ∧ (∀ p ∈ cs, K.lookup p.2 = none) ∧ (∀ p ∈ cs, PySem.W.CodeHd h p.1 p.2) ∧ (∀ (s : Shared) (u : Value), BindsTo s fd ⟨[u], []⟩ [(x, u)]) ∧
    (∀ (H : Hp) (a : Addr) (ns : List Int), (∀ p ∈ cs, H p.2 = some (.tbl #[])) → SqL K H a (ns.map V.int) → sp [.ref a] H (fun v _ => v = .bl true) fun _ _ _ => False) ∧
    ∀ base : Heap, K.In base → base.Ns mainGlobals mg → (∀ p ∈ cs, LamX.TabB base mg p.1 p.2) → FnHere l.prog w K mg base CX0 callerA k fa fd [x] sp
theorem walk_here {l : PySem.W.OpenLaw} {n k : Nat} {q : Program} {loose names : List Str} {XP : (Str → Option Value) → Heap → Prop} {YP : World → Heap → Prop} {d : DefRec} {K : Params → PySem.W.Frag} {x : Str}
    (hn : l.most = some n) (hn2 : n ≤ sizeLine) (hdf : d.params.defaults = []) (room : Room k callerA) (recs : names.all (fun y => (recsOf q).any fun e => e.name == y) = true) (hY : ∀ (w : World) (h : Heap), YP w h → (K w.params).In h)
    (F : ∀ (w : World) (mg : Str → Option Value) (fa : Addr) (h : Heap), YP w h → (K w.params).In h → h.Ns mainGlobals mg → mg d.name = some (.ref fa) → (∀ y ∈ names, TabFact mg h y) → LawHere l w (K w.params) k n x mg fa h) :
    PySem.W.WalkO q loose XP YP l.row.toRowW d [] (fun f vs => PySem.call f vs) := by
  refine Att.attach_callB hn hdf fun w s₀ s₁ mg mb fa o pm cd doc a vs ns G Y ho hd hcd hmg hobj hints hlen hbits hg => ?_
  have KX := hY w _ Y
  have tabs : ∀ y ∈ names, TabFact mg s₁.heap y := by
    intro y hy
    obtain ⟨r, hr, he⟩ := List.any_eq_true.mp (List.all_eq_true.mp recs y hy)
    have en : r.name = y := beq_iff_eq.mp he
    obtain ⟨a', o', fd', c', P', h1, h2, h3, h4, h5, h6⟩ := G.T.tab r hr
    rw [en] at h1
    have hc := PySem.W.CodeHd.of h5 h6
    obtain ⟨⟨oc, vc, e1, _, e3, e4⟩, hP⟩ := h6
    exact ⟨a', o', fd', c', P', oc, vc, h1, h2, h3, h4, hc, e1, e3, e4, hP⟩
  obtain ⟨fd, cs, sp, hT, nT, C, hb, hsp, hF⟩ := F w mg fa _ Y KX G.T.g hmg tabs
  have D : Head (K w.params) mg cs a vs ns s₁.heap := ⟨KX, G.T.g, ⟨mb, G.T.b, G.T.builtins⟩, G.T.nolimit, hT, nT, C, G.T.bmain, hobj, hints, Nat.le_trans hlen hn2⟩
  exact call_here D hg room hF hb (fun H h1 h2 => hsp H a ns h1 h2) fun H e s' h => h
end K1
end
section
set_option Elab.async false
set_option linter.all false
set_option maxRecDepth 100000
set_option maxHeartbeats 2000000
namespace K1
open PySem PyProof.Rows L2
theorem tabB_of {base : Heap} {mg : Str → Option Value} {c P : Addr} (h : LamX.TabB base mg c P) : GxR.TabB base mg c P := ⟨h.1, h.2, h.3⟩
section
variable {P : Program} {w : World} {K : PySem.W.Frag} {mg : Str → Option Value}
theorem law_fn {fNum fFlag fParty fEntry fFind fAsc fFile fPars fFins fEv fENum fLast fWith fPick fCut fWout fAll fCell fDraws fLPar fNoted fHon fLied fDeed fBeg fDid fWorld fEvid fTold fLaw cAsc cFile cPars cFins cEv T1 T2 T3 T4 T5 pa ca C CT fI cdI ccI : Addr} {dNum dFlag dParty dEntry dFind dAsc dFile dPars dFins dEv dENum dLast dWith dPick dCut dWout dAll dCell dDraws dLPar dNoted dHon dLied dDeed dBeg dDid dWorld dEvid dTold dLaw : FuncData} (B : Blt mg) (Z : Cst K mg pa ca) (T : ErrTxt P K mg C CT fI cdI ccI)
    (DNum : DefAt K mg "is_number" sIsNumber ["thing", "least", "most"] fNum dNum)
    (DFlag : DefAt K mg "is_flag" sIsFlag ["thing"] fFlag dFlag)
    (DParty : DefAt K mg "is_party" sIsParty ["thing"] fParty dParty)
    (DEntry : DefAt K mg "is_entry" sIsEntry ["thing", "kinds", "parties", "owner"] fEntry dEntry)
    (DFind : DefAt K mg "is_find" sIsFind ["thing", "kinds", "parties"] fFind dFind)
    (DAsc : DefC K mg "ascend" sAscend ["rows"] fAsc dAsc cAsc)
    (DFile : DefC K mg "is_file" sIsFile ["thing", "kinds", "parties", "owner"] fFile dFile cFile)
    (DPars : DefC K mg "is_parties" sIsParties ["thing"] fPars dPars cPars)
    (DFins : DefC K mg "are_finds" sAreFinds ["thing", "kinds", "parties"] fFins dFins cFins)
    (DEv : DefC K mg "is_evidence" sIsEvidence ["thing"] fEv dEv cEv)
    (DENum : DefAt K mg "entry_numbers" sEntryNumbers ["files"] fENum dENum)
    (DLast : DefAt K mg "last_number" sLastNumber ["evidence"] fLast dLast)
    (DWith : DefAt K mg "with_find" sWithFind ["evidence", "party", "kind", "amount"] fWith dWith)
    (DPick : DefAt K mg "picked" sPicked ["evidence", "wanted"] fPick dPick)
    (DCut : DefAt K mg "cut" sCut ["evidence", "number"] fCut dCut)
    (DWout : DefAt K mg "without" sWithout ["evidence", "number"] fWout dWout)
    (DAll : DefAt K mg "all_numbers" sAllNumbers ["evidence"] fAll dAll)
    (DCell : DefAt K mg "_law_cell" sCell ["_law_script", "_law_k"] fCell dCell)
    (DDraws : DefAt K mg "_law_draws" sDraws ["_law_cell_here", "_law_count"] fDraws dDraws)
    (DLPar : DefAt K mg "_law_parties" sParties ["_law_cell_here", "_law_most"] fLPar dLPar)
    (DNoted : DefAt K mg "_law_noted" sNoted ["_law_world_here", "_law_giver", "_law_taker", "_law_kind", "_law_amount", "_law_is_sealed"] fNoted dNoted)
    (DHon : DefAt K mg "_law_honest" sHonest ["_law_world_here", "_law_word", "_law_party", "_law_other", "_law_kind", "_law_amount", "_law_is_sealed"] fHon dHon)
    (DLied : DefAt K mg "_law_lied" sLied ["_law_world_here", "_law_word", "_law_party", "_law_other", "_law_kind", "_law_amount", "_law_is_sealed"] fLied dLied)
    (DDeed : DefAt K mg "_law_deed" sDeed ["_law_cell_here", "_law_world_here", "_law_lying"] fDeed dDeed)
    (DBeg : DefAt K mg "_law_begun" sBegun ["_law_kinds", "_law_parties_here"] fBeg dBeg)
    (DDid : DefAt K mg "_law_did" sDid ["_law_world_here", "_law_deed_here"] fDid dDid)
    (DWorld : DefAt K mg "_law_world" sWorld ["_law_script", "_law_start", "_law_many", "_law_most", "_law_lying"] fWorld dWorld)
    (DEvid : DefAt K mg "_law_evidence" sEvidence ["_law_world_here"] fEvid dEvid)
    (DTold : DefAt K mg "_law_told" sTold ["_law_evidence_here", "_law_party", "_law_kind", "_law_amount"] fTold dTold)
    (DLaw : DefAt K mg "law" sLaw ["_law_script"] fLaw dLaw)
    (base : Heap) (hTB : ∀ p ∈ [(cAsc, T1), (cFile, T2), (cPars, T3), (cFins, T4), (cEv, T5)], LamX.TabB base mg p.1 p.2) :
    FnHere P w K mg base CX0 callerA 7 fLaw dLaw ["_law_script"] (spLaw K T1 T2 T3 T4 T5) := by
  have tb1 : GxR.TabB base mg cAsc T1 := tabB_of (hTB (cAsc, T1) (by simp))
  have tb2 : GxR.TabB base mg cFile T2 := tabB_of (hTB (cFile, T2) (by simp))
  have tb3 : GxR.TabB base mg cPars T3 := tabB_of (hTB (cPars, T3) (by simp))
  have tb4 : GxR.TabB base mg cFins T4 := tabB_of (hTB (cFins, T4) (by simp))
  have tb5 : GxR.TabB base mg cEv T5 := tabB_of (hTB (cEv, T5) (by simp))
  have GNum : FnOk P w K mg base CX0 1 fNum dNum _ spNum := ok_num DNum B
  have GEntry : FnOk P w K mg base CX0 2 fEntry dEntry _ spEntry := ok_entry DEntry B Z DNum DFlag
  have GFind : FnOk P w K mg base CX0 2 fFind dFind _ spFind := ok_find DFind B Z DNum
  have GParty : FnOk P w K mg base CX0 2 fParty dParty _ spParty := ok_party DParty B DFlag
  have GAsc : FnOk P w K mg base CX0 2 fAsc dAsc _ (spAscend T1) := ok_ascend DAsc B tb1
  have GFile : FnOk P w K mg base CX0 4 fFile dFile _ (spFile T2 T1) := ok_file DFile B Z tb2 DEntry GEntry DAsc GAsc
  have GPars : FnOk P w K mg base CX0 4 fPars dPars _ (spParties T3) := ok_parties DPars B Z tb3 DParty GParty
  have GFins : FnOk P w K mg base CX0 4 fFins dFins _ (spFinds T4 T1) := ok_finds DFins B Z tb4 DFind GFind DAsc GAsc
  have GENum : FnOk P w K mg base CX0 1 fENum dENum _ spEntryNums := ok_entryNums DENum
  have GEv : FnOk P w K mg base CX0 6 fEv dEv _ (spIsEv T1 T2 T3 T4 T5) := ok_isEv DEv B Z tb5 DNum GNum DPars GPars DFile GFile DFins GFins DENum GENum
  have GLast : FnOk P w K mg base CX0 1 fLast dLast _ spLast := ok_last DLast B
  have GAll : FnOk P w K mg base CX0 2 fAll dAll _ spAllNums := ok_allNums DAll B DENum
  have GPick : FnOk P w K mg base CX0 1 fPick dPick _ spPicked := ok_picked DPick B
  have GCut : FnOk P w K mg base CX0 3 fCut dCut _ _ := ok_cut DCut DAll GAll DPick GPick
  have GWout : FnOk P w K mg base CX0 3 fWout dWout _ _ := ok_without DWout DAll GAll DPick GPick
  have GWith : FnOk P w K mg base (L2.CX P w) 3 fWith dWith _ (spWithFind C) := ok_withFind DWith B Z T.ref DLast GLast
  have GCell : FnOk P w K mg base CX0 1 fCell dCell _ (spCell K) := ok_cell DCell B
  have GDraws : FnOk P w K mg base CX0 1 fDraws dDraws _ spDraws := ok_draws DDraws B
  have GLPar : FnOk P w K mg base CX0 2 fLPar dLPar _ spLParties := ok_lparties DLPar B DDraws GDraws
  have GNoted : FnOk P w K mg base CX0 1 fNoted dNoted _ spNoted := ok_noted DNoted B
  have GHon : FnOk P w K mg base CX0 2 fHon dHon _ spDid := ok_honest DHon B DNoted GNoted
  have GLied : FnOk P w K mg base CX0 2 fLied dLied _ spDid := ok_lied DLied B DNoted GNoted
  have GDeed : FnOk P w K mg base CX0 2 fDeed dDeed _ spDeed := ok_deed DDeed B DDraws GDraws
  have GBeg : FnOk P w K mg base CX0 1 fBeg dBeg _ spBegun := ok_begun DBeg B
  have GDid : FnOk P w K mg base CX0 3 fDid dDid _ spDidT := ok_did DDid DHon GHon DLied GLied
  have GWorld : FnOk P w K mg base CX0 4 fWorld dWorld _ (spWorld K) := ok_world DWorld B DCell GCell DLPar GLPar DBeg GBeg DDeed GDeed DDid GDid
  have GEvid : FnOk P w K mg base CX0 1 fEvid dEvid _ spEvid := ok_evid DEvid B
  have GTold : FnOk P w K mg base CX0 4 fTold dTold _ spTold := ok_told DTold B T DWith GWith
  obtain ⟨oc, od, kV, doc, pm, an, cdv, ct, osl, rfl, lk, hcd⟩ := DLaw.F.ex
  refine fn_here lk hcd scLaw (fun vs H Q E h => ?_) fun outer s H vs Q E hr hsp => ?_
  · obtain ⟨a, ns, rfl, _⟩ := h
    rfl
  · obtain ⟨a, ns, rfl, hS, hT, q⟩ := hsp
    have hgu : callerA.guards = some [] := rfl
    obtain ⟨tE, hE, pE⟩ := law_end (f := fLaw) (cdv := cdv) (A := callerA) (outer := outer) (s := s) (H := H) (E := E) (Q := Q) (base := base) B hr hgu DTold GTold
    obtain ⟨tP, hP, pP⟩ := law_parts (f := fLaw) (cdv := cdv) (A := callerA) (outer := outer) (s := s) (H := H) (E := E) (Q := Q) (base := base) B hr DEv GEv q tE hE
    obtain ⟨tN, hN, pN⟩ := law_nums (f := fLaw) (cdv := cdv) (A := callerA) (outer := outer) (s := s) (H := H) (E := E) (Q := Q) (base := base) B hr DAll GAll DLast GLast DCell GCell DCut GCut DWout GWout tP hP
    obtain ⟨t, ht, rd⟩ := law_start (f := fLaw) (cdv := cdv) (A := callerA) (outer := outer) (s := s) (H := H) (E := E) (Q := Q) (base := base) (T1 := T1) (T2 := T2) (T3 := T3) (T4 := T4) (T5 := T5) B hr hgu DCell GCell DWorld GWorld DEvid GEvid tN hN
      (fun H2 e a ns p fl g x5 ve hin good hS2 hT2 => pN H2 e a ns p fl g x5 ve _ _ _ _ _ _ _ _ _ _ _ hin good hS2 fun H3 m n lp v0 v1 y9 y10 s23 hm hm0 hm9 hlp h0 h1 =>
        pP H3 e m n _ p fl g x5 ve _ lp v0 v1 _ _ _ _ _ _ _ (hin.kp (Kt.same s23).kp) good (hT2.kt (Kt.same s23)) hlp h0 h1 fun H4 y6 y13 y14 y15 kt4 =>
          pE H4 e m _ p fl g x5 ve _ _ _ _ _ _ _ _ _ ((hin.kp (Kt.same s23).kp).kp kt4.kp) good.ok good.plain hm good.gl (fun r hr => by
            have := good.nums _ (List.mem_append_right _ (List.mem_map.mpr ⟨r, hr, rfl⟩))
            omega) hm9 hm0 good.p1 good.k1 good.p8 good.k3 q) hS hT
    exact ⟨t, ht.nox, rd⟩
/-- a def of the module, from what the head has written -/
theorem mkD {h : Heap} {x : Str} {st : Stmt} {ps : List Str} {f : Addr} {oc kV dc pm cd ct : Value} {od an : Option Addr} {sl : Array (Option Value)} (X : K.In h) (G : h.Ns mainGlobals mg) (a : PySem.W.nsIn K mainGlobals x = some (some (.ref f)))
    (l : K.lookup f = some ⟨oc, od, .func (PySem.W.fnOf x x (defArgs st) (defBody st) (defScope st) .none kV dc pm an cd ct), sl⟩) (c : PySem.W.codeIn K cd x = true) (k : PySem.W.keepIn K (.ref f) = true)
    (hb : ∀ (kV dc pm : Value) (an : Option Addr) (cd ct : Value) (us : List Value), us.length = ps.length → bindArgs (PySem.W.fnOf x x (defArgs st) (defBody st) (defScope st) .none kV dc pm an cd ct) ⟨us, []⟩ = pure (ps.zip us)) :
    ∃ f fd, DefAt K mg x st ps f fd := ⟨f, _, fun_mk l c k, PySem.W.mg_of X G a, (fun_mk (st := st) l c k).binds hb⟩
/-- the same with its code object and its table -/
theorem mkC {h : Heap} {x : Str} {st : Stmt} {ps : List Str} {f c P : Addr} {oc kV dc pm ct e2 : Value} {od an d2 : Option Addr} {sl s2 : Array (Option Value)} {vs : Array Value} (X : K.In h) (G : h.Ns mainGlobals mg) (T : TabFact mg h x) (a : PySem.W.nsIn K mainGlobals x = some (some (.ref f)))
    (l : K.lookup f = some ⟨oc, od, .func (PySem.W.fnOf x x (defArgs st) (defBody st) (defScope st) .none kV dc pm an (.ref c) ct), sl⟩) (cd : PySem.W.codeIn K (.ref c) x = true) (k : PySem.W.keepIn K (.ref f) = true)
    (lc : K.lookup c = some ⟨e2, d2, .fields vs, s2⟩) (lp : vs[11]? = some (.ref P)) (nP : K.lookup P = none)
    (hb : ∀ (kV dc pm : Value) (an : Option Addr) (cd ct : Value) (us : List Value), us.length = ps.length → bindArgs (PySem.W.fnOf x x (defArgs st) (defBody st) (defScope st) .none kV dc pm an cd ct) ⟨us, []⟩ = pure (ps.zip us)) :
    ∃ f fd c P, DefC K mg x st ps f fd c ∧ PySem.W.CodeHd h c P ∧ h.get? P = some { cls := .none, data := .fields #[] } ∧ K.lookup P = none := by
  obtain ⟨h1, h2⟩ := T.at_ X (PySem.W.mg_of X G a) l lc lp
  exact ⟨f, _, c, P, ⟨⟨⟨oc, od, kV, dc, pm, an, ct, sl, rfl, l, cd⟩, k⟩, PySem.W.mg_of X G a, (fun_mk (st := st) l cd k).binds hb⟩, h1, h2, nP⟩
end
end K1
end
section
set_option Elab.async false
set_option linter.all false
set_option maxRecDepth 100000
set_option maxHeartbeats 2000000
namespace K1
open PySem PyProof.Rows L2
section
variable {K : PySem.W.Frag} {mg : Str → Option Value} {h : Heap}
theorem blt_mk (X : K.In h) (G : h.Ns mainGlobals mg) (b1 : PySem.W.nsIn K mainGlobals "isinstance" = some none) (b2 : PySem.W.nsIn K mainGlobals "len" = some none) (b3 : PySem.W.nsIn K mainGlobals "all" = some none) (b4 : PySem.W.nsIn K mainGlobals "any" = some none)
    (b5 : PySem.W.nsIn K mainGlobals "enumerate" = some none) (b6 : PySem.W.nsIn K mainGlobals "tuple" = some none) (b7 : PySem.W.nsIn K mainGlobals "sorted" = some none) (b8 : PySem.W.nsIn K mainGlobals "max" = some none) (b9 : PySem.W.nsIn K mainGlobals "repr" = some none)
    (b10 : PySem.W.nsIn K mainGlobals "range" = some none) (b11 : PySem.W.nsIn K mainGlobals "int" = some none) (b12 : PySem.W.nsIn K mainGlobals "str" = some none) (b13 : PySem.W.nsIn K mainGlobals "bool" = some none) (b14 : PySem.W.nsIn K mainGlobals "super" = some none)
    (b15 : PySem.W.nsIn K mainGlobals "ValueError" = some none) : Blt mg :=
  ⟨PySem.W.mg_none_of X G b1, PySem.W.mg_none_of X G b2, PySem.W.mg_none_of X G b3, PySem.W.mg_none_of X G b4, PySem.W.mg_none_of X G b5, PySem.W.mg_none_of X G b6, PySem.W.mg_none_of X G b7, PySem.W.mg_none_of X G b8, PySem.W.mg_none_of X G b9,
    PySem.W.mg_none_of X G b10, PySem.W.mg_none_of X G b11, PySem.W.mg_none_of X G b12, PySem.W.mg_none_of X G b13, PySem.W.mg_none_of X G b14, PySem.W.mg_none_of X G b15⟩
theorem cst_mk {pa ca : Addr} {k1 k2 k3 k4 k5 t1 t2 t3 t4 : Tok} {od1 od2 : Option Addr} {n1 n2 : Nat} {sl1 sl2 : Array (Option Value)} (X : K.In h) (G : h.Ns mainGlobals mg)
    (c1 : PySem.W.nsIn K mainGlobals "KINDS_MOST" = some (some (.int 3 k1))) (c2 : PySem.W.nsIn K mainGlobals "PARTIES_MOST" = some (some (.int 8 k2))) (c3 : PySem.W.nsIn K mainGlobals "ROWS_MOST" = some (some (.int 200 k3)))
    (c4 : PySem.W.nsIn K mainGlobals "NUMBER_MOST" = some (some (.int 1000000000 k4))) (c5 : PySem.W.nsIn K mainGlobals "AMOUNT_MOST" = some (some (.int 1000000000000 k5)))
    (c6 : PySem.W.nsIn K mainGlobals "PLAIN_DEEDS" = some (some (.ref pa))) (c7 : PySem.W.nsIn K mainGlobals "COPY_DEEDS" = some (some (.ref ca)))
    (c8 : K.lookup pa = some ⟨.type "tuple", od1, .seq #[.str "made" t1, .str "treated" t2] n1, sl1⟩) (c9 : K.lookup ca = some ⟨.type "tuple", od2, .seq #[.str "gave" t3, .str "took" t4] n2, sl2⟩) : Cst K mg pa ca :=
  ⟨⟨_, PySem.W.mg_of X G c1⟩, ⟨_, PySem.W.mg_of X G c2⟩, ⟨_, PySem.W.mg_of X G c3⟩, ⟨_, PySem.W.mg_of X G c4⟩, ⟨_, PySem.W.mg_of X G c5⟩, PySem.W.mg_of X G c6, PySem.W.mg_of X G c7,
    ⟨_, _, _, c8, rfl, rfl, (by show 2 ≤ sizeLine; decide), .cons ⟨_, rfl⟩ (.cons ⟨_, rfl⟩ .nil)⟩, ⟨_, _, _, c9, rfl, rfl, (by show 2 ≤ sizeLine; decide), .cons ⟨_, rfl⟩ (.cons ⟨_, rfl⟩ .nil)⟩⟩
theorem kit_self {S D : Addr} (h2 : PySem.W.isClsIn K D = true) (h3 : PySem.W.typeIn K (.ref D) = some (.type "type")) (h4 : PySem.W.subIn K (.ref S) (.ref D) = some true) : PySem.W.kitCls K (.ref S) (.ref D) = some true := by
  have e : ((PySem.W.clsIn K D).isSome && PySem.W.typeIn K (.ref D) == some (.type "type")) = true := by
    have h2' : (PySem.W.clsIn K D).isSome = true := h2
    rw [h2', h3]
    rfl
  show (if ((PySem.W.clsIn K D).isSome && PySem.W.typeIn K (.ref D) == some (.type "type")) = true then PySem.W.subIn K (.ref S) (.ref D) else none) = some true
  rw [if_pos e]
  exact h4
theorem kit_one {t c : Value} (e : PySem.W.kitCls K t c = some true) : PySem.W.kitOne K t c = some true := by
  unfold PySem.W.kitOne
  split
  · rfl
  · exact e
theorem kit_verr {S : Addr} (h4 : PySem.W.subIn K (.ref S) (.type "ValueError") = some true) : PySem.W.kitOne K (.ref S) (.type "ValueError") = some true := by
  refine kit_one ?_
  show (if PySem.W.kitMeta "ValueError" = true then PySem.W.subIn K (.ref S) (.type "ValueError") else none) = some true
  rw [if_pos (by decide +kernel)]
  exact h4
theorem err_mk {P : Program} {C CT fI cd cc : Addr} {nm q : Str} {N : Addr} {bs bm : List Value} {sn : List Str} {sub : List Value} {ab : Bool} {col : Option Bool} {dd : Option Addr} {k0 k1 k2 k3 k5 : Option Value}
    {oc kV doc pm ct o1 p1 : Value} {od an o2 p2 : Option Addr} {osl o3 p3 : Array (Option Value)} {vs : Array Value} {file : Str} {tf : Tok} (X : K.In h) (G : h.Ns mainGlobals mg)
    (aC : PySem.W.nsIn K mainGlobals "Refused" = some (some (.ref C))) (aT : PySem.W.nsIn K mainGlobals "TrailError" = some (some (.ref CT)))
    (xL : K.lookup C = some (excClassObj nm q C N bs bm true sn sub ab col dd k0 k1 k2 k3 k5 "ValueError.__new__"))
    (bT : PySem.HandSPX.refsVE bm = true)
    (sa : PySem.W.findIn K (.ref C) "__setattr__" = some (some (.builtin "object.__setattr__"))) (ga : PySem.W.findIn K (.ref C) "__getattribute__" = some (some (.builtin "BaseException.__getattribute__"))) (gg : PySem.W.findIn K (.ref C) "__getattr__" = some none)
    (nb : PySem.W.findIn K (.ref C) "what" = some none) (iC : PySem.W.findIn K (.ref C) "__init__" = some (some (.ref fI))) (tI : PySem.W.typeIn K (.ref fI) = some (.type "function")) (kC : PySem.W.keepIn K (.ref C) = true)
    (eC : PySem.W.subIn K (.ref C) (.type "BaseException") = some true) (vC : PySem.W.subIn K (.ref C) (.type "ValueError") = some true) (tC : PySem.W.typeIn K (.ref C) = some (.type "type")) (hC : PySem.W.hasDictIn K C = true) (isC : PySem.W.isClsIn K C = true)
    (sC : PySem.W.subIn K (.ref C) (.ref C) = some true) (iT : PySem.W.isClsIn K CT = true) (tT : PySem.W.typeIn K (.ref CT) = some (.type "type")) (sT : PySem.W.subIn K (.ref C) (.ref CT) = some true)
    (fl : K.lookup fI = some ⟨oc, od, .func (PySem.W.ksFn "__init__" "Refused.__init__" (defArgs sInit) (defBody sInit) (defScope sInit) .none kV doc pm an (.ref cd) ct cc), osl⟩) (fc : PySem.W.codeIn K (.ref cd) "Refused.__init__" = true)
    (cl : K.lookup cd = some ⟨o1, o2, .fields vs, o3⟩) (cf : vs[2]? = some (.str file tf)) (ce : ((P.main.file : Str) == file) = true)
    (xl : K.lookup cc = some ⟨p1, p2, .cell (some (.ref C)), p3⟩) (mC : PySem.W.mroIn K C (.ref C) = some true) (op : PySem.W.nsIn K cStatics "thirdparty.any" = some none)
    (su : PySem.W.ks_superIn K C C "__init__" = some (some (.builtin "ValueError.__init__"))) (tp : (P.main.scope.names.lookup ("super" : Str)).isSome = false)
    (ha : PySem.W.findIn K (.ref C) "__class__" = some (some (.builtin "object.__class__"))) (hn : PySem.W.specialIn K (.builtin "object.__class__") "__get__" = some (some (.builtin "getset_descriptor.__get__")))
    (ht : PySem.W.takesIn K (.builtin "object.__class__") = some true) (hm : PySem.W.mroIn K C (.type "object") = some true) : ErrTxt P K mg C CT fI cd cc := by
  have te : PySem.W.exmOne K (.ref C) (.ref C) = some true := by
    have e1 : (PySem.W.subIn K (.ref C) (.type "BaseException") == some true) = true := by rw [eC]; rfl
    show (if (PySem.W.subIn K (.ref C) (.type "BaseException") == some true) = true then PySem.W.kitCls K (.ref C) (.ref C) else none) = some true
    rw [if_pos e1]
    exact kit_self isC tC sC
  exact ⟨⟨PySem.W.mg_of X G aC, ⟨nm, q, N, bs, bm, sn, sub, ab, col, dd, k0, k1, k2, k3, k5, xL, bT⟩, sa, ga, gg, nb, iC, tI, kC, eC, vC, tC, hC, te, ⟨_, _, _, _, _, _, _, _, fl, fc⟩, ⟨_, _, _, _, _, _, cl, cf, ce⟩, ⟨_, _, _, xl⟩, mC, op, su, tp⟩,
    ⟨ga, gg, eC, hC, ha, hn, ht, hm⟩, PySem.W.mg_of X G aT, kit_one (kit_self iT tT sT), kit_verr vC⟩
end
end K1
end
section
set_option Elab.async false
set_option linter.all false
set_option maxRecDepth 100000
set_option maxHeartbeats 2000000
namespace K1
open PySem PyProof.Rows L2
section
theorem law_here {l : PySem.W.OpenLaw} {w : World} {K : PySem.W.Frag} {mg : Str → Option Value} {n : Nat} {h : Heap} {fa fNum fFlag fParty fEntry fFind fAsc fFile fPars fFins fEv fENum fLast fWith fPick fCut fWout fAll fCell fDraws fLPar fNoted fHon fLied fDeed fBeg fDid fWorld fEvid fTold fLaw cAsc cFile cPars cFins cEv T1 T2 T3 T4 T5 pa ca C CT fI cdI ccI : Addr} {dNum dFlag dParty dEntry dFind dAsc dFile dPars dFins dEv dENum dLast dWith dPick dCut dWout dAll dCell dDraws dLPar dNoted dHon dLied dDeed dBeg dDid dWorld dEvid dTold dLaw : FuncData} (B : Blt mg) (Z : Cst K mg pa ca) (T : ErrTxt l.prog K mg C CT fI cdI ccI)
    (hfa : mg "law" = some (.ref fa))
    (DNum : DefAt K mg "is_number" sIsNumber ["thing", "least", "most"] fNum dNum)
    (DFlag : DefAt K mg "is_flag" sIsFlag ["thing"] fFlag dFlag)
    (DParty : DefAt K mg "is_party" sIsParty ["thing"] fParty dParty)
    (DEntry : DefAt K mg "is_entry" sIsEntry ["thing", "kinds", "parties", "owner"] fEntry dEntry)
    (DFind : DefAt K mg "is_find" sIsFind ["thing", "kinds", "parties"] fFind dFind)
    (DAsc : DefC K mg "ascend" sAscend ["rows"] fAsc dAsc cAsc)
    (DFile : DefC K mg "is_file" sIsFile ["thing", "kinds", "parties", "owner"] fFile dFile cFile)
    (DPars : DefC K mg "is_parties" sIsParties ["thing"] fPars dPars cPars)
    (DFins : DefC K mg "are_finds" sAreFinds ["thing", "kinds", "parties"] fFins dFins cFins)
    (DEv : DefC K mg "is_evidence" sIsEvidence ["thing"] fEv dEv cEv)
    (DENum : DefAt K mg "entry_numbers" sEntryNumbers ["files"] fENum dENum)
    (DLast : DefAt K mg "last_number" sLastNumber ["evidence"] fLast dLast)
    (DWith : DefAt K mg "with_find" sWithFind ["evidence", "party", "kind", "amount"] fWith dWith)
    (DPick : DefAt K mg "picked" sPicked ["evidence", "wanted"] fPick dPick)
    (DCut : DefAt K mg "cut" sCut ["evidence", "number"] fCut dCut)
    (DWout : DefAt K mg "without" sWithout ["evidence", "number"] fWout dWout)
    (DAll : DefAt K mg "all_numbers" sAllNumbers ["evidence"] fAll dAll)
    (DCell : DefAt K mg "_law_cell" sCell ["_law_script", "_law_k"] fCell dCell)
    (DDraws : DefAt K mg "_law_draws" sDraws ["_law_cell_here", "_law_count"] fDraws dDraws)
    (DLPar : DefAt K mg "_law_parties" sParties ["_law_cell_here", "_law_most"] fLPar dLPar)
    (DNoted : DefAt K mg "_law_noted" sNoted ["_law_world_here", "_law_giver", "_law_taker", "_law_kind", "_law_amount", "_law_is_sealed"] fNoted dNoted)
    (DHon : DefAt K mg "_law_honest" sHonest ["_law_world_here", "_law_word", "_law_party", "_law_other", "_law_kind", "_law_amount", "_law_is_sealed"] fHon dHon)
    (DLied : DefAt K mg "_law_lied" sLied ["_law_world_here", "_law_word", "_law_party", "_law_other", "_law_kind", "_law_amount", "_law_is_sealed"] fLied dLied)
    (DDeed : DefAt K mg "_law_deed" sDeed ["_law_cell_here", "_law_world_here", "_law_lying"] fDeed dDeed)
    (DBeg : DefAt K mg "_law_begun" sBegun ["_law_kinds", "_law_parties_here"] fBeg dBeg)
    (DDid : DefAt K mg "_law_did" sDid ["_law_world_here", "_law_deed_here"] fDid dDid)
    (DWorld : DefAt K mg "_law_world" sWorld ["_law_script", "_law_start", "_law_many", "_law_most", "_law_lying"] fWorld dWorld)
    (DEvid : DefAt K mg "_law_evidence" sEvidence ["_law_world_here"] fEvid dEvid)
    (DTold : DefAt K mg "_law_told" sTold ["_law_evidence_here", "_law_party", "_law_kind", "_law_amount"] fTold dTold)
    (DLaw : DefAt K mg "law" sLaw ["_law_script"] fLaw dLaw)
    (cd1 : PySem.W.CodeHd h cAsc T1) (em1 : h.get? T1 = some { cls := .none, data := .fields #[] }) (nk1 : K.lookup T1 = none)
    (cd2 : PySem.W.CodeHd h cFile T2) (em2 : h.get? T2 = some { cls := .none, data := .fields #[] }) (nk2 : K.lookup T2 = none)
    (cd3 : PySem.W.CodeHd h cPars T3) (em3 : h.get? T3 = some { cls := .none, data := .fields #[] }) (nk3 : K.lookup T3 = none)
    (cd4 : PySem.W.CodeHd h cFins T4) (em4 : h.get? T4 = some { cls := .none, data := .fields #[] }) (nk4 : K.lookup T4 = none)
    (cd5 : PySem.W.CodeHd h cEv T5) (em5 : h.get? T5 = some { cls := .none, data := .fields #[] }) (nk5 : K.lookup T5 = none) : LawHere l w K 7 n "_law_script" mg fa h := by
  have e := hfa.symm.trans DLaw.g
  cases e
  refine ⟨dLaw, [(cAsc, T1), (cFile, T2), (cPars, T3), (cFins, T4), (cEv, T5)], spLaw K T1 T2 T3 T4 T5, ?_, ?_, ?_, fun s u => ?_, fun H a ns hT hS => ?_, fun base _ _ hTB => ?_⟩
  · intro p hp
    simp only [List.mem_cons, List.not_mem_nil, or_false] at hp
    rcases hp with rfl | rfl | rfl | rfl | rfl <;> assumption
  · intro p hp
    simp only [List.mem_cons, List.not_mem_nil, or_false] at hp
    rcases hp with rfl | rfl | rfl | rfl | rfl <;> assumption
  · intro p hp
    simp only [List.mem_cons, List.not_mem_nil, or_false] at hp
    rcases hp with rfl | rfl | rfl | rfl | rfl <;> assumption
  · obtain ⟨oc, od, kV, doc, pm, an, cdv, ct, osl, rfl, _⟩ := DLaw.F.ex
    exact .of_eq rfl
  · exact ⟨a, ns, rfl, hS, ⟨⟨#[], hT (cAsc, T1) (by simp), trivial⟩, ⟨#[], hT (cFile, T2) (by simp), trivial⟩, ⟨#[], hT (cPars, T3) (by simp), trivial⟩, ⟨#[], hT (cFins, T4) (by simp), trivial⟩, ⟨#[], hT (cEv, T5) (by simp), trivial⟩⟩, fun _ => rfl⟩
  · exact law_fn B Z T DNum DFlag DParty DEntry DFind DAsc DFile DPars DFins DEv DENum DLast DWith DPick DCut DWout DAll DCell DDraws DLPar DNoted DHon DLied DDeed DBeg DDid DWorld DEvid DTold DLaw base hTB
/-- the same four, handed on to what wants them -/
theorem useB {M : Prop} {mg : Str → Option Value} (B : Blt mg) (next : Blt mg → M) : M := next B
theorem useZ {M : Prop} {K : PySem.W.Frag} {mg : Str → Option Value} {pa ca : Addr} (Z : Cst K mg pa ca) (next : ∀ pa ca, Cst K mg pa ca → M) : M := next pa ca Z
theorem useT {M : Prop} {P : Program} {K : PySem.W.Frag} {mg : Str → Option Value} {C CT fI cd cc : Addr} (T : ErrTxt P K mg C CT fI cd cc) (next : ∀ C CT fI cd cc, ErrTxt P K mg C CT fI cd cc → M) : M := next C CT fI cd cc T
theorem useD {M : Prop} {K : PySem.W.Frag} {mg : Str → Option Value} {x : Str} {st : Stmt} {ps : List Str} (e : ∃ f fd, DefAt K mg x st ps f fd) (next : ∀ f fd, DefAt K mg x st ps f fd → M) : M := by
  obtain ⟨f, fd, D⟩ := e
  exact next f fd D
theorem useC {M : Prop} {K : PySem.W.Frag} {mg : Str → Option Value} {h : Heap} {x : Str} {st : Stmt} {ps : List Str} (e : ∃ f fd c P, DefC K mg x st ps f fd c ∧ PySem.W.CodeHd h c P ∧ h.get? P = some { cls := .none, data := .fields #[] } ∧ K.lookup P = none)
    (next : ∀ f fd c P, DefC K mg x st ps f fd c → PySem.W.CodeHd h c P → h.get? P = some { cls := .none, data := .fields #[] } → K.lookup P = none → M) : M := by
  obtain ⟨f, fd, c, P, D, h1, h2, h3⟩ := e
  exact next f fd c P D h1 h2 h3
end
end K1
end
set_option Elab.async false
set_option linter.all false
open PySem PySem.W PyProof.Rows
set_option maxRecDepth 100000 in
set_option maxHeartbeats 0 in
theorem PySem.Challenge.cw_notetrail_k01_evidence_cut_holds : PySem.Challenge.rw_notetrail_k01_evidence_cut.Holds := by
  w_on; o_law; k_head; (case hw => w_witness2)
  k_fill
  refine K1.walk_here (l := PySem.Challenge.rw_notetrail_k01_evidence_cut) (n := 63) (k := 7) (x := "_law_script") (names := ["ascend", "is_file", "is_parties", "are_finds", "is_evidence"]) rfl (by decide) rfl ⟨rfl, by decide, by decide⟩ (by decide +kernel) (fun w h Y => PySem.W.kIn_of Y) ?F
  case F =>
    intro w mg fa h Y KX G hmg tabs
    refine' K1.useB (K1.blt_mk KX G ?b1 ?b2 ?b3 ?b4 ?b5 ?b6 ?b7 ?b8 ?b9 ?b10 ?b11 ?b12 ?b13 ?b14 ?b15) ?_
    (case b1 => k_is)
    (case b2 => k_is)
    (case b3 => k_is)
    (case b4 => k_is)
    (case b5 => k_is)
    (case b6 => k_is)
    (case b7 => k_is)
    (case b8 => k_is)
    (case b9 => k_is)
    (case b10 => k_is)
    (case b11 => k_is)
    (case b12 => k_is)
    (case b13 => k_is)
    (case b14 => k_is)
    (case b15 => k_is)
    intro B
    refine' K1.useZ (K1.cst_mk KX G ?c1 ?c2 ?c3 ?c4 ?c5 ?c6 ?c7 ?c8 ?c9) ?_
    (case c1 => k_is)
    (case c2 => k_is)
    (case c3 => k_is)
    (case c4 => k_is)
    (case c5 => k_is)
    (case c6 => k_is)
    (case c7 => k_is)
    (case c8 => k_is)
    (case c9 => k_is)
    intro pa ca Z
    refine' K1.useT (K1.err_mk (P := (PySem.Challenge.rw_notetrail_k01_evidence_cut).prog) KX G ?aC ?aT ?xL ?bT ?sa ?ga ?gg ?nb ?iC ?tI ?kC ?eC ?vC ?tC ?hC ?isC ?sC ?iT ?tT ?sT ?fl ?fc ?cl ?cf ?ce ?xl ?mC ?op ?su ?tp ?ha ?hn ?ht ?hm) ?_
    (case aC => k_is)
    (case aT => k_is)
    (case xL => k_is)
    (case bT => first | rfl | decide +kernel)
    (case sa => k_is)
    (case ga => k_is)
    (case gg => k_is)
    (case nb => k_is)
    (case iC => k_is)
    (case tI => k_is)
    (case kC => k_is)
    (case eC => k_is)
    (case vC => k_is)
    (case tC => k_is)
    (case hC => k_is)
    (case isC => k_is)
    (case sC => first | k_is | rfl | kernel_rfl)
    (case iT => k_is)
    (case tT => k_is)
    (case sT => first | k_is | rfl | kernel_rfl)
    (case fl => k_is)
    (case fc => k_is)
    (case cl => k_is)
    (case cf => rfl)
    (case ce => first | rfl | decide +kernel)
    (case xl => k_is)
    (case mC => first | k_is | rfl | kernel_rfl)
    (case op => k_is)
    (case su => kernel_rfl)
    (case tp => first | rfl | decide +kernel)
    (case ha => k_is)
    (case hn => k_is)
    (case ht => k_is)
    (case hm => k_is)
    intro C CT fI cdI ccI T
    refine' K1.useD (x := "is_number") (st := K1.sIsNumber) (ps := ["thing", "least", "most"]) (K1.mkD KX G ?aNum ?lNum ?ccNum ?kNum (fun _ _ _ _ _ _ us hl => match us, hl with | [_, _, _], _ => rfl)) ?_
    (case aNum => k_is); (case lNum => k_is); (case ccNum => k_is); (case kNum => k_is)
    intro fNum dNum DNum
    refine' K1.useD (x := "is_flag") (st := K1.sIsFlag) (ps := ["thing"]) (K1.mkD KX G ?aFlag ?lFlag ?ccFlag ?kFlag (fun _ _ _ _ _ _ us hl => match us, hl with | [_], _ => rfl)) ?_
    (case aFlag => k_is); (case lFlag => k_is); (case ccFlag => k_is); (case kFlag => k_is)
    intro fFlag dFlag DFlag
    refine' K1.useD (x := "is_party") (st := K1.sIsParty) (ps := ["thing"]) (K1.mkD KX G ?aParty ?lParty ?ccParty ?kParty (fun _ _ _ _ _ _ us hl => match us, hl with | [_], _ => rfl)) ?_
    (case aParty => k_is); (case lParty => k_is); (case ccParty => k_is); (case kParty => k_is)
    intro fParty dParty DParty
    refine' K1.useD (x := "is_entry") (st := K1.sIsEntry) (ps := ["thing", "kinds", "parties", "owner"]) (K1.mkD KX G ?aEntry ?lEntry ?ccEntry ?kEntry (fun _ _ _ _ _ _ us hl => match us, hl with | [_, _, _, _], _ => rfl)) ?_
    (case aEntry => k_is); (case lEntry => k_is); (case ccEntry => k_is); (case kEntry => k_is)
    intro fEntry dEntry DEntry
    refine' K1.useD (x := "is_find") (st := K1.sIsFind) (ps := ["thing", "kinds", "parties"]) (K1.mkD KX G ?aFind ?lFind ?ccFind ?kFind (fun _ _ _ _ _ _ us hl => match us, hl with | [_, _, _], _ => rfl)) ?_
    (case aFind => k_is); (case lFind => k_is); (case ccFind => k_is); (case kFind => k_is)
    intro fFind dFind DFind
    refine' K1.useC (x := "ascend") (st := K1.sAscend) (ps := ["rows"]) (K1.mkC KX G (tabs "ascend" (by simp)) ?aAsc ?lAsc ?cdAsc ?kAsc ?lcAsc ?lpAsc ?nPAsc (fun _ _ _ _ _ _ us hl => match us, hl with | [_], _ => rfl)) ?_
    (case aAsc => k_is); (case lAsc => k_is); (case cdAsc => k_is); (case kAsc => k_is); (case lcAsc => k_is); (case lpAsc => rfl); (case nPAsc => kernel_rfl)
    intro fAsc dAsc cAsc T1 DAsc cd1 em1 nk1
    refine' K1.useC (x := "is_file") (st := K1.sIsFile) (ps := ["thing", "kinds", "parties", "owner"]) (K1.mkC KX G (tabs "is_file" (by simp)) ?aFile ?lFile ?cdFile ?kFile ?lcFile ?lpFile ?nPFile (fun _ _ _ _ _ _ us hl => match us, hl with | [_, _, _, _], _ => rfl)) ?_
    (case aFile => k_is); (case lFile => k_is); (case cdFile => k_is); (case kFile => k_is); (case lcFile => k_is); (case lpFile => rfl); (case nPFile => kernel_rfl)
    intro fFile dFile cFile T2 DFile cd2 em2 nk2
    refine' K1.useC (x := "is_parties") (st := K1.sIsParties) (ps := ["thing"]) (K1.mkC KX G (tabs "is_parties" (by simp)) ?aPars ?lPars ?cdPars ?kPars ?lcPars ?lpPars ?nPPars (fun _ _ _ _ _ _ us hl => match us, hl with | [_], _ => rfl)) ?_
    (case aPars => k_is); (case lPars => k_is); (case cdPars => k_is); (case kPars => k_is); (case lcPars => k_is); (case lpPars => rfl); (case nPPars => kernel_rfl)
    intro fPars dPars cPars T3 DPars cd3 em3 nk3
    refine' K1.useC (x := "are_finds") (st := K1.sAreFinds) (ps := ["thing", "kinds", "parties"]) (K1.mkC KX G (tabs "are_finds" (by simp)) ?aFins ?lFins ?cdFins ?kFins ?lcFins ?lpFins ?nPFins (fun _ _ _ _ _ _ us hl => match us, hl with | [_, _, _], _ => rfl)) ?_
    (case aFins => k_is); (case lFins => k_is); (case cdFins => k_is); (case kFins => k_is); (case lcFins => k_is); (case lpFins => rfl); (case nPFins => kernel_rfl)
    intro fFins dFins cFins T4 DFins cd4 em4 nk4
    refine' K1.useC (x := "is_evidence") (st := K1.sIsEvidence) (ps := ["thing"]) (K1.mkC KX G (tabs "is_evidence" (by simp)) ?aEv ?lEv ?cdEv ?kEv ?lcEv ?lpEv ?nPEv (fun _ _ _ _ _ _ us hl => match us, hl with | [_], _ => rfl)) ?_
    (case aEv => k_is); (case lEv => k_is); (case cdEv => k_is); (case kEv => k_is); (case lcEv => k_is); (case lpEv => rfl); (case nPEv => kernel_rfl)
    intro fEv dEv cEv T5 DEv cd5 em5 nk5
    refine' K1.useD (x := "entry_numbers") (st := K1.sEntryNumbers) (ps := ["files"]) (K1.mkD KX G ?aENum ?lENum ?ccENum ?kENum (fun _ _ _ _ _ _ us hl => match us, hl with | [_], _ => rfl)) ?_
    (case aENum => k_is); (case lENum => k_is); (case ccENum => k_is); (case kENum => k_is)
    intro fENum dENum DENum
    refine' K1.useD (x := "last_number") (st := K1.sLastNumber) (ps := ["evidence"]) (K1.mkD KX G ?aLast ?lLast ?ccLast ?kLast (fun _ _ _ _ _ _ us hl => match us, hl with | [_], _ => rfl)) ?_
    (case aLast => k_is); (case lLast => k_is); (case ccLast => k_is); (case kLast => k_is)
    intro fLast dLast DLast
    refine' K1.useD (x := "with_find") (st := K1.sWithFind) (ps := ["evidence", "party", "kind", "amount"]) (K1.mkD KX G ?aWith ?lWith ?ccWith ?kWith (fun _ _ _ _ _ _ us hl => match us, hl with | [_, _, _, _], _ => rfl)) ?_
    (case aWith => k_is); (case lWith => k_is); (case ccWith => k_is); (case kWith => k_is)
    intro fWith dWith DWith
    refine' K1.useD (x := "picked") (st := K1.sPicked) (ps := ["evidence", "wanted"]) (K1.mkD KX G ?aPick ?lPick ?ccPick ?kPick (fun _ _ _ _ _ _ us hl => match us, hl with | [_, _], _ => rfl)) ?_
    (case aPick => k_is); (case lPick => k_is); (case ccPick => k_is); (case kPick => k_is)
    intro fPick dPick DPick
    refine' K1.useD (x := "cut") (st := K1.sCut) (ps := ["evidence", "number"]) (K1.mkD KX G ?aCut ?lCut ?ccCut ?kCut (fun _ _ _ _ _ _ us hl => match us, hl with | [_, _], _ => rfl)) ?_
    (case aCut => k_is); (case lCut => k_is); (case ccCut => k_is); (case kCut => k_is)
    intro fCut dCut DCut
    refine' K1.useD (x := "without") (st := K1.sWithout) (ps := ["evidence", "number"]) (K1.mkD KX G ?aWout ?lWout ?ccWout ?kWout (fun _ _ _ _ _ _ us hl => match us, hl with | [_, _], _ => rfl)) ?_
    (case aWout => k_is); (case lWout => k_is); (case ccWout => k_is); (case kWout => k_is)
    intro fWout dWout DWout
    refine' K1.useD (x := "all_numbers") (st := K1.sAllNumbers) (ps := ["evidence"]) (K1.mkD KX G ?aAll ?lAll ?ccAll ?kAll (fun _ _ _ _ _ _ us hl => match us, hl with | [_], _ => rfl)) ?_
    (case aAll => k_is); (case lAll => k_is); (case ccAll => k_is); (case kAll => k_is)
    intro fAll dAll DAll
    refine' K1.useD (x := "_law_cell") (st := K1.sCell) (ps := ["_law_script", "_law_k"]) (K1.mkD KX G ?aCell ?lCell ?ccCell ?kCell (fun _ _ _ _ _ _ us hl => match us, hl with | [_, _], _ => rfl)) ?_
    (case aCell => k_is); (case lCell => k_is); (case ccCell => k_is); (case kCell => k_is)
    intro fCell dCell DCell
    refine' K1.useD (x := "_law_draws") (st := K1.sDraws) (ps := ["_law_cell_here", "_law_count"]) (K1.mkD KX G ?aDraws ?lDraws ?ccDraws ?kDraws (fun _ _ _ _ _ _ us hl => match us, hl with | [_, _], _ => rfl)) ?_
    (case aDraws => k_is); (case lDraws => k_is); (case ccDraws => k_is); (case kDraws => k_is)
    intro fDraws dDraws DDraws
    refine' K1.useD (x := "_law_parties") (st := K1.sParties) (ps := ["_law_cell_here", "_law_most"]) (K1.mkD KX G ?aLPar ?lLPar ?ccLPar ?kLPar (fun _ _ _ _ _ _ us hl => match us, hl with | [_, _], _ => rfl)) ?_
    (case aLPar => k_is); (case lLPar => k_is); (case ccLPar => k_is); (case kLPar => k_is)
    intro fLPar dLPar DLPar
    refine' K1.useD (x := "_law_noted") (st := K1.sNoted) (ps := ["_law_world_here", "_law_giver", "_law_taker", "_law_kind", "_law_amount", "_law_is_sealed"]) (K1.mkD KX G ?aNoted ?lNoted ?ccNoted ?kNoted (fun _ _ _ _ _ _ us hl => match us, hl with | [_, _, _, _, _, _], _ => rfl)) ?_
    (case aNoted => k_is); (case lNoted => k_is); (case ccNoted => k_is); (case kNoted => k_is)
    intro fNoted dNoted DNoted
    refine' K1.useD (x := "_law_honest") (st := K1.sHonest) (ps := ["_law_world_here", "_law_word", "_law_party", "_law_other", "_law_kind", "_law_amount", "_law_is_sealed"]) (K1.mkD KX G ?aHon ?lHon ?ccHon ?kHon (fun _ _ _ _ _ _ us hl => match us, hl with | [_, _, _, _, _, _, _], _ => rfl)) ?_
    (case aHon => k_is); (case lHon => k_is); (case ccHon => k_is); (case kHon => k_is)
    intro fHon dHon DHon
    refine' K1.useD (x := "_law_lied") (st := K1.sLied) (ps := ["_law_world_here", "_law_word", "_law_party", "_law_other", "_law_kind", "_law_amount", "_law_is_sealed"]) (K1.mkD KX G ?aLied ?lLied ?ccLied ?kLied (fun _ _ _ _ _ _ us hl => match us, hl with | [_, _, _, _, _, _, _], _ => rfl)) ?_
    (case aLied => k_is); (case lLied => k_is); (case ccLied => k_is); (case kLied => k_is)
    intro fLied dLied DLied
    refine' K1.useD (x := "_law_deed") (st := K1.sDeed) (ps := ["_law_cell_here", "_law_world_here", "_law_lying"]) (K1.mkD KX G ?aDeed ?lDeed ?ccDeed ?kDeed (fun _ _ _ _ _ _ us hl => match us, hl with | [_, _, _], _ => rfl)) ?_
    (case aDeed => k_is); (case lDeed => k_is); (case ccDeed => k_is); (case kDeed => k_is)
    intro fDeed dDeed DDeed
    refine' K1.useD (x := "_law_begun") (st := K1.sBegun) (ps := ["_law_kinds", "_law_parties_here"]) (K1.mkD KX G ?aBeg ?lBeg ?ccBeg ?kBeg (fun _ _ _ _ _ _ us hl => match us, hl with | [_, _], _ => rfl)) ?_
    (case aBeg => k_is); (case lBeg => k_is); (case ccBeg => k_is); (case kBeg => k_is)
    intro fBeg dBeg DBeg
    refine' K1.useD (x := "_law_did") (st := K1.sDid) (ps := ["_law_world_here", "_law_deed_here"]) (K1.mkD KX G ?aDid ?lDid ?ccDid ?kDid (fun _ _ _ _ _ _ us hl => match us, hl with | [_, _], _ => rfl)) ?_
    (case aDid => k_is); (case lDid => k_is); (case ccDid => k_is); (case kDid => k_is)
    intro fDid dDid DDid
    refine' K1.useD (x := "_law_world") (st := K1.sWorld) (ps := ["_law_script", "_law_start", "_law_many", "_law_most", "_law_lying"]) (K1.mkD KX G ?aWorld ?lWorld ?ccWorld ?kWorld (fun _ _ _ _ _ _ us hl => match us, hl with | [_, _, _, _, _], _ => rfl)) ?_
    (case aWorld => k_is); (case lWorld => k_is); (case ccWorld => k_is); (case kWorld => k_is)
    intro fWorld dWorld DWorld
    refine' K1.useD (x := "_law_evidence") (st := K1.sEvidence) (ps := ["_law_world_here"]) (K1.mkD KX G ?aEvid ?lEvid ?ccEvid ?kEvid (fun _ _ _ _ _ _ us hl => match us, hl with | [_], _ => rfl)) ?_
    (case aEvid => k_is); (case lEvid => k_is); (case ccEvid => k_is); (case kEvid => k_is)
    intro fEvid dEvid DEvid
    refine' K1.useD (x := "_law_told") (st := K1.sTold) (ps := ["_law_evidence_here", "_law_party", "_law_kind", "_law_amount"]) (K1.mkD KX G ?aTold ?lTold ?ccTold ?kTold (fun _ _ _ _ _ _ us hl => match us, hl with | [_, _, _, _], _ => rfl)) ?_
    (case aTold => k_is); (case lTold => k_is); (case ccTold => k_is); (case kTold => k_is)
    intro fTold dTold DTold
    refine' K1.useD (x := "law") (st := K1.sLaw) (ps := ["_law_script"]) (K1.mkD KX G ?aLaw ?lLaw ?ccLaw ?kLaw (fun _ _ _ _ _ _ us hl => match us, hl with | [_], _ => rfl)) ?_
    (case aLaw => k_is); (case lLaw => k_is); (case ccLaw => k_is); (case kLaw => k_is)
    intro fLaw dLaw DLaw
    exact K1.law_here B Z T hmg DNum DFlag DParty DEntry DFind DAsc DFile DPars DFins DEv DENum DLast DWith DPick DCut DWout DAll DCell DDraws DLPar DNoted DHon DLied DDeed DBeg DDid DWorld DEvid DTold DLaw cd1 em1 nk1 cd2 em2 nk2 cd3 em3 nk3 cd4 em4 nk4 cd5 em5 nk5
#print axioms PySem.Challenge.cw_notetrail_k01_evidence_cut_holds
