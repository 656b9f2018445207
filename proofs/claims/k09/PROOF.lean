import PyProof.Rows.All
import Wide.All
import OpenK.AllK
import Wide.FinOn
import PySem.Challenge.RW_saggar_k09_whole_undone_work_leaves_no_t
import HandS.Defaults
import HandS.EndTab
import HandS.Exc
import HandS.ExcCtx
import HandS.ExcField
import HandS.ExcInit
import HandS.ExcIs
import HandS.ExcOwn
import HandS.Flow
import HandS.ForMost
import HandS.Hot
import HandS.HotCalls
import HandS.IsInst
import HandS.Lambda
import HandS.More
import HandS.RaiseMore
import HandS.SortInts
import HandS.SortKw
import HandS.Style
import HandS.TryMany
import HandS.Walk
import HandS.Wide
import KE.KDictSum
import KE.KExcSuper
import KE.KNestM
import KE.SortKeyHeap
import PyProof.MinMaxWalk
import PyProof.WalkInts
import PyProof.WalksMore
section
set_option Elab.async false
set_option linter.all false
set_option maxRecDepth 100000
set_option maxHeartbeats 4000000
/-! Loops that end while an exception may be handled. -/
namespace K9
open PySem PySem.Spec PyProof.Rows L2 HotX
/-- nothing is handled, or an exception without a context -/
def EndsOk (A : Around) (h : Heap) : Prop := A.handled = none ∨ ∃ x1, HotAt A x1 h
def Warm (X : Cx) : Prop := X.calm = true ∨ L2H.HotC X
theorem Warm.at {X : Cx} {pins : List (Addr × Obj)} {σ : L2.St} {H : Hp} {s : Shared} (c : Warm X) (I : Inv X pins σ H s) : EndsOk X.A s.heap := by
  rcases c with c | c
  · exact .inl (I.ok.hd c)
  · exact .inr (c.at I)
section
variable {prog : Program} {w : World} {A : Around} {E : Value → Shared → Prop} {s : Shared}
/-- StopIteration raised: what stood stands -/
theorem stopW {α : Type} {Q : α → Shared → Prop} (hot : EndsOk A s.heap) (hE : ∀ (h' : Heap) (a : Addr), (∀ b o, s.heap.get? b = some o → h'.get? b = some o) → (∃ o, h'.get? a = some o ∧ o.cls = .type "StopIteration") → E (.ref a) { s with heap := h' }) :
    wpAny (model prog w) A (newExc (.type "StopIteration") [] >>= fun e => (raiseNew e : Sem α)) Q E s := by
  refine wpAny_bind ?_
  simp only [newExc, newTuple]
  refine wpAny_bind (wpAny_newObj_type ?_ (by size_fits))
  refine wpAny_bind (m := firstArgMember _ _) (wpAny_of_eq (a := Value.none) (by first | rfl | (simp only [firstArgMember]; rfl)) ?_)
  refine wpAny_newObj_type ?_ (by size_fits)
  rcases hot with hh | ⟨x1, hot⟩
  · simp only [raiseNew]
    refine wpAny_bind (wpAny_handled ?_)
    rw [hh]
    refine wpAny_bind (wpAny_pure (wpAny_throw ?_))
    exact hE _ _ (fun b o e => Heap.get?_push_of_some _ (Heap.get?_push_of_some _ e)) ⟨_, Heap.get?_push_size _ rfl, rfl⟩
  · obtain ⟨hh, o1, vs1, h1, d1, c1⟩ := hot
    refine raiseNew_hot ⟨hh, o1, vs1, Heap.get?_push_of_some _ (Heap.get?_push_of_some _ h1), d1, c1⟩ (Nat.ne_of_lt (Heap.lt_size (Heap.get?_push_of_some _ h1))) (Heap.get?_push_size _ rfl) rfl (by first | (simp; done) | (simp; omega) | (simp only [Array.size_append]; simp; omega)) ?_
    refine hE _ _ (fun b o e => ?_) ⟨_, Heap.get?_update_self _ (Heap.get?_push_size _ rfl) rfl, rfl⟩
    rw [Heap.get?_update_other _ _ (Nat.ne_of_gt (Heap.lt_size (Heap.get?_push_of_some _ e)))]
    exact Heap.get?_push_of_some _ (Heap.get?_push_of_some _ e)
theorem EndsOk.step {h h' : Heap} {it : Addr} {o : Obj} {vs : Array Value} (hot : EndsOk A h) (ho : h.get? it = some o) (hd : o.data = .fields vs) (hv : vs[2]? ≠ some .none) (k : ∀ b u, b ≠ it → h.get? b = some u → h'.get? b = some u) : EndsOk A h' := by
  rcases hot with hh | ⟨x1, hh, o1, vs1, h1, d1, c1⟩
  · exact .inl hh
  · refine .inr ⟨x1, hh, o1, vs1, k x1 o1 (fun z => hv ?_) h1, d1, c1⟩
    rw [z, ho] at h1
    cases h1
    rw [hd] at d1
    cases d1
    exact c1
/-- the end of a list's iterator -/
theorem next_list_endW {it l : Addr} {i : Nat} {items : Array Value} {Q : Option Value → Shared → Prop} (hh : EndsOk A s.heap) (hit : s.heap.IsListIter it l i) (hl : s.heap.IsList l items) (hx : items[i]? = none)
    (hQ : ∀ h', Heap.ExtBut it s.heap h' → Q none { s with heap := h' }) : wpAny (model prog w) A (pyNext (.ref it)) Q E s := by
  obtain ⟨o, ho, hc, hd⟩ := id hit
  obtain ⟨ol, hol, _, nl, hdl⟩ := hl
  unfold pyNext
  refine wpAny_bind (wpAny_attempt (wpAny_callSpecial?_slot (name := Str.ofString "__next__") hit.typeIs slot_listiter_next
    (wpAny_call_entry slot_listiter_next hit.typeIs entry_listiter_next ?_ (args_listiter_next _))))
  show wpAny _ _ (field (.ref it) 0 >>= _) _ _ s
  refine wpAny_bind (wpAny_field ho hd (x := .ref l) rfl ?_)
  show wpAny _ _ (if (Value.ref l == Value.none) = true then _ else _) _ _ s
  rw [if_neg (show ¬ ((Value.ref l == Value.none) = true) from Bool.false_ne_true)]
  show wpAny _ _ (field (.ref it) 1 >>= _) _ _ s
  refine wpAny_bind (wpAny_field ho hd (x := .int i 0) rfl ?_)
  show wpAny _ _ (seqItems? (.ref l) >>= _) _ _ s
  refine wpAny_bind (wpAny_seqItems hol hdl ?_)
  simp only [Int.toNat_natCast, hx]
  refine wpAny_bind (wpAny_rule (wpAny_bind (wpAny_setField ho hd (by simp) ?_)))
  refine stopW (EndsOk.step (A := A.in1) hh ho hd (by simp) fun b u hb e => (Heap.get?_update_ne _ _ _ _ hb).trans e) fun h' a k h => ?_
  refine wpAny_bind (wpAny_isInstance (T := "StopIteration") (b := true) h isSubtype_stop ?_)
  exact wpAny_pure (hQ _ fun b u hb e => k b u ((Heap.get?_update_ne _ _ _ _ hb).trans e))
end
end K9
end
section
set_option Elab.async false
set_option linter.all false
set_option maxRecDepth 100000
set_option maxHeartbeats 4000000
/-! Loops and comprehensions over lists, defs and calls, where an exception may be handled. -/
namespace K9
open PySem PySem.Spec PyProof.Rows L2 HotX
abbrev St := L2.St
/-! ### a list walked -/
structure TurnW (P : Program) (w : World) (K : PySem.W.Frag) (tg : Expr) (J : It) (fp : List Addr) (it : Addr) (tn : Nat → Heap → Prop) : Prop where
  obj : ∀ i h, tn i h → ∀ b ∈ fp, ∃ o, h.get? b = some o ∧ ∀ v, o.data ≠ .cell v
  keep : ∀ i h h', tn i h → (∀ b ∈ fp, ∀ o, h.get? b = some o → h'.get? b = some o) → tn i h'
  item : ∀ (X : Cx), X.prog = P → X.w = w → X.K = K → ∀ (i : Nat) (pins : List (Addr × Obj)) (s : Shared) (σ : St) (H : Hp) (E : Value → Shared → Prop), Inv X pins σ H s → (∀ b ∈ fp, FpOk X pins H b) → tn i s.heap → J.go i H →
    wpAny (model P w) X.A (pyNext (.ref it)) (fun r s1 => ∃ u, r = some u ∧
      wpAny (model P w) X.A (letOwnedTupleGo tg (.ref it) u) (fun _ s2 => ∃ x H', Inv X pins σ H' s2 ∧ RelV x u ∧ J.yld i H x H' ∧ tn (i + 1) s2.heap ∧ ∀ b ∈ fp, H' b = none) E s1) E s
  done : ∀ (X : Cx), X.prog = P → X.w = w → X.K = K → Warm X → ∀ (i : Nat) (pins : List (Addr × Obj)) (s : Shared) (σ : St) (H : Hp) (E : Value → Shared → Prop), Inv X pins σ H s → (∀ b ∈ fp, FpOk X pins H b) → tn i s.heap → J.stop i H →
    wpAny (model P w) X.A (pyNext (.ref it)) (fun r s1 => r = none ∧ Inv X pins σ H s1) E s
  self : ∀ (A : Around) (i : Nat) (s : Shared) (Q : Value → Shared → Prop) (E : Value → Shared → Prop), tn i s.heap → Q (.ref it) s → wpAny (model P w) A (pyIter (.ref it)) Q E s
theorem turn_listW {P : Program} {w : World} {K : PySem.W.Frag} {tg : Expr} (a it : Addr) : TurnW P w K tg (Itl K a) [it] it (fun i h => h.IsListIter it a i) where
  obj := fun i h st b hb => by
    have e : b = it := by simpa using hb
    subst e
    obtain ⟨o, e, c, d⟩ := st
    exact ⟨o, e, fun v z => by rw [d] at z; cases z⟩
  keep := fun i h h' st k => st.at fun o e => k it (by simp) o e
  item := by
    intro X hP hw hK i pins s σ H E I hf st hg
    subst hP hw hK
    obtain ⟨xs, x, hq, hx⟩ := hg
    obtain ⟨its, rv, p, hz⟩ := I.list hq
    obtain ⟨u, hu, ru⟩ := rv.get hx
    obtain ⟨f0, f1, f2, f3, f4, f5⟩ := hf it (by simp)
    refine wpAny_pyNext_list_item st p.isList (x := u) (by simpa using hu) fun h' st' sb => ?_
    have I1 : Inv X pins σ H { s with heap := h' } := I.turned (t' := s.toks) (fun b o hb e => (sb.2 b hb).trans e) f0 f1 f3 f4 f5
    obtain ⟨o, e, c, d⟩ := id st'
    exact ⟨u, rfl, go_of (s := { s with heap := h' }) e c d (by decide) ⟨x, H, I1, ru, ⟨rfl, fun ys hy => by rw [I.list_inj hy hq]; exact hx⟩, st', fun b hb => (hf b hb).1⟩⟩
  done := by
    intro X hP hw hK hc i pins s σ H E I hf st hg
    subst hP hw hK
    obtain ⟨xs, hq, hx⟩ := hg
    obtain ⟨its, rv, p, hz⟩ := I.list hq
    obtain ⟨f0, f1, f2, f3, f4, f5⟩ := hf it (by simp)
    have hl := rv.length
    exact next_list_endW (hc.at I) st p.isList (by simp; omega) fun h' eb => ⟨rfl, I.turned (t' := s.toks) (fun b o hb e => eb b o hb e) f0 f1 f3 f4 f5⟩
  self := fun _ _ _ _ _ st h => wpAny_pyIter_listiter st h
def PIEW (X : Cx) (pins : List (Addr × Obj)) (σ : St) (tg : Expr) (R : It → Hp → Prop) (itv : Value) (s2 : Shared) : Prop :=
  ∃ (it : Addr) (fp : List Addr) (tn : Nat → Heap → Prop) (J : It) (H' : Hp), itv = .ref it ∧ Inv X pins σ H' s2 ∧ TurnW X.prog X.w X.K tg J fp it tn ∧ tn 0 s2.heap ∧ (∀ b ∈ fp, FpOk X pins H' b) ∧ R J H'
structure PIW (X : Cx) (tg iter : Expr) (wi : TI) : Prop where
  run : ∀ (pins : List (Addr × Obj)) (s : Shared) (σ : St) (H : Hp) (R : It → Hp → Prop), Inv X pins σ H s → wi σ H R →
    wpAny (model X.prog X.w) X.A (eval iter X.env) (fun v s1 => wpAny (model X.prog X.w) X.A (pyIter v) (PIEW X pins σ tg R) X.xe s1) X.xe s
section
variable {X : Cx} {tg : Expr}
theorem pi_listW {l : Expr} {tl : TE} (hl : PE X l tl) : PIW X tg l (iList X.K tl) := by
  refine ⟨fun pins s σ H R I h => ?_⟩
  refine thn (hl.run pins s σ H _ I h) fun v s1 ⟨x, H1, I1, r1, q1⟩ => ?_
  obtain ⟨a, e, ⟨xs, hq⟩, q⟩ := q1
  subst e
  cases r1
  obtain ⟨its, rv, p, hz⟩ := I1.list hq
  refine wpAny_pyIter_list p.isList ?_
  refine ⟨s1.heap.objs.size, [s1.heap.objs.size], _, _, H1, rfl, I1.kept (t' := s1.toks) fun b o e => Heap.get?_push_of_some _ e, turn_listW a _, ⟨_, Heap.get?_push_size _ rfl, rfl, rfl⟩, fun b hb => ?_, q⟩
  have e : b = s1.heap.objs.size := by simpa using hb
  subst e
  exact I1.fpOk (Nat.le_refl _) (I1.hok.fresh (Nat.le_refl _))
theorem ps_forW {iter : Expr} {body : List Stmt} {wi : TI} {g : TG} {tb : TS} {pos : Pos} (hp : PassesOwn (model X.prog X.w) X.A X.env X.xe) (hc : Warm X) (hi : PIW X tg iter wi) (hg : PG X tg g) (hb : PSs X body tb)
    (hs : ∀ x, foldedSetIterable iter X.env x = pure x := by intro _; rfl) : PS X (.For tg iter body [] pos) (tFor wi g tb) := by
  refine ⟨fun pins s σ H D I h => ?_⟩
  refine wpAny_For (thn (hi.run pins s σ H _ I h) fun v s1 h1 => thn h1 fun itv s2 h2 => ?_) hs
  obtain ⟨it, fp, tn, J, H2, e, I2, T, st2, f2, W, ⟨m0, w0⟩, turn⟩ := h2
  subst e
  have stat : ∀ {H' : Hp}, (∀ b ∈ fp, H' b = none) → ∀ b ∈ fp, FpOk X pins H' b := fun hn b hb => ⟨hn b hb, (f2 b hb).2⟩
  refine codeAny_forLoop_any (fun n s' => ∃ i σ' H', Inv X pins σ' H' s' ∧ tn i s'.heap ∧ (∀ b ∈ fp, H' b = none) ∧ W i n σ' H') ?_ m0 ⟨0, σ, H2, I2, st2, fun b hb => (f2 b hb).1, w0⟩
  rintro n s3 ⟨i, σ3, H3, I3, st3, fr3, w3⟩
  rcases turn i n σ3 H3 w3 with ⟨stop, qn⟩ | ⟨go, N, hN, step⟩
  · refine wpAny_passesOwn hp (thn (T.done X rfl rfl rfl hc i pins s3 σ3 H3 X.xe I3 (stat fr3) st3 stop) fun r s4 ⟨hr, I4⟩ => ?_)
    subst hr
    exact wpAny_execs_nil ⟨σ3, H3, I4, qn⟩
  · refine wpAny_passesOwn hp (thn (T.item X rfl rfl rfl i pins s3 σ3 H3 X.xe I3 (stat fr3) st3 go) fun r s4 ⟨u, hr, h4⟩ => ?_)
    subst hr
    refine wpAny_passesOwn hp (thn h4 fun _ s5 ⟨x, H5, I5, r5, y5, st5, fr5⟩ => ?_)
    have I5' := I5.pinned (stat fr5) (T.obj _ _ st5)
    refine wpAny_passesOwn hp (thn (hg.run _ s5 σ3 H5 x u _ I5' r5 (step x H5 y5)) fun _ s6 ⟨σ6, H6, I6, q6⟩ => ?_)
    refine wpAny_passesOwn hp (thn (hb.run _ s6 σ6 H6 _ I6 q6) fun f s7 q7 => ?_)
    have again : ∀ {σ7 : St} {H7 : Hp}, Inv X (pins ++ pinsAt fp s5.heap) σ7 H7 s7 → N σ7 H7 → ∃ m, m < n ∧ ∃ i σ' H', Inv X pins σ' H' s7 ∧ tn i s7.heap ∧ (∀ b ∈ fp, H' b = none) ∧ W i m σ' H' := fun {σ7 H7} I7 n7 => by
      obtain ⟨m', hm, w7⟩ := hN σ7 H7 n7
      refine ⟨m', hm, i + 1, σ7, H7, I7.unpinned, T.keep _ _ _ st5 fun b hb o e => (I7.pin (b, o) (List.mem_append_right _ (List.mem_append_right _ (mem_pinsAt hb e)))).1, fun b hb => ?_, w7⟩
      obtain ⟨o, e, d⟩ := T.obj _ _ st5 b hb
      exact (I7.pin (b, o) (List.mem_append_right _ (List.mem_append_right _ (mem_pinsAt hb e)))).2.1
    cases f with
    | next => obtain ⟨σ7, H7, I7, n7⟩ := q7; exact again I7 n7
    | cont => obtain ⟨σ7, H7, I7, n7⟩ := q7; exact again I7 n7
    | brk => obtain ⟨σ7, H7, I7, q7⟩ := q7; exact ⟨σ7, H7, I7.unpinned, q7⟩
    | ret v => obtain ⟨x7, σ7, H7, I7, r7, q7⟩ := q7; exact ⟨x7, σ7, H7, I7.unpinned, r7, q7⟩
end
/-! ### a comprehension's block keeps the context's pins -/
abbrev blkW (X : Cx) (s : Shared) (H : Hp) (scope : Scope) (cenv : Env) (fp : List Addr) : Cx := { X.blk s H scope cenv fp with pn := X.pn }
theorem blkW_warm {X : Cx} {s : Shared} {H : Hp} {scope : Scope} {cenv : Env} {fp : List Addr} (c : Warm X) : Warm (blkW X s H scope cenv fp) := by
  rcases c with c | ⟨p, h, m⟩
  · exact .inl c
  · exact .inr ⟨p, h, m⟩
theorem blkW_start {X : Cx} {pins : List (Addr × Obj)} {σ : St} {H : Hp} {s : Shared} {scope : Scope} {own : List (Str × Nat)} {fp : List Addr} (I : Inv X pins σ H s) (ok : BlkOk X.N X.env.scope scope own) (hN : X.N.Nodup) (hfp : ∀ b ∈ fp, FpOk X pins H b ∧ b < s.heap.objs.size) :
    Inv (blkW X s H scope (compEnvC scope (cellsFrom (s.heap.objs.size + 1) scope.names (cloFrom X.env.cells scope.names [])) s.heap.objs.size X.env) fp) [] (wipe σ (own.map (·.2))) H { s with heap := pushCells (s.heap.push { cls := .type "dict", data := .dict #[] }) scope.names } := by
  have J := block_start I ok hN hfp
  refine ⟨⟨J.ok.mod, J.ok.kind, J.ok.glob, J.ok.blt, J.ok.above, J.ok.inj, J.ok.has, J.ok.cab, J.ok.hd, J.ok.frames, J.ok.stk, J.ok.exf, J.ok.bs, J.ok.bsz, J.ok.noex, J.ok.exfs, J.ok.funs, J.ok.frf⟩, J.os, J.bare, J.base, J.loc, J.cell, J.free, J.freeC, fun p hp => ?_, J.hok, J.len⟩
  have hp' : p ∈ X.pn := by simpa using (show p ∈ X.pn ++ [] from hp)
  obtain ⟨e, n, nl, nf, d⟩ := I.pin p (List.mem_append_left _ hp')
  refine ⟨pushCells_keeps _ _ _ _ (Heap.get?_push_of_some _ e), n, Nat.ne_of_lt (Heap.lt_size e), fun hm => ?_, d⟩
  rcases List.mem_cons.mp (I.stkSub p.1 hm) with z | z
  · exact nl z
  · exact nf z
section
variable {X : Cx}
theorem lc_coreW {pins : List (Addr × Obj)} {s : Shared} {σ : St} {H : Hp} {Q : VK} {elt tg iter : Expr} {ifs : List Expr} {scope : Scope} {own : List (Str × Nat)} {pos pos' : Pos} {wi : TI} {g : TG} {tt : TT} {te : TE} {use : Option (Value → Sem Unit)} {Qf : Value → Shared → Prop}
    (hc : Warm X) (hN : X.N.Nodup) (I : Inv X pins σ H s) (hi : PIW X tg iter wi) (ok : BlkOk X.N X.env.scope scope own)
    (hg : ∀ (s : Shared) (H : Hp) (C : Addr) (cl : List (Str × Addr)) (fp : List Addr), PG (blkW X s H scope (compEnvC scope cl C X.env) fp) tg g) (ht : ∀ (s : Shared) (H : Hp) (C : Addr) (cl : List (Str × Addr)) (fp : List Addr), PTs (blkW X s H scope (compEnvC scope cl C X.env) fp) ifs tt)
    (he : ∀ (s : Shared) (H : Hp) (C : Addr) (cl : List (Str × Addr)) (fp : List Addr), PE (blkW X s H scope (compEnvC scope cl C X.env) fp) elt te) (hs : ∀ x, foldedSetIterable iter X.env x = pure x)
    (h : tLc wi g tt te (own.map (·.2)) σ H Q)
    (hRR : ∀ D C s' m H', Inv X pins σ H' s' → Q (.ref D) H' → s'.heap.Ns C m → FpOk X pins H' C → compPost (model X.prog X.w) X.A X.xe use Qf (.ref D) C (.ok .next) s') :
    wpAny (model X.prog X.w) X.A (comprehension (.ListComp elt [⟨tg, iter, ifs, 0⟩] scope pos) scope X.env pos' (newList []) false (eval iter X.env) use) Qf X.xe s := by
  have hfree : ∀ y ∈ scope.names, y.2 = .free → ∃ c, X.env.cells.lookup y.1 = some c := fun y hy e => by
    rcases ok.free y hy e with k | k
    · exact I.ok.has _ (.inl k)
    · exact I.ok.has _ (.inr k)
  refine wpAny_comprehension_free (use := use) rfl hs (closure_ok hfree) ok.kind (fun y hy e => by rw [ok.uniq y hy, e])
    (thn (hi.run pins s σ H _ I h) fun xv s1 hx => thn hx fun itv s2 h2 => ?_)
  obtain ⟨it, fp, tn, J, H2, e, I2, T, st2, f2, q⟩ := h2
  subst e
  refine wpAny_newObj_type (newEnv_comp ?_) (by show 0 ≤ sizeLine; decide)
  generalize hD : s2.heap.objs.size = D
  have hDn : H2 D = none := I2.hok.fresh (Nat.le_of_eq hD)
  obtain ⟨W, ⟨m0, w0⟩, turn⟩ := q D hDn
  generalize hs3 : ({ s2 with heap := s2.heap.push { cls := .type "list", data := .seq ([] : List Value).toArray } } : Shared) = s3
  have I3 : Inv X pins σ (upd H2 D (.lst [])) s3 := by
    rw [← hs3]
    refine I2.laid (t' := s2.toks) (fun b o e => Heap.get?_push_of_some _ e) (Nat.le_of_eq hD) ⟨Nat.zero_le _, [], 0, .nil, ?_⟩
    rw [← hD]
    exact Heap.get?_push_size _ rfl
  have h3 : s3.heap = s2.heap.push { cls := .type "list", data := .seq ([] : List Value).toArray } := by rw [← hs3]
  have sz : ∀ b ∈ fp, b < s2.heap.objs.size := fun b hb => by
    obtain ⟨o, e, _⟩ := T.obj _ _ st2 b hb
    exact Heap.lt_size e
  have f3 : ∀ b ∈ fp, FpOk X pins (upd H2 D (.lst [])) b ∧ b < s3.heap.objs.size := fun b hb => by
    have hlt := sz b hb
    refine ⟨⟨?_, (f2 b hb).2⟩, by rw [h3, Heap.size_push]; exact Nat.lt_succ_of_lt hlt⟩
    rw [upd_ne (by rw [← hD]; exact Nat.ne_of_lt hlt)]
    exact (f2 b hb).1
  have st3 : tn 0 s3.heap := T.keep _ _ _ st2 fun b _ o e => by rw [h3]; exact Heap.get?_push_of_some _ e
  have I4 := blkW_start I3 ok hN f3
  have pg := hg s3 (upd H2 D (.lst [])) s3.heap.objs.size (cellsFrom (s3.heap.objs.size + 1) scope.names (cloFrom X.env.cells scope.names [])) fp
  have pt := ht s3 (upd H2 D (.lst [])) s3.heap.objs.size (cellsFrom (s3.heap.objs.size + 1) scope.names (cloFrom X.env.cells scope.names [])) fp
  have pe := he s3 (upd H2 D (.lst [])) s3.heap.objs.size (cellsFrom (s3.heap.objs.size + 1) scope.names (cloFrom X.env.cells scope.names [])) fp
  show codeAny _ _ (.compStart (.ListComp elt [⟨tg, iter, ifs, 0⟩] scope pos) 0 (.ref it) (.ref D) (compEnvC scope (cellsFrom (s3.heap.objs.size + 1) scope.names (cloFrom X.env.cells scope.names [])) s3.heap.objs.size X.env)) (compPost (model X.prog X.w) X.A X.xe use Qf (.ref D) s3.heap.objs.size) { s3 with heap := pushCells (s3.heap.push { cls := .type "dict", data := .dict #[] }) scope.names }
  have nfp : ∀ b ∈ fp, (upd H2 D (.lst [])) b = none := fun b hb => (f3 b hb).1.1
  generalize hce : compEnvC scope (cellsFrom (s3.heap.objs.size + 1) scope.names (cloFrom X.env.cells scope.names [])) s3.heap.objs.size X.env = ce at I4 pg pt pe ⊢
  have cL : ce.locals = s3.heap.objs.size := by subst hce; rfl
  generalize hH3 : upd H2 D (.lst []) = H3 at I3 I4 pg pt pe w0 nfp f3
  generalize hs4 : ({ s3 with heap := pushCells (s3.heap.push { cls := .type "dict", data := .dict #[] }) scope.names } : Shared) = s4 at I4 ⊢
  have st4 : tn 0 s4.heap := T.keep _ _ _ st3 fun b _ o e => by rw [← hs4]; exact pushCells_keeps _ _ _ _ (Heap.get?_push_of_some _ e)
  -- the block's own objects are none of the context's pins
  have pinne : ∀ b ∈ fp, ∀ p ∈ X.pn, p.1 ≠ b := fun b hb p hp => (f3 b hb).1.2.2.2.2.2 p (List.mem_append_left _ hp)
  have stat : ∀ {σ' : St} {H' : Hp} {s' : Shared}, Inv (blkW X s3 H3 scope ce fp) [] σ' H' s' → (∀ b ∈ fp, H' b = none) → ∀ b ∈ fp, FpOk (blkW X s3 H3 scope ce fp) [] H' b := fun {σ' H' s'} I' hn b hb =>
    ⟨hn b hb, (I'.ok.exf b hb).1, I'.ok.exfs b hb, .inl hb, fun x c e => (I'.ok.exf b hb).2 x c e, fun p hp => pinne b hb p (by simpa using (show p ∈ X.pn ++ [] from hp))⟩
  have loop : codeAny (model X.prog X.w) X.A (.compLoop (.ListComp elt [⟨tg, iter, ifs, 0⟩] scope pos) 0 (.ref it) (.ref D) ce) (compPost (model X.prog X.w) X.A X.xe use Qf (.ref D) s3.heap.objs.size) s4 := by
    refine compLoop_any (fun n s' => ∃ i H', Inv (blkW X s3 H3 scope ce fp) [] (wipe σ (own.map (·.2))) H' s' ∧ tn i s'.heap ∧ (∀ b ∈ fp, H' b = none) ∧ W i n H') ?_ m0 ⟨0, H3, I4, st4, nfp, w0⟩
    rintro n s5 ⟨i, H5, I5, st5, n5, w5⟩
    rcases turn i n H5 w5 with ⟨stop, qq⟩ | ⟨go, Nx, hNx, step⟩
    · have td := T.done (blkW X s3 H3 scope ce fp) rfl rfl rfl (blkW_warm hc) i [] s5 _ H5 (fun _ _ => False) I5 (stat I5 n5) st5 stop
      refine thnF td fun r s6 ⟨hr, I6⟩ => ?_
      subst hr
      have I7 : Inv X pins σ H5 s6 := I3.call' (ch := fp) I6.os I6.base I6.hok I6.bare fun b hb => ⟨(f3 b hb).1.2.2.2.1, (f3 b hb).1.2.1, (f3 b hb).1.2.2.2.2.1, (f3 b hb).1.2.2.2.2.2⟩
      have nC : H5 s3.heap.objs.size = none := by
        have z : H5 ce.locals = none := I6.free
        rw [cL] at z
        exact z
      obtain ⟨m, hn, _⟩ := I6.loc
      have hn : s6.heap.Ns ce.locals m := hn
      rw [cL] at hn
      exact hRR D s3.heap.objs.size s6 m H5 I7 qq hn (I3.fpOk (Nat.le_refl _) nC)
    · have ti := T.item (blkW X s3 H3 scope ce fp) rfl rfl rfl i [] s5 _ H5 (fun _ _ => False) I5 (stat I5 n5) st5 go
      refine thnF ti fun r s6 ⟨u, hr, h6⟩ => ?_
      subst hr
      refine thnF h6 fun _ s7 ⟨x, H7, I7, r7, y7, st7, n7⟩ => ?_
      have I7' := I7.pinned (stat I7 n7) (T.obj _ _ st7)
      refine thnF (pg.run _ s7 _ H7 x u _ I7' r7 (step x H7 y7)) fun _ s8 ⟨σ8, H8, I8, hw8, q8⟩ => ?_
      refine thnF (pt.run _ s8 σ8 H8 _ I8 q8) fun b s9 ⟨H9, I9, q9⟩ => ?_
      have fin : ∀ {s' : Shared} {H' : Hp}, Inv (blkW X s3 H3 scope ce fp) ([] ++ pinsAt fp s7.heap) σ8 H' s' → Nx H' → ∃ m, m < n ∧ ∃ i H', Inv (blkW X s3 H3 scope ce fp) [] (wipe σ (own.map (·.2))) H' s' ∧ tn i s'.heap ∧ (∀ b ∈ fp, H' b = none) ∧ W i m H' := fun {s' H'} I' nx => by
        obtain ⟨m', hm, w'⟩ := hNx H' nx
        have pin' : ∀ b ∈ fp, ∀ o, s7.heap.get? b = some o → s'.heap.get? b = some o ∧ H' b = none := fun b hb o e =>
          let z := I'.pin (b, o) (List.mem_append_right _ (List.mem_append_right _ (mem_pinsAt hb e)))
          ⟨z.1, z.2.1⟩
        have hl : (wipe σ (own.map (·.2))).length = σ8.length := by rw [← hw8, wipe_length]
        refine ⟨m', hm, i + 1, H', (I'.unpinned (pins := [])).weak hl (fun j v e => ?_), T.keep _ _ _ st7 fun b hb o e => (pin' b hb o e).1, fun b hb => ?_, w'⟩
        · rw [← hw8] at e
          exact (wipe_some e).1
        · obtain ⟨o, e, _⟩ := T.obj _ _ st7 b hb
          exact (pin' b hb o e).2
      cases b with
      | false =>
        simp only [Bool.false_eq_true, if_false] at q9 ⊢
        exact fin I9 q9
      | true =>
        simp only [if_true] at q9 ⊢
        refine thnF (pe.run _ s9 σ8 H9 _ I9 q9) fun z s10 ⟨yv, H10, I10, r10, acc, hD10, hz10, nx⟩ => ?_
        exact app_ok (X := blkW X s3 H3 scope ce fp) I10 hD10 hz10 r10 fun s11 I11 => fin I11 nx
  exact codeAny_compStart_list loop (T.self X.A 0 _ _ _ st4 loop)
theorem ps_setLcW {i : Nat} {y : Str} {py : Pos} {elt tg iter : Expr} {ifs : List Expr} {scope : Scope} {own : List (Str × Nat)} {pos spos : Pos} {wi : TI} {g : TG} {tt : TT} {te : TE} (hc : Warm X) (hN : X.N.Nodup) (hy : X.N[i]? = some y) (hyl : X.env.scope.names.lookup y = some .local)
    (hsw : swapsWith (.ListComp elt [⟨tg, iter, ifs, 0⟩] scope pos) (some (.Name y py)) spos.line X.env = pure true) (hi : PIW X tg iter wi) (ok : BlkOk X.N X.env.scope scope own)
    (hg : ∀ (s : Shared) (H : Hp) (C : Addr) (cl : List (Str × Addr)) (fp : List Addr), PG (blkW X s H scope (compEnvC scope cl C X.env) fp) tg g) (ht : ∀ (s : Shared) (H : Hp) (C : Addr) (cl : List (Str × Addr)) (fp : List Addr), PTs (blkW X s H scope (compEnvC scope cl C X.env) fp) ifs tt)
    (he : ∀ (s : Shared) (H : Hp) (C : Addr) (cl : List (Str × Addr)) (fp : List Addr), PE (blkW X s H scope (compEnvC scope cl C X.env) fp) elt te) (hs : ∀ x, foldedSetIterable iter X.env x = pure x := by intro _; rfl) :
    PS X (.Assign [.Name y py] (.ListComp elt [⟨tg, iter, ifs, 0⟩] scope pos) spos) (tAsg (tLc wi g tt te (own.map (·.2))) (gName i)) := by
  refine ⟨fun pins s σ H D I h => ?_⟩
  rw [exec_Assign_Name_used _ _ _ _ hsw]
  refine wpAny_bind (wpAny_standAt (wpAny_bind ?_))
  show wpAny _ X.A (do let _ ← comprehension (.ListComp elt [⟨tg, iter, ifs, 0⟩] scope pos) scope X.env (firstIterPos [⟨tg, iter, ifs, 0⟩] pos) (newList []) false (eval iter X.env) (some (assign (.Name y py) X.env))) _ _ s
  have h : tLc wi g tt te (own.map (·.2)) σ H (fun x H1 => gName i x σ H1 D.nx) := h
  refine wpAny_bind (thn (lc_coreW (Qf := fun _ s' => SP X pins D .next s') hc hN I hi ok hg ht he hs h fun L C s' m H' I' q hn f => ?_) fun _ s' hq => wpAny_pure (wpAny_pure hq))
  show wpAny _ _ (assign (.Name y py) X.env (.ref L)) _ _ _
  refine wpAny_assign_Name (store_ok2 (v := V.ref L) I' hN hy (.inl hyl) rfl (fun s2 I2 ⟨a, sb, ha⟩ => ?_) (.inr hyl))
  obtain ⟨f0, f1, f2, f3, f4, f5⟩ := f
  have haC : C ≠ a := by
    rcases ha with z | z
    · rw [z]; exact f1
    · exact fun e => f4 y a z e.symm
  refine ⟨m, hn.sameBut sb haC, fun h3 sb3 => ?_⟩
  exact ⟨_, H', I2.turned (t' := s2.toks) (fun b o hb e => (sb3.2 b hb).trans e) f0 f1 f3 f4 f5, q⟩
end
end K9
end
section
set_option Elab.async false
set_option linter.all false
set_option maxRecDepth 100000
set_option maxHeartbeats 4000000
/-! Defs, methods and their calls: one judgement for each. -/
namespace K9
open PySem PySem.Spec PyProof.Rows L2 HotX
abbrev E0S : St → XK := fun _ _ _ _ => False
/-- the function at f may be called here by its promise -/
def Runs (X : Cx) (f : Addr) (sp : Sp) (E : St → XK) : Prop := ∀ (pins : List (Addr × Obj)) (s : Shared) (σ : St) (H : Hp) (Q : VK) (us : List Value) (vs : List V), Inv X pins σ H s → Vals vs us → sp vs H Q (E σ) →
  wpAny (model X.prog X.w) X.A (call (.ref f) us) (EP X pins σ Q) X.xe s
theorem passN0 {X : Cx} : ∀ σ, PassesAt (L2N.CX X.prog X.w) X σ (E0S σ) := fun _ _ _ _ _ _ _ h => by
  obtain ⟨_, _, _, _, _, _, _, _, _, _, _, _, z⟩ := h
  exact z.elim
section
variable {P : Program} {w : World} {K : PySem.W.Frag} {mg : Str → Option Value} {base : Heap}
theorem lift0 {k : Nat} {f : Addr} {fd : FuncData} {ps : List Str} {sp : Sp} (F : FnOk P w K mg base CX0 k f fd ps sp) : FnOk P w K mg base (L2N.CX P w) k f fd ps sp :=
  ⟨F.len, fun A outer s H args us vs Q E hr e0 hb r h => codeAny_mono (F.run A outer s H args us vs Q E hr e0 hb r h) fun r s' hq => by
    cases r with
    | error e => exact False.elim hq
    | ok fl =>
      cases fl with
      | ret u => exact hq
      | next => exact hq
      | brk => exact hq
      | cont => exact hq⟩
/-- promised by a def with no exception handled; whether or not one is -/
structure Okd (P : Program) (w : World) (K : PySem.W.Frag) (mg : Str → Option Value) (base : Heap) (k : Nat) (f : Addr) (sp : Sp) : Prop where
  ex : ∃ fd ps, FnOk P w K mg base (L2N.CX P w) k f fd ps sp ∧ Binds K fd ps []
structure OkW (P : Program) (w : World) (K : PySem.W.Frag) (mg : Str → Option Value) (base : Heap) (k : Nat) (f : Addr) (sp : Sp) : Prop where
  ex : ∃ fd ps, FnOk P w K mg base CX0 k f fd ps sp ∧ L2H.FnH P w K mg base CX0 k f fd ps sp ∧ Binds K fd ps []
theorem OkW.cold {k : Nat} {f : Addr} {sp : Sp} (h : OkW P w K mg base k f sp) : Okd P w K mg base k f sp := by
  obtain ⟨fd, ps, h1, _, h3⟩ := h.ex
  exact ⟨fd, ps, lift0 h1, h3⟩
end
section
variable {X : Cx} {k : Nat} {f C : Addr} {sp : Sp} {E : St → XK} {x m : Str} {q pos apos : Pos} {e o : Expr} {es : List Expr} {ta : TE} {t : TA}
theorem Okd.runs (h : Okd X.prog X.w X.K X.mg X.base k f sp) (hr : Room k X.A) (hx : ∀ σ, PassesAt (L2N.CX X.prog X.w) X σ (E σ)) : Runs X f sp E := by
  obtain ⟨fd, ps, F, hb⟩ := h.ex
  intro pins s σ H Q us vs I r hq
  exact run_fnS F hr hb (hx σ) I r hq
theorem OkW.runs (h : OkW X.prog X.w X.K X.mg X.base k f sp) (hr : L2H.RoomH k X.A) (hw : Warm X) : Runs X f sp E0S := by
  obtain ⟨fd, ps, F, G, hb⟩ := h.ex
  intro pins s σ H Q us vs I r hq
  rcases hw with c | c
  · exact run_fnS F ⟨I.ok.hd c, hr.dp, hr.un⟩ hb (fun _ _ _ _ _ _ z => z.elim) I r hq
  · exact L2H.run_fnH (E := E0S) G hr c hb (fun _ _ _ _ _ _ z => z.elim) I r hq
/-- f(e, ..) -/
theorem pe_run (h : Runs X f sp E) (hm : X.mg x = some (.ref f)) (hk : PySem.W.keepIn X.K (.ref f) = true) (ha : PA X (e :: es) t) (hg : Gl X x := by rfl) (hdb : (x == ("__debug__" : Str)) = false := by decide)
    (he : starEach (e :: es) X.env = (false, eval e X.env) :: starEach es X.env := by rfl) (hpl : (backTo pos (starEach es X.env)).any (·.1) = false := by rfl) :
    PE X (.Call (.Name x q) (e :: es) [] pos) (tCallS sp E t) := by
  refine ⟨fun pins s σ H Q I h' => ?_⟩
  refine wpAny_Call_Name_kw (ld_glob I hg hm ?_ hdb)
  refine PySem.W.callWith_K (h₀ := X.base) I.ok.mod.kin hk (thn (ha.run pos pins s σ H _ I h') fun us s1 ⟨vs, H1, I1, r, q⟩ => ⟨I1.kIn, ?_⟩) he hpl
  exact h pins s1 σ H1 Q us vs I1 r q
/-- o.m(e, ..), o.m() -/
theorem pe_mrun {pl : Sem Bool} (he : PE X o ta) (c : Cls X.K C) (hm : Meth X.K C m f) (h : Runs X f sp E) (ha : PA X (e :: es) t)
    (hst : starEach (e :: es) X.env = (false, eval e X.env) :: starEach es X.env := by rfl) (hpl : (backTo pos (starEach es X.env)).any (·.1) = false := by rfl)
    (ht : eval (.Call (.Attribute o m apos) (e :: es) [] pos) X.env = (do
      let ov ← eval o X.env
      standAt apos.atName
      let (f, first) ← holding [ov] (getMethod ov m pl)
      callWith pos f first (backTo pos (starEach (e :: es) X.env)) (backToKw pos (keywordEach [] X.env))) := by rfl) :
    PE X (.Call (.Attribute o m apos) (e :: es) [] pos) (L2H.tMethH C m sp E ta t) := by
  refine ⟨fun pins s σ H Q I h' => ?_⟩
  refine PySem.W.methodCall_KW (pl := pl) (thn (he.run pins s σ H _ I h') fun u s1 ⟨x, H1, I1, rx, a, dx, fs, ex, ea, l, q⟩ => ?_) ht
  subst ex
  obtain rfl : u = Value.ref a := rx
  refine getmeth_ok I1 ea c hm l ?_
  refine PySem.W.callWith_K (first := [.ref a]) (h₀ := X.base) I.ok.mod.kin hm.kp (thn (ha.run pos pins s1 σ H1 _ I1 q) fun us s2 ⟨vs, H2, I2, r, q2⟩ => ⟨I2.kIn, ?_⟩) hst hpl
  exact h pins s2 σ H2 Q (.ref a :: us) (.ref a :: vs) I2 (.cons rfl r) q2
theorem pe_mrun0 {pl : Sem Bool} (he : PE X o ta) (c : Cls X.K C) (hm : Meth X.K C m f) (h : Runs X f sp E)
    (ht : eval (.Call (.Attribute o m apos) [] [] pos) X.env = (do
      let ov ← eval o X.env
      standAt apos.atName
      let (f, first) ← holding [ov] (getMethod ov m pl)
      callWith pos f first (backTo pos (starEach [] X.env)) (backToKw pos (keywordEach [] X.env))) := by rfl) :
    PE X (.Call (.Attribute o m apos) [] [] pos) (L2H.tMethH C m sp E ta tNil) := by
  refine ⟨fun pins s σ H Q I h' => ?_⟩
  refine PySem.W.methodCall_KW (pl := pl) (thn (he.run pins s σ H _ I h') fun u s1 ⟨x, H1, I1, rx, a, dx, fs, ex, ea, l, q⟩ => ?_) ht
  subst ex
  obtain rfl : u = Value.ref a := rx
  refine getmeth_ok I1 ea c hm l ?_
  exact PySem.W.callWith_K0 (first := [.ref a]) I1.kIn hm.kp (h pins s1 σ H1 Q [.ref a] [.ref a] I1 (.cons rfl .nil) q)
end
/-! ### a def of the text keeps its promise -/
section
variable {P : Program} {w : World} {K : PySem.W.Frag} {mg : Str → Option Value} {base : Heap}
abbrev BindH (x qual : Str) (st : Stmt) (ps : List Str) : Prop := ∀ (kV doc pm : Value) (an : Option Addr) (cdv ct : Value) (us : List Value), us.length = ps.length → bindArgs (PySem.W.fnOf x qual (defArgs st) (defBody st) (defScope st) .none kV doc pm an cdv ct) ⟨us, []⟩ = pure (ps.zip us)
/-- no exception leaves it -/
theorem okN {x qual : Str} {st : Stmt} {f : Addr} {N ps : List Str} {k : Nat} {sp : Sp} (F : ∃ fd, Fun K x qual st f fd) (S : FnScope N ps (defScope st)) (hb : BindH x qual st ps) (len : ∀ vs H Q E, sp vs H Q E → vs.length = ps.length)
    (hbody : ∀ (cdv : Value) (A : Around) (outer : List Env) (s : Shared) (H : Hp) (vs : List V) (Q : VK) (E : XK), Room k (A.deeper (envOfC qual (defScope st) s.heap.objs.size f cdv)) → sp vs H Q E →
      ∃ t, PSs (cxOf (L2N.CX P w) P w K mg base N qual (defScope st) f cdv A outer s H E).nox (defBody st) t ∧ t { nx := fun _ H' => Q .non H', rt := Q } (start N vs) H) : Okd P w K mg base (k + 1) f sp := by
  obtain ⟨fd, F⟩ := F
  refine ⟨fd, ps, ?_, F.binds hb⟩
  obtain ⟨oc, od, kV, doc, pm, an, cdv, ct, osl, rfl, lk, hcd⟩ := F.ex
  refine fn_of lk hcd S len fun A outer s H vs Q E hr hsp => ?_
  obtain ⟨t, h, q⟩ := hbody cdv A outer s H vs Q E hr hsp
  exact ⟨t, h.nox, q⟩
/-- it may raise -/
theorem okR {x qual : Str} {st : Stmt} {f : Addr} {N ps : List Str} {k : Nat} {sp : Sp} (F : ∃ fd, Fun K x qual st f fd) (S : FnScope N ps (defScope st)) (hb : BindH x qual st ps) (len : ∀ vs H Q E, sp vs H Q E → vs.length = ps.length)
    (hbody : ∀ (cdv : Value) (A : Around) (outer : List Env) (s : Shared) (H : Hp) (vs : List V) (Q : VK) (E : XK), Room k (A.deeper (envOfC qual (defScope st) s.heap.objs.size f cdv)) → sp vs H Q E →
      ∃ t, PSs (cxOf (L2N.CX P w) P w K mg base N qual (defScope st) f cdv A outer s H E) (defBody st) t ∧ t { nx := fun _ H' => Q .non H', rt := Q } (start N vs) H) : Okd P w K mg base (k + 1) f sp := by
  obtain ⟨fd, F⟩ := F
  refine ⟨fd, ps, ?_, F.binds hb⟩
  obtain ⟨oc, od, kV, doc, pm, an, cdv, ct, osl, rfl, lk, hcd⟩ := F.ex
  exact fn_of lk hcd S len fun A outer s H vs Q E hr hsp => hbody cdv A outer s H vs Q E hr hsp
/-- its body's context, whether an exception is handled or not -/
abbrev cxW (P : Program) (w : World) (K : PySem.W.Frag) (mg : Str → Option Value) (base : Heap) (N : List Str) (qual : Str) (scope : Scope) (f : Addr) (cd : Value) (A : Around) (outer : List Env) (s : Shared) (H : Hp) (c : Bool) (pn : List (Addr × Obj)) : Cx :=
  { (cxOf CX0 P w K mg base N qual scope f cd A outer s H E0).nox with calm := c, pn := pn }
theorem okW {x qual : Str} {st : Stmt} {f : Addr} {N ps : List Str} {k : Nat} {sp : Sp} (F : ∃ fd, Fun K x qual st f fd) (S : FnScope N ps (defScope st)) (hb : BindH x qual st ps) (len : ∀ vs H Q E, sp vs H Q E → vs.length = ps.length)
    (hbody : ∀ (cdv : Value) (A : Around) (outer : List Env) (s : Shared) (H : Hp) (vs : List V) (Q : VK) (E : XK) (c : Bool) (pn : List (Addr × Obj)), L2H.RoomH k (A.deeper (envOfC qual (defScope st) s.heap.objs.size f cdv)) →
      Warm (cxW P w K mg base N qual (defScope st) f cdv A outer s H c pn) → sp vs H Q E →
      ∃ t, PSs (cxW P w K mg base N qual (defScope st) f cdv A outer s H c pn) (defBody st) t ∧ t { nx := fun _ H' => Q .non H', rt := Q } (start N vs) H) : OkW P w K mg base (k + 1) f sp := by
  obtain ⟨fd, F⟩ := F
  refine ⟨fd, ps, ?_, ?_, F.binds hb⟩
  · obtain ⟨oc, od, kV, doc, pm, an, cdv, ct, osl, rfl, lk, hcd⟩ := F.ex
    refine fn_of lk hcd S len fun A outer s H vs Q E hr hsp => ?_
    obtain ⟨t, h, q⟩ := hbody cdv A outer s H vs Q E true [] (L2H.roomH_of hr) (.inl rfl) hsp
    have h' : PSs (cxOf CX0 P w K mg base N qual (defScope st) f cdv A outer s H E).nox (defBody st) t := h
    exact ⟨t, h'.nox, q⟩
  · obtain ⟨oc, od, kV, doc, pm, an, cdv, ct, osl, rfl, lk, hcd⟩ := F.ex
    refine L2H.fn_ofH lk hcd S len fun A outer s H vs Q E p hot hr hsp => ?_
    obtain ⟨t, h, q⟩ := hbody cdv A outer s H vs Q E false [p] hr (.inr ⟨p, ⟨hot.1, hot.2⟩, List.mem_cons_self⟩) hsp
    have h' : PSs (L2H.cxH CX0 P w K mg base N qual (defScope st) f cdv A outer s H E p).nox (defBody st) t := h
    exact ⟨t, h'.nox, q⟩
end
end K9
end
section
set_option Elab.async false
set_option linter.all false
set_option maxRecDepth 100000
set_option maxHeartbeats 4000000
/-! sorted(d) of a dict with whole numbers as keys, any length, where an exception may be handled. -/
namespace K9
open PySem PySem.Spec PyProof.Rows L2 HotX
section
variable {prog : Program} {w : World} {κ : Type} [DecidableEq κ] {knd : PySem.KeyKind prog w κ} {A : Around} {E : Value → Shared → Prop} {s : Shared}
theorem next_key_endW {it d : Addr} {i ep : Nat} {kvs : List (κ × Value)} {Q : Option Value → Shared → Prop} (hh : EndsOk A s.heap) (hit : s.heap.IsKeyIter it d i kvs.length ep)
    (hm : s.heap.DictAt knd d kvs ep) (hx : kvs[i]? = none) (hQ : ∀ h', Heap.ExtBut it s.heap h' → Q none { s with heap := h' }) : wpAny (model prog w) A (pyNext (.ref it)) Q E s := by
  obtain ⟨o, ho, hc, hd⟩ := id hit
  obtain ⟨od, es, hod, hcd, hdd, hk, hp, hn⟩ := id hm
  unfold pyNext
  refine wpAny_bind (wpAny_attempt (wpAny_callSpecial?_slot (name := Str.ofString "__next__") hit.typeIs F.slot_dict_keyiterator_next
    (wpAny_call_entry F.slot_dict_keyiterator_next hit.typeIs F.entry_dict_keyiterator_next ?_ (F.args_dict_keyiterator_next_1 _))))
  refine wpAny_bind (wpAny_pure ?_)
  refine wpAny_bind ?_
  refine wpAny_bind ?_
  first | refine wpAny_bind (wpAny_typeNameOfWhole_keyiter hit.typeIs (wpAny_pure ?_)) | refine wpAny_bind (wpAny_typeNameOf_keyiter hit.typeIs (wpAny_pure ?_))
  refine wpAny_bind (wpAny_fieldsOf ho hd ?_)
  have hown : Builtin.Dict_items.ownsTuple "dict_keyiterator" = false := by decide
  simp only [hown, Bool.false_eq_true, if_false]
  show wpAny _ _ (if (Value.ref d == Value.none) = true then _ else _) _ _ s
  rw [if_neg (show ¬ ((Value.ref d == Value.none) = true) from Bool.false_ne_true)]
  refine wpAny_bind (wpAny_pure ?_)
  refine wpAny_bind (wpAny_dictEntries hod hdd ?_)
  have hsz : es.size = kvs.length := by rw [← hp.length]; simp
  rw [if_neg (by rw [hsz]; simp)]
  refine wpAny_bind (wpAny_pure ?_)
  refine wpAny_bind (wpAny_dictEpoch hod hdd ?_)
  rw [if_neg (by simp)]
  refine wpAny_pure ?_
  have hge : es.size ≤ i := by rw [hsz]; simpa using hx
  simp only [show ¬ ((i : Int) < 0) from by omega, if_false, Int.toNat_natCast, Array.getElem?_eq_none hge]
  refine wpAny_bind ?_
  first | refine wpAny_bind (wpAny_typeNameOfWhole_keyiter hit.typeIs (wpAny_pure ?_)) | refine wpAny_bind (wpAny_typeNameOf_keyiter hit.typeIs (wpAny_pure ?_))
  show wpAny _ _ (setField (.ref it) 0 .none >>= _) _ _ s
  refine wpAny_bind (wpAny_setField ho hd (by simp) ?_)
  refine stopW (EndsOk.step (A := A.in1) hh ho hd (by simp) fun b u hb e => (Heap.get?_update_ne _ _ _ _ hb).trans e) fun h' a k h => ?_
  refine wpAny_bind (wpAny_isInstance (T := "StopIteration") (b := true) h isSubtype_stop ?_)
  exact wpAny_pure (hQ _ fun b u hb e => k b u ((Heap.get?_update_ne _ _ _ _ hb).trans e))
/-- the handled exception's object, where there is one -/
theorem walks_keysH {x1 : Addr} (I d : Addr) (hne : d ≠ I) (kvs : List (κ × Value)) (ep : Nat) :
    Walks prog w A I [I, d, x1] [I] kvs.length (fun i v => ∃ k x, kvs[i]? = some (k, x) ∧ knd.is k v = true) (fun i h => h.IsKeyIter I d i kvs.length ep ∧ h.DictAt knd d kvs ep ∧ HotAt A x1 h) where
  sub := fun b hb => by simp at hb; simp [hb]
  frame := fun _ _ _ st hk => ⟨st.1.at fun o e => hk I (by simp) o e, st.2.1.at' fun o e => hk d (by simp) o e, st.2.2.1, by
    obtain ⟨o1, v1, h1, r⟩ := st.2.2.2
    exact ⟨o1, v1, hk x1 (by simp) _ h1, r⟩⟩
  item := fun i s Q E hi st hQ => by
    obtain ⟨⟨k, x⟩, hx⟩ : ∃ p, kvs[i]? = some p := ⟨kvs[i], by simp [hi]⟩
    obtain ⟨hit, hm, hh, o1, v1, h1, d1, c1⟩ := st
    refine wpAny_pyNext_dict_item hit hm hx fun key h' hkey hit' hs' => ?_
    have nx : x1 ≠ I := fun z => by
      obtain ⟨o, ho, _, hd⟩ := hit
      rw [z, ho] at h1; cases h1
      rw [hd] at d1; cases d1
      simp at c1
    exact hQ key h' s.toks ⟨k, x, hx, hkey⟩ ⟨hit', hm.extBut hs'.extBut hne, hh, o1, v1, hs'.extBut x1 o1 nx h1, d1, c1⟩ fun b o hb e => hs'.extBut b o (fun h => hb (by simp [h])) e
  done := fun s Q E st hQ => next_key_endW (.inr ⟨x1, st.2.2⟩) st.1 st.2.1 (by simp) fun h' he' => hQ h' s.toks fun b o hb e => he' b o (fun h => hb (by simp [h])) e
  self := fun _ _ _ _ st hQ => wpAny_pyIter_keyiter st.1 hQ
theorem extend_keysH {x1 d : Addr} {kvs : List (κ × Value)} {ep : Nat} {R : Result → Shared → Prop} (lo : (d == sysModules) = false) (hot : HotAt A x1 s.heap) (hm : s.heap.DictAt knd d kvs ep) (S : Addr) (hSd : S ≠ d) (hSx : S ≠ x1) (res : Value) (c₀ : Nat)
    (hS : s.heap.get? S = some { cls := .type "list", data := .seq #[] c₀ })
    (hR : ∀ h' tk acc' c', (∀ b o, b ≠ S → s.heap.get? b = some o → h'.get? b = some o) → h'.get? S = some { cls := .type "list", dict := none, data := .seq acc' c', slots := #[] } → ItemsOf (fun i v => ∃ k x, kvs[i]? = some (k, x) ∧ knd.is k v = true) acc' kvs.length → R (.ok (.ret res)) { s with heap := h', toks := tk })
    (hn : kvs.length ≤ sizeLine) :
    wpAny (model prog w) A.in1 (Builtin.List.listExtendWith (.ref S) (.ref d) res)
      (fun fin s' => match fin with | .done f => R (.ok f) s' | .again c' => c'.quiet = true ∧ codeAny (model prog w) A c' R s') (fun e s' => R (.error e) s') s := by
  have K := PySem.W.kdl_dict (prog := prog) (w := w) (knd := knd) (d := d) (kvs := kvs) (ep := ep) lo
  have hSI : S ≠ s.heap.objs.size := Nat.ne_of_lt (Heap.lt_size hS)
  have hSf : S ∉ [s.heap.objs.size, d, x1] := by simp only [List.mem_cons, List.not_mem_nil, or_false, not_or]; exact ⟨hSI, hSd, hSx⟩
  have hdI : d ≠ s.heap.objs.size := Nat.ne_of_lt hm.lt_size
  have W := walks_keysH (prog := prog) (w := w) (A := A.in1) (knd := knd) (x1 := x1) s.heap.objs.size d hdI kvs ep
  have key : ∀ (h : Heap) (c₁ tk : Nat), (h.IsKeyIter s.heap.objs.size d 0 kvs.length ep ∧ h.DictAt knd d kvs ep ∧ HotAt A.in1 x1 h) → (∀ b o, b ≠ S → s.heap.get? b = some o → h.get? b = some o) →
      h.get? S = some { cls := .type "list", data := .seq #[] c₁ } → codeAny (model prog w) A (.builtin "list.extend.loop" ⟨[.ref S, .ref s.heap.objs.size, res], []⟩) R { s with heap := h, toks := tk } := by
    intro h c₁ tk hst hk hS₁
    refine codeAny_extend_loopS W.toS hn S hSf res kvs.length 0 _ #[] c₁ rfl (Nat.zero_le _) hst hS₁ (ItemsOf.nil _) fun s' acc' c' hm' hS' hacc => ?_
    rw [Moved.eq_with hm']
    refine hR s'.heap s'.toks acc' c' (fun b o hb e => hm'.heap b o (fun hmem => ?_) (hk b o hb e)) hS' hacc
    rcases List.mem_cons.mp hmem with e' | hmem
    · exact hb e'
    · exact absurd (Heap.lt_size e) (by rw [List.mem_singleton.mp hmem]; exact Nat.lt_irrefl _)
  unfold Builtin.List.listExtendWith
  refine wpAny_bind (wpAny_typeOf (T := "dict") (K.type s hm) ?_)
  have h1 : Builtin.List.listSameRef (.ref S) (.ref d) = false := by simp [Builtin.List.listSameRef, hSd]
  simp only [h1, K.notList, K.notTuple, Bool.or_false, Bool.false_eq_true, if_false]
  refine wpAny_bind (wpAny_pyIter_dict lo hm ?_)
  generalize hoI : ({ cls := .type "dict_keyiterator", data := .fields #[.ref d, .int 0 0, .int kvs.length 0, .int ep 0] } : Obj) = oI
  have st : (s.heap.push oI).IsKeyIter s.heap.objs.size d 0 kvs.length ep ∧ (s.heap.push oI).DictAt knd d kvs ep ∧ HotAt A.in1 x1 (s.heap.push oI) := by
    obtain ⟨hh, o1, v1, e1, r⟩ := hot
    refine ⟨⟨oI, Heap.get?_push_size _ (by rw [← hoI]; rfl), by rw [← hoI], by rw [← hoI]; rfl⟩, hm.push _, hh, o1, v1, Heap.get?_push_of_some _ e1, r⟩
  have hS₁ := Heap.get?_push_of_some oI hS
  refine wpAny_bind (wpAny_holding (K.hint _ _ _ _ (K.keep _ _ hm fun b _ o e => Heap.get?_push_of_some _ e) ?_))
  refine wpAny_ite_split (fun _ => ?_) (fun _ => wpAny_pure ⟨plainId_quiet PySem.F.plain_extend_loop _, key _ c₀ _ st (fun b o _ e => Heap.get?_push_of_some _ e) hS₁⟩)
  refine wpAny_bind (wpAny_rule ?_)
  refine wpAny_bind ?_
  show wpAny _ _ (updateSeq S (·.push .none) >>= fun _ => updateSeq S (·.pop)) _ _ _
  refine wpAny_bind (wpAny_updateSeq hS₁ rfl ?_)
  have hS₂ := Heap.get?_update_self (Obj.mapSeq (·.push Value.none)) hS₁ rfl
  refine wpAny_updateSeq (hz := by seq_fits) hS₂ rfl ?_
  have hS₃ := Heap.get?_update_self (Obj.mapSeq (·.pop)) hS₂ rfl
  refine wpAny_pure ⟨plainId_quiet PySem.F.plain_extend_loop _, key _ _ _ ?_ (fun b o hb e => ?_) hS₃⟩
  · refine W.frame 0 _ _ st fun b hb o e => ?_
    have hbS : b ≠ S := fun h => hSf (h ▸ hb)
    exact (Heap.get?_update_other _ _ (Ne.symm hbS)).trans ((Heap.get?_update_other _ _ (Ne.symm hbS)).trans e)
  · exact (Heap.get?_update_other _ _ (Ne.symm hb)).trans ((Heap.get?_update_other _ _ (Ne.symm hb)).trans (Heap.get?_push_of_some _ e))
theorem collect_keysW {d : Addr} {kvs : List (κ × Value)} {ep : Nat} {R : List Value → Shared → Prop} (lo : (d == sysModules) = false) (hh : EndsOk A s.heap) (hm : s.heap.DictAt knd d kvs ep) (hn : kvs.length ≤ sizeLine)
    (h : ∀ (h' : Heap) (tk : Nat) (acc : Array Value), (∀ b o, s.heap.get? b = some o → h'.get? b = some o) → ItemsOf (fun i v => ∃ k x, kvs[i]? = some (k, x) ∧ knd.is k v = true) acc kvs.length → R acc.toList { s with heap := h', toks := tk }) :
    wpAny (model prog w) A (collect (.ref d)) R E s := by
  rcases hh with hh | ⟨x1, hot⟩
  · exact PySem.W.kdu_collect (PySem.W.kdl_dict (knd := knd) (kvs := kvs) (ep := ep) lo) hh hm hn h
  · have hx1 : x1 < s.heap.objs.size := by
      obtain ⟨_, o1, v1, e1, _⟩ := hot
      exact Heap.lt_size e1
    unfold collect
    refine wpAny_bind (wpAny_runValue (codeAny_builtin PySem.F.entry_proto_collect ?_))
    rw [Around.under_plainId PySem.F.plain_proto_collect _]
    show wpAny _ A.in1 (newList [] >>= fun l => again (.builtin "list.__iadd__" ⟨[l, .ref d], []⟩)) _ _ s
    refine wpAny_bind (wpAny_newObj_type ?_)
    refine wpAny_pure ⟨plainId_quiet PySem.F.plain_list_iadd _, codeAny_builtin PySem.F.entry_list_iadd ?_⟩
    rw [Around.under_plainId PySem.F.plain_list_iadd _]
    have hS₁ : (s.heap.push { cls := .type "list", data := .seq ([] : List Value).toArray }).get? s.heap.objs.size = some { cls := .type "list", data := .seq #[] } := Heap.get?_push_size _ rfl
    show wpAny _ A.in1 (Builtin.List.listExtendWith (.ref s.heap.objs.size) (.ref d) (.ref s.heap.objs.size)) _ _ _
    have hot2 : HotAt A x1 (s.heap.push { cls := .type "list", data := .seq ([] : List Value).toArray }) := by
      obtain ⟨h0, o1, v1, e1, r⟩ := hot
      exact ⟨h0, o1, v1, Heap.get?_push_of_some _ e1, r⟩
    have key := extend_keysH (A := A) (s := { s with heap := s.heap.push { cls := .type "list", data := .seq ([] : List Value).toArray } })
      (R := fun (q : Result) (s' : Shared) => ∃ (h' : Heap) (tk : Nat) (acc' : Array Value) (c' : Nat), q = .ok (.ret (.ref s.heap.objs.size)) ∧ s' = { s with heap := h', toks := tk } ∧
        (∀ b o, s.heap.get? b = some o → h'.get? b = some o) ∧ h'.get? s.heap.objs.size = some { cls := .type "list", dict := none, data := .seq acc' c', slots := #[] } ∧ ItemsOf (fun i v => ∃ k x, kvs[i]? = some (k, x) ∧ knd.is k v = true) acc' kvs.length)
      lo hot2 (hm.push _) s.heap.objs.size (Nat.ne_of_gt hm.lt_size) (Nat.ne_of_gt hx1) (.ref s.heap.objs.size) 0 hS₁
      (fun h' tk acc' c' hk hS' hacc => ⟨h', tk, acc', c', rfl, rfl, fun b o e => hk b o (Nat.ne_of_lt (Heap.lt_size e)) (Heap.get?_push_of_some _ e), hS', hacc⟩) hn
    refine wpAny_mono key (fun fin s' x => ?_) fun e s' x => ?_
    · cases fin with
      | done f =>
        obtain ⟨h', tk, acc', c', e, rfl, hk, hS', hacc⟩ := x
        cases e
        show wpAny _ A (load s.heap.objs.size >>= _) _ _ _
        refine wpAny_bind (wpAny_load hS' ?_)
        exact wpAny_pure (h h' tk acc' hk hacc)
      | again c₁ =>
        refine ⟨x.1, codeAny_mono x.2 fun q s₂ y => ?_⟩
        obtain ⟨h', tk, acc', c', rfl, rfl, hk, hS', hacc⟩ := y
        show wpAny _ A (load s.heap.objs.size >>= _) _ _ _
        refine wpAny_bind (wpAny_load hS' ?_)
        exact wpAny_pure (h h' tk acc' hk hacc)
    · obtain ⟨_, _, _, _, e', _⟩ := x
      cases e'
end
/-! ### as a rule -/
section
variable {X : Cx}
/-- the keys that were collected are the whole numbers ks -/
theorem acc_ints {prog : Program} {w : World} {vs : List (Key × Value)} {ks : List Int} {acc : Array Value} (hkeys : vs.map (·.1) = ks.map Sum.inl) (hacc : ItemsOf (fun i v => ∃ k x, vs[i]? = some (k, x) ∧ (mixKind prog w).is k v = true) acc vs.length) : IntsAre acc.toList ks := by
  have hl : vs.length = ks.length := by
    have e := congrArg List.length hkeys
    rw [List.length_map, List.length_map] at e
    exact e
  have hal : acc.toList.length = ks.length := by rw [Array.length_toList, hacc.1, hl]
  refine ints_each hal fun j v e => ?_
  obtain ⟨k, x, e1, e2⟩ := hacc.2 j v (by rw [← Array.getElem?_toList]; exact e)
  have e3 : (vs.map (·.1))[j]? = some k := by rw [List.getElem?_map, e1]; rfl
  rw [hkeys, List.getElem?_map] at e3
  cases e4 : ks[j]? with
  | none => rw [e4] at e3; cases e3
  | some y =>
    rw [e4] at e3
    have e5 : Sum.inl y = k := Option.some.inj e3
    subst e5
    rcases keyIs_shape (show keyIs (Sum.inl y) v = true from e2) with ⟨i, t, ek, ev⟩ | ⟨z, t, ek, ev⟩
    · cases ek
      exact ⟨y, t, rfl, ev⟩
    · cases ek
def rSortKeys : List V → Hp → VK → Prop := fun xs H Q => ∃ (a : Addr) (kvs : List (Key × V)) (ks : List Int), xs = [.ref a] ∧ Rd H a (.dK kvs) ∧ kvs.map (·.1) = ks.map Sum.inl ∧
    ∀ (ys : List Int) (p : Addr), ys.Perm ks → ys.Pairwise (· ≤ ·) → H p = none → Q (.ref p) (upd H p (.lst (ys.map V.int)))
theorem call_sortKeys (hw : Warm X) : CallR X (.builtin "sorted") rSortKeys := by
  intro pins s σ H xs us Q I r q
  obtain ⟨a, kvs, ks, ex, hd, hks, q⟩ := q
  subst ex
  obtain ⟨u, eu, rx⟩ := vals1 r
  subst eu
  cases rx
  obtain ⟨z, lo, vs, rel, dd⟩ := dk_rd I.hok hd
  obtain ⟨ep, hat⟩ := dd.dictAt
  have hkeys : vs.map (·.1) = ks.map Sum.inl := rel.keys.symm.trans hks
  have hl : vs.length = ks.length := by
    have e := congrArg List.length hkeys
    rw [List.length_map, List.length_map] at e
    exact e
  have h16 : vs.length ≤ sizeLine := by rw [← rel.length]; exact z
  refine Calls.call_function_entry PyProof.Rows.kind_sorted PyProof.Rows.plain_sorted PyProof.Rows.entry_sorted (PyProof.Rows.args_sorted1 _) ?_
  unfold Builtin.«sorted»
  refine wpAny_bind (m := checkCount "sorted" 1 1 _) (wpAny_pure ?_)
  refine wpAny_bind (collect_keysW (A := X.A.in1) lo (hw.at I) hat h16 fun h' tk acc hk hacc => ?_)
  have hS := acc_ints hkeys hacc
  have hal : acc.toList.length = ks.length := by rw [Array.length_toList, hacc.1, hl]
  have I1 : Inv X pins σ H { s with heap := h', toks := tk } := I.kept hk
  refine wpAny_bind (wpAny_newList ?_ (by rw [hal, ← hl]; exact h16))
  have hoL : (h'.push (seqObj "list" acc.toList.toArray 0)).get? h'.objs.size = some (seqObj "list" acc.toList.toArray 0) := Heap.get?_push_size _ rfl
  show wpAny _ _ _ _ _ { s with heap := h'.push (seqObj "list" acc.toList.toArray 0), toks := tk }
  refine wpAny_bind (wpAny_holding (wpAny_call_entry PyProof.Rows.slot_list_sort ⟨_, hoL, rfl⟩ PyProof.Rows.entry_list_sort
    (SrtO.list_sort_ord (s := { s with heap := h'.push (seqObj "list" acc.toList.toArray 0), toks := tk }) SrtO.swo_int hoL (by rw [hal, ← hl]; exact h16) (fun h2 => SrtO.ints_sortable hS h2) fun out h1 h2 => ⟨_, rfl, ?_⟩) (PyProof.Rows.args_list_sort _)))
  obtain ⟨k1, k2, k3⟩ := SrtO.ints_out hS h1 h2
  obtain ⟨e', he'⟩ := PyProof.Rows.sortedHeap_at (vs := acc.toList) (out := out.toArray) hoL
  have hlen : ((out.map SrtO.iv).map V.int).length ≤ sizeLine := by
    rw [List.length_map, k2.length_eq, ← hl]
    exact h16
  refine wpAny_pure ⟨_, rfl, .ref h'.objs.size, upd H h'.objs.size (.lst ((out.map SrtO.iv).map V.int)), I1.laid (t' := tk) (fun b u e => ?_) (Nat.le_refl _)
    (show ObjOk X.prog X.w _ _ _ (.lst ((out.map SrtO.iv).map V.int)) from ⟨hlen, out, e', vals_of_ints k1, he'⟩), rfl, q _ _ k2 k3 (I1.hok.fresh (Nat.le_refl _))⟩
  have hb : b < h'.objs.size := Heap.lt_size e
  rw [PyProof.Rows.sortedHeap_old (Nat.ne_of_lt hb) (by rw [size_push']; exact Nat.lt_succ_of_lt hb)]
  exact Heap.get?_push_of_some _ e
end
end K9
end
section
set_option Elab.async false
set_option linter.all false
set_option maxRecDepth 100000
set_option maxHeartbeats 4000000
/-! sorted(d, key=lambda k: d[k]) of a dict with whole numbers as keys and values. -/
namespace K9
open PySem PySem.Spec PyProof.Rows L2 HotX LamX
/-- lambda number: old[number] -/
abbrev lamP (p : Pos) : Arguments := { posonlyargs := [], args := [{ arg := "number", annotation := none, pos := p }], vararg := none, kwonlyargs := [], kw_defaults := [], kwarg := none, defaults := [] }
abbrev lamB (p1 p2 p3 : Pos) : Expr := .Subscript (.Name "old" p1) (.Name "number" p2) p3
abbrev lamSc : Scope := { kind := .function, names := [(PySem.Str.ofString "number", .local), (PySem.Str.ofString "old", .free)], isGenerator := false, isCoroutine := false, more := [] }
theorem lamSc_nocell : ∀ x ∈ lamSc.names, x.2 ≠ .cell := by decide +kernel
theorem lamSc_num : lamSc.names.lookup (PySem.Str.ofString "number") = some .local := by decide +kernel
theorem lamSc_old : lamSc.names.lookup (PySem.Str.ofString "old") = some .free := by decide +kernel
section
variable {prog : Program} {w : World} {A : Around} {s : Shared}
theorem lam_getitem {f c' cO d : Addr} {q : Str} {pm ctv : Value} {p p1 p2 p3 : Pos} {vs : List (Key × Value)} {k : Int} {tk : Tok} {n : Int} {t' : Tok} {cl : List (Str × Addr)}
    (hf : s.heap.get? f = some (PySem.W.kla_obj "<lambda>" q (lamP p) (lamB p1 p2 p3) lamSc cl pm c' ctv)) (hcl : cl.lookup ("old" : Str) = some cO)
    (hcd : s.heap.CodeRec (.ref c') q) (hlim : s.heap.NoLimit) (hroom : A.depth < recursionLimit)
    (hc : s.heap.IsCell cO (some (.ref d))) (hd : s.heap.DictOf (mixKind prog w) d vs) (hv : valueAt vs (Sum.inl k) = some (.int n t')) :
    wpAny (model prog w) A (call (.ref f) [.int k tk]) (PySem.W.KeyPure (.int n) s) (fun _ _ => False) s := by
  obtain ⟨hp, g, dr, t0, os⟩ := s
  refine wpAny_call (PySem.W.kla_callFunE (body := lamB p1 p2 p3) hroom hf rfl rfl rfl rfl hcd ?_)
  refine wpAny_of_eq (a := [(PySem.Str.ofString "number", .int k tk)]) (by first | rfl | with_unfolding_all rfl | kernel_rfl) ?_
  refine wpAny_newFunctionEnv lamSc_nocell (by intro x hx; rw [List.mem_singleton.mp hx]; exact lamSc_num) (fun h₁ hns hsb => ⟨hlim.fresh _ hsb, ?_⟩) rfl
  have k1 : ∀ b o, hp.get? b = some o → h₁.get? b = some o := fun b o e => hsb.extBut b o (Nat.ne_of_lt (Heap.lt_size e)) (Heap.get?_push_of_some _ e)
  refine PySem.W.kla_codeExpr ?_
  have dd : (h₁.DictOf (mixKind prog w) d vs) := by
    obtain ⟨o, es, ep, e, r⟩ := hd
    exact ⟨o, es, ep, k1 _ _ e, r⟩
  have cc : h₁.IsCell cO (some (.ref d)) := by
    obtain ⟨o, e, r⟩ := hc
    exact ⟨o, k1 _ _ e, r⟩
  have hT : Shared.TypeIs { heap := h₁, gens := g, drawn := dr, toks := t0 + 1, os := os } (.ref d) "dict" := dd.typeIs
  refine subD_of (T := "dict") PySem.F.slot_dict_getitem.lookup (fun _ _ => rfl) ?_
  refine wpAny_Name (wpAny_loadName_free (c := cO) (v := .ref d) rfl lamSc_old hcl cc ?_) (by decide)
  refine wpAny_Name (wpAny_loadName_local (v := .int k tk) rfl lamSc_num hns (by first | rfl | with_unfolding_all rfl | kernel_rfl) ?_) (by decide)
  refine ⟨hT, wpAny_getItem_of (knd := mixKind prog w) (k := Sum.inl k) (mixKind_int prog w k tk) dd.mapOf hv ?_⟩
  exact ⟨h₁, _, rfl, k1, .int n t'⟩
end
/-! ### as a rule -/
/-- nothing but a table stands there -/
def Free (H : Hp) (p : Addr) : Prop := ∀ o, H p = some o → ∃ ps, o = .tbl ps
theorem Free.of {H : Hp} {p : Addr} (h : H p = none) : Free H p := fun o e => by rw [h] at e; cases e
def tSortBy (P : Addr) (q : Str) (i : Nat) : TE := fun σ H Q => ∃ (a : Addr) (kvs : List (Key × V)) (ks : List Int) (v : Int → Int), σ[i]? = some (some (.ref a)) ∧ H a = some (.dK kvs) ∧ kvs.map (·.1) = ks.map Sum.inl ∧
  (∀ k ∈ ks, valV kvs (Sum.inl k) = some (.int (v k))) ∧ Tabs [(P, q)] H ∧
  ∀ (ys : List Int) (p : Addr) (H' : Hp), ExtN H H' → Tabs [(P, q)] H' → Free H p → ys.Perm ks → ys.Pairwise (fun a b => v a ≤ v b) → H' p = some (.lst (ys.map V.int)) → Q (.ref p) H'
theorem each_vals : ∀ {out : List Value} {ys : List Int}, PySem.W.EachIs (fun v x => ∃ t, v = Value.int x t) out ys → Vals (ys.map V.int) out
  | _, _, .nil => .nil
  | _, _, .cons r t => .cons r (each_vals t)
theorem ints_each' : ∀ {vs : List Value} {ns : List Int}, IntsAre vs ns → PySem.W.EachIs (fun v x => ∃ t, v = Value.int x t) vs ns
  | _, _, .nil => .nil
  | _, _, .cons n t h => .cons ⟨t, rfl⟩ (ints_each' h)
section
variable {X : Cx}
theorem pe_sortBy {p p1 p2 p3 p4 p5 lpos kpos pos : Pos} {i : Nat} {c P : Addr} (hw : Warm X) (hr : L2H.RoomH 2 X.A) (TB : TabB X.base X.mg c P) (hcode : X.env.code = .ref c) (hN : X.N[i]? = some ("old" : Str)) (hk : X.env.kindOf "old" = some .cell)
    (hg : Gl X "sorted") (hm : X.mg "sorted" = none) (hdef : defaultsOf (lamP p) X.env = ([], []))
    (he : backTo pos (starEach [.Name "old" p4] X.env) = (false, eval (.Name "old" p4) X.env) :: backTo pos (starEach [] X.env) := by rfl) (hpl : (backTo pos (starEach [.Name "old" p4] X.env)).any (·.1) = false := by rfl) :
    PE X (.Call (.Name "sorted" p5) [.Name "old" p4] [⟨some "key", .Lambda (lamP p) (lamB p1 p2 p3) lamSc lpos, kpos⟩] pos) (tSortBy P (X.env.qual ++ "<lambda>") i) := by
  refine ⟨fun pins s σ H Q I h => ?_⟩
  obtain ⟨a, kvs, ks, v, hσ, ha, hks, hval, hT, hq⟩ := h
  have hvis : Vis X.env.scope "old" := .inr (.inl hk)
  refine wpAny_Call_Name_kw (ld_blt I hg hm (u := .builtin "sorted") (by decide +kernel) ?_ (by decide) (by decide))
  refine PyProof.Rows.callWith_kw (thn ((pa_cons (pe_var hN hvis) pa_nil (hs := by rfl)).run pos pins s σ H (fun vs H1 => vs = [.ref a] ∧ H1 = H) I ⟨_, hσ, rfl, rfl⟩) fun us s1 ⟨vs1, H1, I1, r1, e1, e2⟩ => ?_) he hpl (by rfl) (by rfl)
  subst e1
  subst e2
  rw [Vals.ref1 r1]
  show wpAny _ _ (evalAll [(do let v ← eval (.Lambda (lamP p) (lamB p1 p2 p3) lamSc lpos) X.env; standAt pos; pure v)]) _ _ s1
  have hfree : ∀ y ∈ lamSc.names, y.2 = .free → ∃ c, X.env.cells.lookup y.1 = some c := fun y hy e => by
    have e' : y = (PySem.Str.ofString "number", NameKind.local) ∨ y = (PySem.Str.ofString "old", NameKind.free) := by
      rcases List.mem_cons.mp hy with z | z
      · exact .inl z
      · exact .inr (List.mem_singleton.mp z)
    rcases e' with e' | e'
    · rw [e'] at e; cases e
    · rw [e']
      exact I1.ok.has _ (.inl hk)
  refine wpAny_evalAll_cons (wpAny_bind (lam_make2 I1 TB hcode (T := [(P, X.env.qual ++ "<lambda>")]) List.mem_cons_self (fun p hp _ => by rw [List.mem_singleton.mp hp]) hT hdef hfree fun f c' pm ctv H2 s2 I2 ext hT2 hf hfn hfr hc' => wpAny_bind (wpAny_standAt (wpAny_pure (wpAny_evalAll_nil ?_)))))
  show wpAny _ _ (call (.builtin "sorted") [.ref a] [(PySem.Str.ofString "key", .ref f)]) _ _ s2
  -- what the lambda looks at
  have ha2 : H2 a = some (.dK kvs) := ext _ _ ha fun ps z => by cases z
  obtain ⟨z, lo, vs, rel, dd⟩ := I2.hok a _ ha2
  obtain ⟨m, hn, hl⟩ := I2.loc
  obtain ⟨u0, ru0, look⟩ := hl i "old" (.ref a) hN hσ hvis
  obtain rfl : u0 = Value.ref a := ru0
  have hcell : ∃ cO, X.env.cells.lookup ("old" : Str) = some cO ∧ s2.heap.IsCell cO (some (.ref a)) := by
    rcases look with ⟨k', _⟩ | ⟨_, cO, e, z⟩
    · rw [hk] at k'; cases k'
    · exact ⟨cO, e, z⟩
  obtain ⟨cO, hcO, icO⟩ := hcell
  have hclo : (cloFrom X.env.cells lamSc.names []).lookup ("old" : Str) = some cO := by
    have hy : (("old" : Str), NameKind.free) ∈ lamSc.names := PySem.mem_of_lookup lamSc_old
    obtain ⟨c2, h2⟩ := mem_lookup (cloFrom_has (cells := X.env.cells) (acc := []) hy)
    rw [h2]
    rcases cloFrom_mem (PySem.mem_of_lookup h2) with hm | ⟨h1, h3⟩
    · cases hm
    · rw [h3, hcO]; rfl
  have hcd : s2.heap.CodeRec (.ref c') (X.env.qual ++ "<lambda>") := by
    have x : ObjOk X.prog X.w H2 s2.heap c' (CodeO c' (X.env.qual ++ "<lambda>")) := I2.hok c' _ hc'
    obtain ⟨⟨oc, vs', t, e1, e2, e3⟩, _⟩ := x
    exact ⟨c', oc, vs', t, rfl, e1, e2, e3⟩
  have hlim := I2.nolimit
  -- the keys, collected
  obtain ⟨ep, hat⟩ := dd.dictAt
  have hkeys : vs.map (·.1) = ks.map Sum.inl := rel.keys.symm.trans hks
  have hlen : vs.length = ks.length := by
    have e := congrArg List.length hkeys
    rw [List.length_map, List.length_map] at e
    exact e
  have h16 : vs.length ≤ sizeLine := by rw [← rel.length]; exact z
  refine PyProof.Rows.call_function_entry_kw PyProof.Rows.kind_sorted PyProof.Rows.plain_sorted PyProof.Rows.entry_sorted (by unfold argsOk; kernel_rfl) ?_
  unfold Builtin.«sorted»
  refine wpAny_bind (m := checkCount "sorted" 1 1 _) (wpAny_pure ?_)
  refine wpAny_bind (collect_keysW (A := X.A.in1) lo (hw.at I2) hat h16 fun h' tk acc hk2 hacc => ?_)
  have hS := acc_ints hkeys hacc
  have hal : acc.toList.length = ks.length := by rw [Array.length_toList, hacc.1, hlen]
  have I3 : Inv X pins σ H2 { s2 with heap := h', toks := tk } := I2.kept hk2
  refine wpAny_bind (wpAny_newList ?_ (by rw [hal, ← hlen]; exact h16))
  have hoL : (h'.push (seqObj "list" acc.toList.toArray 0)).get? h'.objs.size = some (seqObj "list" acc.toList.toArray 0) := Heap.get?_push_size _ rfl
  show wpAny _ _ _ _ _ { s2 with heap := h'.push (seqObj "list" acc.toList.toArray 0), toks := tk }
  have kp0 : ∀ b o, s2.heap.get? b = some o → b ≠ h'.objs.size ∧ (h'.push (seqObj "list" acc.toList.toArray 0)).get? b = some o := fun b o e =>
    ⟨Nat.ne_of_lt (Heap.lt_size (hk2 _ _ e)), Heap.get?_push_of_some _ (hk2 _ _ e)⟩
  refine wpAny_bind (wpAny_holding (wpAny_call_entry_kw PyProof.Rows.slot_list_sort ⟨_, hoL, rfl⟩ PyProof.Rows.entry_list_sort ?_ (by unfold argsOk; kernel_rfl)))
  rw [PyProof.Rows.ksk_t1]
  refine PySem.W.keyH_tree (kz := ks.map fun k => PyData.int (v k)) (vs := acc.toList) (s := { s2 with heap := h'.push (seqObj "list" acc.toList.toArray 0), toks := tk }) hoL (by rw [List.length_map]; exact hal.symm) (by rw [hal, ← hlen]; exact h16)
    (PySem.W.AllAlike.of fun b b' => rfl) (PySem.W.Sortable.others fun b => ⟨fun z => (by cases z), fun xs z => (by cases z)⟩) (fun d hd => ?_) (fun j u kd hu hkd h5 tk5 kp => ?_) fun h5 tk5 out c5 kp hD ko => ⟨_, rfl, ?_⟩
  · obtain ⟨k, _, rfl⟩ := List.mem_map.mp hd
    have := hr.un
    show X.A.units + 1 + 1 + 0 < cLine
    omega
  · -- one call of the lambda
    rw [List.getElem?_map] at hkd
    cases e4 : ks[j]? with
    | none => rw [e4] at hkd; cases hkd
    | some k =>
      rw [e4] at hkd
      obtain rfl : PyData.int (v k) = kd := Option.some.inj hkd
      obtain ⟨u', hu', ⟨t, ru⟩⟩ := Vals.get (x := V.int k) (i := j) (vals_of_ints hS) (by rw [List.getElem?_map, e4]; rfl)
      rw [hu] at hu'
      cases hu'
      subst ru
      have hkm : k ∈ ks := List.mem_of_getElem? e4
      have rv := rel.val (Sum.inl k)
      rw [hval k hkm] at rv
      obtain ⟨w', hw', ⟨t', ew⟩⟩ := RelO.some_of (v := V.int (v k)) rv
      subst ew
      have up : ∀ b o, s2.heap.get? b = some o → h5.get? b = some o := fun b o e => kp b o (kp0 b o e).1 (kp0 b o e).2
      have dd5 : h5.DictOf (mixKind X.prog X.w) a vs := by
        obtain ⟨o, es, ep, e, r⟩ := dd
        exact ⟨o, es, ep, up _ _ e, r⟩
      have ic5 : h5.IsCell cO (some (.ref a)) := by
        obtain ⟨o, e, r⟩ := icO
        exact ⟨o, up _ _ e, r⟩
      have cd5 : h5.CodeRec (.ref c') (X.env.qual ++ "<lambda>") := by
        obtain ⟨cc, oc, vs', t, e0, e1, e2, e3⟩ := hcd
        exact ⟨cc, oc, vs', t, e0, up _ _ e1, e2, e3⟩
      exact lam_getitem (s := { s2 with heap := h5, toks := tk5 }) (up _ _ hf) hclo cd5 (hlim.keeps up) (by have := hr.dp; show X.A.depth < recursionLimit; omega) ic5 dd5 hw'
  · -- the new list
    have oe := PySem.W.keyedOut_each (fun k => PyData.int (v k)) ko (ints_each' hS)
    rw [PySem.W.dataLe_int] at oe
    have rv := each_vals oe
    have ho := rv.length
    have hp := List.mergeSort_perm ks (fun a b => decide (v a ≤ v b))
    have hpl : (ks.mergeSort fun a b => decide (v a ≤ v b)).length = ks.length := hp.length_eq
    have hpw : (ks.mergeSort fun a b => decide (v a ≤ v b)).Pairwise (fun a b => v a ≤ v b) := by
      have := List.pairwise_mergeSort (le := fun a b => decide (v a ≤ v b)) (fun a b c h1 h2 => by simp only [decide_eq_true_eq] at *; omega) (fun a b => by simp only [Bool.or_eq_true, decide_eq_true_eq]; omega) ks
      exact this.imp fun h => of_decide_eq_true h
    have up : ∀ b o, h'.get? b = some o → h5.get? b = some o := fun b o e => kp b o (Nat.ne_of_lt (Heap.lt_size e)) (Heap.get?_push_of_some _ e)
    have hn2 : H2 h'.objs.size = none := I3.hok.fresh (Nat.le_refl _)
    have J : Inv X pins σ (upd H2 h'.objs.size (.lst ((ks.mergeSort fun a b => decide (v a ≤ v b)).map V.int))) { s2 with heap := h5, toks := tk5 } :=
      I3.laid (t' := tk5) (h' := h5) (a := h'.objs.size) up (Nat.le_refl _) ⟨by rw [List.length_map, hpl, ← hlen]; exact h16, out, c5, rv, hD⟩
    refine wpAny_pure ⟨_, rfl, .ref h'.objs.size, _, J, rfl, hq _ h'.objs.size _ (fun b o e n => ?_) (hT2.ext fun b o e => by rw [upd_ne (ne_of_none e hn2)]; exact e) ?_ hp hpw upd_same⟩
    · have e2 := ext b o e n
      rw [upd_ne (ne_of_none e2 hn2)]
      exact e2
    · intro o e
      cases o with
      | tbl ps => exact ⟨ps, rfl⟩
      | _ =>
        have q := ext _ _ e fun ps z => by cases z
        rw [hn2] at q
        cases q
end
end K9
end
section
set_option Elab.async false
set_option linter.all false
set_option maxRecDepth 100000
set_option maxHeartbeats 4000000
/-! Own exceptions, two classes over ValueError, whose __init__ says super().__init__(str(x)) and self.x = x. -/
namespace K9
open PySem PySem.W PySem.Calls PyProof.Rows PySem.HandSPX
def xA (fld : Str) (p1 p2 : Pos) : Arguments := { posonlyargs := [], args := [{ arg := "self", annotation := none, pos := p1 }, { arg := fld, annotation := none, pos := p2 }], vararg := none, kwonlyargs := [], kw_defaults := [], kwarg := none, defaults := [] }
def xB (fld : Str) (q1 q2 q3 q4 q5 q6 q7 q8 q9 q10 q11 q12 : Pos) : List Stmt :=
  [.Expr (.Call (.Attribute (.Call (.Name "super" q1) [] [] q2) "__init__" q3) [.Call (.Name "str" q4) [.Name fld q5] [] q6] [] q7) q8, .Assign [.Attribute (.Name "self" q9) fld q10] (.Name fld q11) q12]
def xS (fld : Str) : Scope := { kind := .function, names := [(PySem.Str.ofString "self", .local), (fld, .local), (PySem.Str.ofString "__class__", .free), (PySem.Str.ofString "super", .globalImplicit), (PySem.Str.ofString "str", .globalImplicit)], isGenerator := false, isCoroutine := false, more := [] }
/-- what is asked of the field's name -/
structure FldOk (fld : Str) : Prop where
  loc : (xS fld).names.lookup fld = some .local
  self : (xS fld).names.lookup (PySem.Str.ofString "self") = some .local
  cls : (xS fld).names.lookup (PySem.Str.ofString "__class__") = some .free
  sup : (xS fld).names.lookup (PySem.Str.ofString "super") = some .globalImplicit
  str : (xS fld).names.lookup (PySem.Str.ofString "str") = some .globalImplicit
  ne : ¬ fld = PySem.Str.ofString "self"
  nd : (fld == ("__debug__" : Str)) = false
theorem fldOk_need : FldOk "need" := ⟨by decide +kernel, by decide +kernel, by decide +kernel, by decide +kernel, by decide +kernel, by decide +kernel, by decide +kernel⟩
theorem fldOk_limit : FldOk "limit" := ⟨by decide +kernel, by decide +kernel, by decide +kernel, by decide +kernel, by decide +kernel, by decide +kernel, by decide +kernel⟩
theorem fldOk_why : FldOk "why" := ⟨by decide +kernel, by decide +kernel, by decide +kernel, by decide +kernel, by decide +kernel, by decide +kernel, by decide +kernel⟩
abbrev xa_need : Arguments := xA "need" ⟨14,17,14,21⟩ ⟨14,23,14,27⟩
abbrev xb_need : List Stmt := xB "need" ⟨15,8,15,13⟩ ⟨15,8,15,15⟩ ⟨15,8,15,24⟩ ⟨15,25,15,28⟩ ⟨15,29,15,33⟩ ⟨15,25,15,34⟩ ⟨15,8,15,35⟩ ⟨15,8,15,35⟩ ⟨16,8,16,12⟩ ⟨16,8,16,17⟩ ⟨16,20,16,24⟩ ⟨16,8,16,24⟩
abbrev xa_limit : Arguments := xA "limit" ⟨19,17,19,21⟩ ⟨19,23,19,28⟩
abbrev xb_limit : List Stmt := xB "limit" ⟨20,8,20,13⟩ ⟨20,8,20,15⟩ ⟨20,8,20,24⟩ ⟨20,25,20,28⟩ ⟨20,29,20,34⟩ ⟨20,25,20,35⟩ ⟨20,8,20,36⟩ ⟨20,8,20,36⟩ ⟨21,8,21,12⟩ ⟨21,8,21,18⟩ ⟨21,21,21,26⟩ ⟨21,8,21,26⟩
abbrev xa_why : Arguments := xA "why" ⟨24,17,24,21⟩ ⟨24,23,24,26⟩
abbrev xb_why : List Stmt := xB "why" ⟨25,8,25,13⟩ ⟨25,8,25,15⟩ ⟨25,8,25,24⟩ ⟨25,25,25,28⟩ ⟨25,29,25,32⟩ ⟨25,25,25,33⟩ ⟨25,8,25,34⟩ ⟨25,8,25,34⟩ ⟨26,8,26,12⟩ ⟨26,8,26,16⟩ ⟨26,19,26,22⟩ ⟨26,8,26,22⟩
/-- what the written part says of the class at C and of its __init__ at fI -/
structure XcT (P : Program) (K : Frag) (mg : Str → Option Value) (C fI : Addr) (nmC qual fld : Str) (xa : Arguments) (xb : List Stmt) : Prop where
  gC : mg nmC = some (.ref C)
  cls : ∃ nm q N bs bm sn sub ab col dd k0 k1 k2 k3 k5, K.lookup C = some (excClassObj nm q C N bs bm true sn sub ab col dd k0 k1 k2 k3 k5 "ValueError.__new__") ∧ refsVE bm = true
  sa : findIn K (.ref C) "__setattr__" = some (some (.builtin "object.__setattr__"))
  ga : findIn K (.ref C) "__getattribute__" = some (some (.builtin "BaseException.__getattribute__"))
  gg : findIn K (.ref C) "__getattr__" = some none
  noN : findIn K (.ref C) fld = some none
  iC : findIn K (.ref C) "__init__" = some (some (.ref fI))
  tC : typeIn K (.ref fI) = some (.type "function")
  kC : keepIn K (.ref C) = true
  exC : subIn K (.ref C) (.type "BaseException") = some true
  tyC : typeIn K (.ref C) = some (.type "type")
  hdC : hasDictIn K C = true
  sup : ks_superIn K C C "__init__" = some (some (.builtin "ValueError.__init__"))
  vE : subIn K (.ref C) (.type "ValueError") = some true
  tp : nsIn K cStatics "thirdparty.any" = some none
  ms : mroIn K C (.ref C) = some true
  gS : mg "super" = none
  gT : mg "str" = none
  fn : ∃ (oc : Value) (od : Option Addr) (doc pm : Value) (an : Option Addr) (cda cc : Addr) (ct : Value) (osl : Array (Option Value)) (o2 : Value) (od2 : Option Addr) (vs : Array Value) (s2 : Array (Option Value)) (file : Str) (tf : Tok) (cl : Value) (cld : Option Addr) (csl : Array (Option Value)),
    K.lookup fI = some ⟨oc, od, .func (ksFn "__init__" qual xa xb (xS fld) .none .none doc pm an (.ref cda) ct cc), osl⟩ ∧ codeIn K (.ref cda) qual = true ∧
    K.lookup cda = some ⟨o2, od2, .fields vs, s2⟩ ∧ vs[2]? = some (.str file tf) ∧ ((P.main.file : Str) == file) = true ∧ K.lookup cc = some ⟨cl, cld, .cell (some (.ref C)), csl⟩
/-- str(v) is a text z -/
def StrIs (M : Program × World) (v : Value) (z : Str) : Prop := ∀ (A : Around) (E : Value → Shared → Prop) (s : Shared) (Q : Value → Shared → Prop), (∀ t tk, Q (.str z t) { s with toks := tk }) → wpAny (model M.1 M.2) A (call (.type "str") [v]) Q E s
theorem strIs_int {M : Program × World} {n : Int} {t : Tok} (h : n.natAbs.log2 < 1920) : StrIs M (.int n t) (toString n) := fun A E s Q hq => PySem.P.str_of_int h (hq _ _)
theorem strIs_str {M : Program × World} {z : Str} {t : Tok} : StrIs M (.str z t) z := fun A E s Q hq => PySem.P.str_of_str (hq t s.toks)
/-- what __init__ leaves of a fresh exception at x -/
structure XEnd (h h' : Heap) (x C dx t1 : Addr) (fld : Str) (v : Value) : Prop where
  keep : ∀ b o, b ≠ x → h.get? b = some o → h'.get? b = some o
  obj : h'.get? x = some { cls := .ref C, dict := some dx, data := .fields #[.ref t1, .none, .none, .none, .bool false, .none] }
  dbig : h.objs.size ≤ dx
  dne : dx ≠ x
  ns : h'.Ns1 dx (fun y => if y = fld then some v else none)
section
variable {prog : Program} {w : World} {A : Around} {E : Value → Shared → Prop} {h : Heap} {g : Array GenState} {d : Drawn} {t : Nat} {os : OsState}
theorem call_mw {u x C t0 N : Addr} {nm q : Str} {bs bm : List Value} {sn : List Str} {sub : List Value} {ab : Bool} {col : Option Bool} {dd : Option Addr} {k0 k1 k2 k3 k5 : Option Value} {rest : List Value} {Q : Value → Shared → Prop}
    (hC : h.get? C = some (excClassObj nm q C N bs bm true sn sub ab col dd k0 k1 k2 k3 k5 "ValueError.__new__")) (he : h.get? x = some (excO C t0)) (hu : h.get? u = some (kxs_mw "ValueError.__init__" x)) (hz : rest.length ≤ sizeLine)
    (hq : ∀ h' t', (∀ b o, b ≠ x → h.get? b = some o → h'.get? b = some o) → h'.get? x = some (excO C t') → Q .none ⟨h', g, d, t, os⟩) :
    wpAny (model prog w) A (call (.ref u) rest) Q E ⟨h, g, d, t, os⟩ := by
  refine wpAny_call (codeAny_of_tree ?_)
  show wpAny _ A.in1 (callAny (.ref u) ⟨rest, []⟩) _ _ _
  simp only [callAny]
  refine wpAny_bind (wpAny_load hu ?_)
  simp only [kxs_mw, show (Value.type "method-wrapper" == Value.type "method" || Value.type "method-wrapper" == Value.type "builtin_function_or_method" || Value.type "method-wrapper" == Value.type "method-wrapper") = true by decide, if_true]
  refine KFB.if_so (by decide) ?_
  refine wpAny_bind (check_bound_init F.excBase_ValueError.toExcCallFacts hC he rfl ?_)
  refine wpAny_bind (wpAny_pure (wpAny_pure ?_))
  refine ⟨plainId_quiet F.excBase_ValueError.init.plain _, codeAny_builtin F.excBase_ValueError.initEntry ?_⟩
  exact exc_init_tree (cls := .ref C) (t0 := t0) (dv := none) (c2 := .none) (c3 := .none) (b4 := .bool false) he hz fun h' k e' _ => hq h' _ k e'
end
structure XMade (h h' : Heap) (e C d t1 : Addr) (fld : Str) (v : Value) : Prop where
  keep : ∀ b o, h.get? b = some o → h'.get? b = some o
  new : h.objs.size ≤ e
  obj : h'.get? e = some { cls := .ref C, dict := some d, data := .fields #[.ref t1, .none, .none, .none, .bool false, .none] }
  dbig : h.objs.size ≤ d
  dne : d ≠ e
  ns : h'.Ns1 d (fun y => if y = fld then some v else none)
theorem one_size (v : Value) : [v].length ≤ sizeLine := by
  rw [sizeLine_eq]
  exact (by decide : 1 ≤ 16777216)
section
variable {prog : Program} {w : World} {A : Around} {E : Value → Shared → Prop} {R : Result → Shared → Prop} {s : Shared} {K : Frag} {mg mb : Str → Option Value} {C fI : Addr} {nmC qual : Str}
theorem exc_init_need (T : XcT prog K mg C fI nmC qual ("need" : Str) xa_need xb_need) {x t0 : Addr} {v : Value} {z : Str} (hz : StrIs (prog, w) v z) (X : K.In s.heap) (hG : s.heap.Ns mainGlobals mg) (hB : s.heap.Ns builtinsNs mb) (hBB : ∀ y : Str, y ≠ "__name__" → mb y = bootBuiltins y)
    (hlim : s.heap.NoLimit) (htop : (prog.main.scope.names.lookup ("super" : Str)).isSome = false) (hx : s.heap.get? x = some (excO C t0)) (hnx : K.lookup x = none) (hroom : A.depth < recursionLimit)
    (hq : ∀ h' tk dx t1, XEnd s.heap h' x C dx t1 ("need" : Str) v → R (.ok (.ret .none)) { s with heap := h', toks := tk }) :
    codeAny (model prog w) A (.call (.ref fI) ⟨[.ref x, v], []⟩) R s := by
  obtain ⟨oc, od, doc, pm, an, cda, cc, ct, osl, o2, od2, vs, s2, file, tf, cl, cld, csl, ho, hcd, hcode, hvs, hfile, hcell⟩ := T.fn
  obtain ⟨nm, q, N, bs, bm, sn, sub, ab, col, dd, k0, k1, k2, k3, k5, hC, hbm⟩ := T.cls
  have FO := fldOk_need
  have hcl : clsIn K C = some { name := nm, bases := bs, mro := .ref C :: bm, ns := N, qualname := q, hasDict := true, slotNames := sn, subclasses := sub, abstract := ab, collection := col, hasDel := false } := by unfold clsIn; rw [hC] <;> rfl
  refine ks_codeAny_call_defAt (fd := ksFn "__init__" qual xa_need xb_need (xS ("need" : Str)) .none .none doc pm an (.ref cda) ct cc) (body := xb_need) (binds := [(PySem.Str.ofString "self", .ref x), (("need" : Str), v)])
    hroom (X _ _ ho) rfl hlim (codeRec_of X hcd) rfl (BindsTo.of_eq (by first | rfl | with_unfolding_all rfl)) ?_ ?_ (fun h₁ hns hk₁ => ?_) rfl rfl rfl
  · intro y hy
    have hy : y ∈ (xS ("need" : Str)).names := hy
    simp only [xS, List.mem_cons, List.not_mem_nil, or_false] at hy
    rcases hy with rfl | rfl | rfl | rfl | rfl <;> (intro z; cases z)
  · intro y hy
    rcases List.mem_cons.mp hy with rfl | hy
    · exact FO.self
    · rw [List.mem_singleton.mp hy]; exact FO.loc
  · have k1 : ∀ b o, s.heap.get? b = some o → h₁.get? b = some o := hk₁
    have X1 : K.In h₁ := X.keeps k1
    have lS : (fun y => ([(PySem.Str.ofString "self", Value.ref x), (("need" : Str), v)] : List (Str × Value)).reverse.lookup y) (PySem.Str.ofString "self") = some (.ref x) := by
      have e : (PySem.Str.ofString "self" == ("need" : Str)) = false := beq_eq_false_iff_ne.mpr (Ne.symm FO.ne)
      simp [List.lookup, e]
    have lF : (fun y => ([(PySem.Str.ofString "self", Value.ref x), (("need" : Str), v)] : List (Str × Value)).reverse.lookup y) ("need" : Str) = some v := by
      simp [List.lookup]
    have hG1 := hG.keeps k1
    have hB1 := hB.keeps k1
    have hx1 := k1 _ _ hx
    have hC1 : h₁.get? C = some _ := X1 _ _ hC
    have zL : s.heap.objs.size < h₁.objs.size := hns.lt
    obtain ⟨hp0, g, dr, tk0, os⟩ := s
    dsimp only at *
    -- super().__init__(str(v))
    refine ks_wpAt_execs_cons (ks_wpAt_Expr_any (ks_wpAt_MethodCall ?_ rfl))
    refine ks_wpAt_super_base (f := fI) (cc := cda) (fd := ksFn "__init__" qual xa_need xb_need (xS ("need" : Str)) .none .none doc pm an (.ref cda) ct cc) (vs := vs) FO.sup FO.cls (by decide) rfl (X1 _ _ ho) rfl rfl rfl (X1 _ _ hcode) rfl hvs hfile htop ?_
    refine ks_loadName_global rfl FO.sup (loadGlobal_builtin hG1 T.gS hB1 ((hBB _ (by decide +kernel)).trans (by decide +kernel)) ⟨rfl, ?_⟩)
    refine wpAny_loadName_free (c := cc) (v := .ref C) rfl FO.cls rfl ⟨_, X1 _ _ hcell, rfl⟩ ?_
    refine wpAny_loadName_local rfl FO.self hns lS ?_
    refine ks_wpAny_isType_cls hC1 rfl ⟨rfl, ?_⟩
    refine ks_wpAny_call_super hC1 rfl hx1 rfl (fun c e => by cases e) (looks_mroIn X1 T.ms) (fun h2 hso k2 => ?_)
    have X2 : K.In h2 := X1.keeps k2
    have I2 : InstAt h2 x (excO C t0) C none := ⟨k2 _ _ hx1, rfl, rfl, trivial⟩
    have hsup := T.sup
    unfold ks_superIn at hsup
    rw [hcl, Option.bind_some] at hsup
    refine kxs_getMethod kxs_ValueError (l := (((.ref C :: bm).dropWhile (· != .ref C)).drop 1)) hso (looks_opaque X2 T.tp) (l₀ := .ref C :: bm) (fun A Q E s k q => wpAny_bind ((looks_clsIn X2 hcl) A _ E s k (wpAny_pure q))) rfl X2 hsup (I2.type.andThen (looks_subIn X2 T.vE)) (fun e => by rw [e] at hnx; rw [hC] at hnx; cases hnx) (by decide) ?_
    have k3 : ∀ b o, h2.get? b = some o → (h2.push (kxs_mw "ValueError.__init__" x)).get? b = some o := fun b o e => Heap.get?_push_of_some _ e
    have hmw : (h2.push (kxs_mw "ValueError.__init__" x)).get? h2.objs.size = some (kxs_mw "ValueError.__init__" x) := Heap.get?_push_at rfl rfl
    refine kxs_callWith (i := "ValueError.__init__") (x := x) rfl ?_
    refine evalArgs_plain (spliced_cons ?_)
    -- str(v)
    have k12 : ∀ b o, hp0.get? b = some o → (h2.push (kxs_mw "ValueError.__init__" x)).get? b = some o := fun b o e => k3 b o (k2 b o (k1 b o e))
    have k13 : ∀ b o, h₁.get? b = some o → (h2.push (kxs_mw "ValueError.__init__" x)).get? b = some o := fun b o e => k3 b o (k2 b o e)
    refine wpAny_Call_Name_kw (wpAny_Name (ks_loadName_global rfl FO.str (loadGlobal_builtin (v := .type "str") (hG.keeps k12) T.gT (hB.keeps k12) ((hBB _ (by decide +kernel)).trans (by decide +kernel)) ?_)) (by decide))
    refine Pv.callWith_type1 (spliced_cons ?_)
    refine wpAny_Name (wpAny_loadName_local rfl FO.loc (hns.keeps k13) lF ?_) FO.nd
    refine spliced_nil (hz _ _ _ _ fun t1 tk1 => ?_)
    refine spliced_nil ⟨hmw, ?_⟩
    refine call_mw (rest := [.str z t1]) (k12 _ _ (X.keeps (fun _ _ e => e) _ _ hC)) (k13 _ _ hx1) hmw (by rw [sizeLine_eq]; exact (by decide : 1 ≤ 16777216)) fun h4 t4 k4 hx4 => ?_
    have hns4 : h4.Ns hp0.objs.size (fun y => ([(PySem.Str.ofString "self", Value.ref x), (("need" : Str), v)] : List (Str × Value)).reverse.lookup y) := by
      obtain ⟨oL, es, ep, hL, r⟩ := hns
      exact ⟨oL, es, ep, k4 _ _ (Nat.ne_of_gt (Heap.lt_size hx)) (k13 _ _ hL), r⟩
    have k04 : ∀ b o, b ≠ x → hp0.get? b = some o → h4.get? b = some o := fun b o hb e => k4 b o hb (k12 b o e)
    have X4 : K.In h4 := fun a o e => k04 a o (fun z => by rw [z, hnx] at e; cases e) (X a o e)
    have xL : hp0.objs.size ≠ x := Nat.ne_of_gt (Heap.lt_size hx)
    have z4 : hp0.objs.size < h4.objs.size := by
      obtain ⟨oL, es, ep, hL, r⟩ := hns4
      exact Heap.lt_size hL
    -- self.f = f
    refine wpAt_of_wpAny ?_
    refine wpAny_execs_cons (plainObj_wpAny_Assign_Attribute ?_)
    refine wpAny_Name (wpAny_loadName_local rfl FO.loc hns4 lF ?_) FO.nd
    refine wpAny_Name (wpAny_loadName_local rfl FO.self hns4 lS ?_) (by decide)
    refine set_plain X4 (ox := excO C t4) (od := none) ⟨hx4, rfl, rfl, trivial⟩ T.sa ?_
    refine exc_osa X4 hx4 hcl (show refsVE (.ref C :: bm) = true from hbm) rfl T.noN (fun h5 tk5 dx k5 dn dne hx5 hn5 => ?_)
    show wpAny _ _ (execs _ _) _ _ _
    exact wpAny_execs_nil (hq h5 tk5 dx t4 ⟨fun b o hb e => k5 b o hb (k04 b o hb e), hx5, Nat.le_of_lt (Nat.lt_of_lt_of_le z4 dn), dne, hn5⟩)
theorem exc_init_limit (T : XcT prog K mg C fI nmC qual ("limit" : Str) xa_limit xb_limit) {x t0 : Addr} {v : Value} {z : Str} (hz : StrIs (prog, w) v z) (X : K.In s.heap) (hG : s.heap.Ns mainGlobals mg) (hB : s.heap.Ns builtinsNs mb) (hBB : ∀ y : Str, y ≠ "__name__" → mb y = bootBuiltins y)
    (hlim : s.heap.NoLimit) (htop : (prog.main.scope.names.lookup ("super" : Str)).isSome = false) (hx : s.heap.get? x = some (excO C t0)) (hnx : K.lookup x = none) (hroom : A.depth < recursionLimit)
    (hq : ∀ h' tk dx t1, XEnd s.heap h' x C dx t1 ("limit" : Str) v → R (.ok (.ret .none)) { s with heap := h', toks := tk }) :
    codeAny (model prog w) A (.call (.ref fI) ⟨[.ref x, v], []⟩) R s := by
  obtain ⟨oc, od, doc, pm, an, cda, cc, ct, osl, o2, od2, vs, s2, file, tf, cl, cld, csl, ho, hcd, hcode, hvs, hfile, hcell⟩ := T.fn
  obtain ⟨nm, q, N, bs, bm, sn, sub, ab, col, dd, k0, k1, k2, k3, k5, hC, hbm⟩ := T.cls
  have FO := fldOk_limit
  have hcl : clsIn K C = some { name := nm, bases := bs, mro := .ref C :: bm, ns := N, qualname := q, hasDict := true, slotNames := sn, subclasses := sub, abstract := ab, collection := col, hasDel := false } := by unfold clsIn; rw [hC] <;> rfl
  refine ks_codeAny_call_defAt (fd := ksFn "__init__" qual xa_limit xb_limit (xS ("limit" : Str)) .none .none doc pm an (.ref cda) ct cc) (body := xb_limit) (binds := [(PySem.Str.ofString "self", .ref x), (("limit" : Str), v)])
    hroom (X _ _ ho) rfl hlim (codeRec_of X hcd) rfl (BindsTo.of_eq (by first | rfl | with_unfolding_all rfl)) ?_ ?_ (fun h₁ hns hk₁ => ?_) rfl rfl rfl
  · intro y hy
    have hy : y ∈ (xS ("limit" : Str)).names := hy
    simp only [xS, List.mem_cons, List.not_mem_nil, or_false] at hy
    rcases hy with rfl | rfl | rfl | rfl | rfl <;> (intro z; cases z)
  · intro y hy
    rcases List.mem_cons.mp hy with rfl | hy
    · exact FO.self
    · rw [List.mem_singleton.mp hy]; exact FO.loc
  · have k1 : ∀ b o, s.heap.get? b = some o → h₁.get? b = some o := hk₁
    have X1 : K.In h₁ := X.keeps k1
    have lS : (fun y => ([(PySem.Str.ofString "self", Value.ref x), (("limit" : Str), v)] : List (Str × Value)).reverse.lookup y) (PySem.Str.ofString "self") = some (.ref x) := by
      have e : (PySem.Str.ofString "self" == ("limit" : Str)) = false := beq_eq_false_iff_ne.mpr (Ne.symm FO.ne)
      simp [List.lookup, e]
    have lF : (fun y => ([(PySem.Str.ofString "self", Value.ref x), (("limit" : Str), v)] : List (Str × Value)).reverse.lookup y) ("limit" : Str) = some v := by
      simp [List.lookup]
    have hG1 := hG.keeps k1
    have hB1 := hB.keeps k1
    have hx1 := k1 _ _ hx
    have hC1 : h₁.get? C = some _ := X1 _ _ hC
    have zL : s.heap.objs.size < h₁.objs.size := hns.lt
    obtain ⟨hp0, g, dr, tk0, os⟩ := s
    dsimp only at *
    -- super().__init__(str(v))
    refine ks_wpAt_execs_cons (ks_wpAt_Expr_any (ks_wpAt_MethodCall ?_ rfl))
    refine ks_wpAt_super_base (f := fI) (cc := cda) (fd := ksFn "__init__" qual xa_limit xb_limit (xS ("limit" : Str)) .none .none doc pm an (.ref cda) ct cc) (vs := vs) FO.sup FO.cls (by decide) rfl (X1 _ _ ho) rfl rfl rfl (X1 _ _ hcode) rfl hvs hfile htop ?_
    refine ks_loadName_global rfl FO.sup (loadGlobal_builtin hG1 T.gS hB1 ((hBB _ (by decide +kernel)).trans (by decide +kernel)) ⟨rfl, ?_⟩)
    refine wpAny_loadName_free (c := cc) (v := .ref C) rfl FO.cls rfl ⟨_, X1 _ _ hcell, rfl⟩ ?_
    refine wpAny_loadName_local rfl FO.self hns lS ?_
    refine ks_wpAny_isType_cls hC1 rfl ⟨rfl, ?_⟩
    refine ks_wpAny_call_super hC1 rfl hx1 rfl (fun c e => by cases e) (looks_mroIn X1 T.ms) (fun h2 hso k2 => ?_)
    have X2 : K.In h2 := X1.keeps k2
    have I2 : InstAt h2 x (excO C t0) C none := ⟨k2 _ _ hx1, rfl, rfl, trivial⟩
    have hsup := T.sup
    unfold ks_superIn at hsup
    rw [hcl, Option.bind_some] at hsup
    refine kxs_getMethod kxs_ValueError (l := (((.ref C :: bm).dropWhile (· != .ref C)).drop 1)) hso (looks_opaque X2 T.tp) (l₀ := .ref C :: bm) (fun A Q E s k q => wpAny_bind ((looks_clsIn X2 hcl) A _ E s k (wpAny_pure q))) rfl X2 hsup (I2.type.andThen (looks_subIn X2 T.vE)) (fun e => by rw [e] at hnx; rw [hC] at hnx; cases hnx) (by decide) ?_
    have k3 : ∀ b o, h2.get? b = some o → (h2.push (kxs_mw "ValueError.__init__" x)).get? b = some o := fun b o e => Heap.get?_push_of_some _ e
    have hmw : (h2.push (kxs_mw "ValueError.__init__" x)).get? h2.objs.size = some (kxs_mw "ValueError.__init__" x) := Heap.get?_push_at rfl rfl
    refine kxs_callWith (i := "ValueError.__init__") (x := x) rfl ?_
    refine evalArgs_plain (spliced_cons ?_)
    -- str(v)
    have k12 : ∀ b o, hp0.get? b = some o → (h2.push (kxs_mw "ValueError.__init__" x)).get? b = some o := fun b o e => k3 b o (k2 b o (k1 b o e))
    have k13 : ∀ b o, h₁.get? b = some o → (h2.push (kxs_mw "ValueError.__init__" x)).get? b = some o := fun b o e => k3 b o (k2 b o e)
    refine wpAny_Call_Name_kw (wpAny_Name (ks_loadName_global rfl FO.str (loadGlobal_builtin (v := .type "str") (hG.keeps k12) T.gT (hB.keeps k12) ((hBB _ (by decide +kernel)).trans (by decide +kernel)) ?_)) (by decide))
    refine Pv.callWith_type1 (spliced_cons ?_)
    refine wpAny_Name (wpAny_loadName_local rfl FO.loc (hns.keeps k13) lF ?_) FO.nd
    refine spliced_nil (hz _ _ _ _ fun t1 tk1 => ?_)
    refine spliced_nil ⟨hmw, ?_⟩
    refine call_mw (rest := [.str z t1]) (k12 _ _ (X.keeps (fun _ _ e => e) _ _ hC)) (k13 _ _ hx1) hmw (by rw [sizeLine_eq]; exact (by decide : 1 ≤ 16777216)) fun h4 t4 k4 hx4 => ?_
    have hns4 : h4.Ns hp0.objs.size (fun y => ([(PySem.Str.ofString "self", Value.ref x), (("limit" : Str), v)] : List (Str × Value)).reverse.lookup y) := by
      obtain ⟨oL, es, ep, hL, r⟩ := hns
      exact ⟨oL, es, ep, k4 _ _ (Nat.ne_of_gt (Heap.lt_size hx)) (k13 _ _ hL), r⟩
    have k04 : ∀ b o, b ≠ x → hp0.get? b = some o → h4.get? b = some o := fun b o hb e => k4 b o hb (k12 b o e)
    have X4 : K.In h4 := fun a o e => k04 a o (fun z => by rw [z, hnx] at e; cases e) (X a o e)
    have xL : hp0.objs.size ≠ x := Nat.ne_of_gt (Heap.lt_size hx)
    have z4 : hp0.objs.size < h4.objs.size := by
      obtain ⟨oL, es, ep, hL, r⟩ := hns4
      exact Heap.lt_size hL
    -- self.f = f
    refine wpAt_of_wpAny ?_
    refine wpAny_execs_cons (plainObj_wpAny_Assign_Attribute ?_)
    refine wpAny_Name (wpAny_loadName_local rfl FO.loc hns4 lF ?_) FO.nd
    refine wpAny_Name (wpAny_loadName_local rfl FO.self hns4 lS ?_) (by decide)
    refine set_plain X4 (ox := excO C t4) (od := none) ⟨hx4, rfl, rfl, trivial⟩ T.sa ?_
    refine exc_osa X4 hx4 hcl (show refsVE (.ref C :: bm) = true from hbm) rfl T.noN (fun h5 tk5 dx k5 dn dne hx5 hn5 => ?_)
    show wpAny _ _ (execs _ _) _ _ _
    exact wpAny_execs_nil (hq h5 tk5 dx t4 ⟨fun b o hb e => k5 b o hb (k04 b o hb e), hx5, Nat.le_of_lt (Nat.lt_of_lt_of_le z4 dn), dne, hn5⟩)
theorem exc_init_why (T : XcT prog K mg C fI nmC qual ("why" : Str) xa_why xb_why) {x t0 : Addr} {v : Value} {z : Str} (hz : StrIs (prog, w) v z) (X : K.In s.heap) (hG : s.heap.Ns mainGlobals mg) (hB : s.heap.Ns builtinsNs mb) (hBB : ∀ y : Str, y ≠ "__name__" → mb y = bootBuiltins y)
    (hlim : s.heap.NoLimit) (htop : (prog.main.scope.names.lookup ("super" : Str)).isSome = false) (hx : s.heap.get? x = some (excO C t0)) (hnx : K.lookup x = none) (hroom : A.depth < recursionLimit)
    (hq : ∀ h' tk dx t1, XEnd s.heap h' x C dx t1 ("why" : Str) v → R (.ok (.ret .none)) { s with heap := h', toks := tk }) :
    codeAny (model prog w) A (.call (.ref fI) ⟨[.ref x, v], []⟩) R s := by
  obtain ⟨oc, od, doc, pm, an, cda, cc, ct, osl, o2, od2, vs, s2, file, tf, cl, cld, csl, ho, hcd, hcode, hvs, hfile, hcell⟩ := T.fn
  obtain ⟨nm, q, N, bs, bm, sn, sub, ab, col, dd, k0, k1, k2, k3, k5, hC, hbm⟩ := T.cls
  have FO := fldOk_why
  have hcl : clsIn K C = some { name := nm, bases := bs, mro := .ref C :: bm, ns := N, qualname := q, hasDict := true, slotNames := sn, subclasses := sub, abstract := ab, collection := col, hasDel := false } := by unfold clsIn; rw [hC] <;> rfl
  refine ks_codeAny_call_defAt (fd := ksFn "__init__" qual xa_why xb_why (xS ("why" : Str)) .none .none doc pm an (.ref cda) ct cc) (body := xb_why) (binds := [(PySem.Str.ofString "self", .ref x), (("why" : Str), v)])
    hroom (X _ _ ho) rfl hlim (codeRec_of X hcd) rfl (BindsTo.of_eq (by first | rfl | with_unfolding_all rfl)) ?_ ?_ (fun h₁ hns hk₁ => ?_) rfl rfl rfl
  · intro y hy
    have hy : y ∈ (xS ("why" : Str)).names := hy
    simp only [xS, List.mem_cons, List.not_mem_nil, or_false] at hy
    rcases hy with rfl | rfl | rfl | rfl | rfl <;> (intro z; cases z)
  · intro y hy
    rcases List.mem_cons.mp hy with rfl | hy
    · exact FO.self
    · rw [List.mem_singleton.mp hy]; exact FO.loc
  · have k1 : ∀ b o, s.heap.get? b = some o → h₁.get? b = some o := hk₁
    have X1 : K.In h₁ := X.keeps k1
    have lS : (fun y => ([(PySem.Str.ofString "self", Value.ref x), (("why" : Str), v)] : List (Str × Value)).reverse.lookup y) (PySem.Str.ofString "self") = some (.ref x) := by
      have e : (PySem.Str.ofString "self" == ("why" : Str)) = false := beq_eq_false_iff_ne.mpr (Ne.symm FO.ne)
      simp [List.lookup, e]
    have lF : (fun y => ([(PySem.Str.ofString "self", Value.ref x), (("why" : Str), v)] : List (Str × Value)).reverse.lookup y) ("why" : Str) = some v := by
      simp [List.lookup]
    have hG1 := hG.keeps k1
    have hB1 := hB.keeps k1
    have hx1 := k1 _ _ hx
    have hC1 : h₁.get? C = some _ := X1 _ _ hC
    have zL : s.heap.objs.size < h₁.objs.size := hns.lt
    obtain ⟨hp0, g, dr, tk0, os⟩ := s
    dsimp only at *
    -- super().__init__(str(v))
    refine ks_wpAt_execs_cons (ks_wpAt_Expr_any (ks_wpAt_MethodCall ?_ rfl))
    refine ks_wpAt_super_base (f := fI) (cc := cda) (fd := ksFn "__init__" qual xa_why xb_why (xS ("why" : Str)) .none .none doc pm an (.ref cda) ct cc) (vs := vs) FO.sup FO.cls (by decide) rfl (X1 _ _ ho) rfl rfl rfl (X1 _ _ hcode) rfl hvs hfile htop ?_
    refine ks_loadName_global rfl FO.sup (loadGlobal_builtin hG1 T.gS hB1 ((hBB _ (by decide +kernel)).trans (by decide +kernel)) ⟨rfl, ?_⟩)
    refine wpAny_loadName_free (c := cc) (v := .ref C) rfl FO.cls rfl ⟨_, X1 _ _ hcell, rfl⟩ ?_
    refine wpAny_loadName_local rfl FO.self hns lS ?_
    refine ks_wpAny_isType_cls hC1 rfl ⟨rfl, ?_⟩
    refine ks_wpAny_call_super hC1 rfl hx1 rfl (fun c e => by cases e) (looks_mroIn X1 T.ms) (fun h2 hso k2 => ?_)
    have X2 : K.In h2 := X1.keeps k2
    have I2 : InstAt h2 x (excO C t0) C none := ⟨k2 _ _ hx1, rfl, rfl, trivial⟩
    have hsup := T.sup
    unfold ks_superIn at hsup
    rw [hcl, Option.bind_some] at hsup
    refine kxs_getMethod kxs_ValueError (l := (((.ref C :: bm).dropWhile (· != .ref C)).drop 1)) hso (looks_opaque X2 T.tp) (l₀ := .ref C :: bm) (fun A Q E s k q => wpAny_bind ((looks_clsIn X2 hcl) A _ E s k (wpAny_pure q))) rfl X2 hsup (I2.type.andThen (looks_subIn X2 T.vE)) (fun e => by rw [e] at hnx; rw [hC] at hnx; cases hnx) (by decide) ?_
    have k3 : ∀ b o, h2.get? b = some o → (h2.push (kxs_mw "ValueError.__init__" x)).get? b = some o := fun b o e => Heap.get?_push_of_some _ e
    have hmw : (h2.push (kxs_mw "ValueError.__init__" x)).get? h2.objs.size = some (kxs_mw "ValueError.__init__" x) := Heap.get?_push_at rfl rfl
    refine kxs_callWith (i := "ValueError.__init__") (x := x) rfl ?_
    refine evalArgs_plain (spliced_cons ?_)
    -- str(v)
    have k12 : ∀ b o, hp0.get? b = some o → (h2.push (kxs_mw "ValueError.__init__" x)).get? b = some o := fun b o e => k3 b o (k2 b o (k1 b o e))
    have k13 : ∀ b o, h₁.get? b = some o → (h2.push (kxs_mw "ValueError.__init__" x)).get? b = some o := fun b o e => k3 b o (k2 b o e)
    refine wpAny_Call_Name_kw (wpAny_Name (ks_loadName_global rfl FO.str (loadGlobal_builtin (v := .type "str") (hG.keeps k12) T.gT (hB.keeps k12) ((hBB _ (by decide +kernel)).trans (by decide +kernel)) ?_)) (by decide))
    refine Pv.callWith_type1 (spliced_cons ?_)
    refine wpAny_Name (wpAny_loadName_local rfl FO.loc (hns.keeps k13) lF ?_) FO.nd
    refine spliced_nil (hz _ _ _ _ fun t1 tk1 => ?_)
    refine spliced_nil ⟨hmw, ?_⟩
    refine call_mw (rest := [.str z t1]) (k12 _ _ (X.keeps (fun _ _ e => e) _ _ hC)) (k13 _ _ hx1) hmw (by rw [sizeLine_eq]; exact (by decide : 1 ≤ 16777216)) fun h4 t4 k4 hx4 => ?_
    have hns4 : h4.Ns hp0.objs.size (fun y => ([(PySem.Str.ofString "self", Value.ref x), (("why" : Str), v)] : List (Str × Value)).reverse.lookup y) := by
      obtain ⟨oL, es, ep, hL, r⟩ := hns
      exact ⟨oL, es, ep, k4 _ _ (Nat.ne_of_gt (Heap.lt_size hx)) (k13 _ _ hL), r⟩
    have k04 : ∀ b o, b ≠ x → hp0.get? b = some o → h4.get? b = some o := fun b o hb e => k4 b o hb (k12 b o e)
    have X4 : K.In h4 := fun a o e => k04 a o (fun z => by rw [z, hnx] at e; cases e) (X a o e)
    have xL : hp0.objs.size ≠ x := Nat.ne_of_gt (Heap.lt_size hx)
    have z4 : hp0.objs.size < h4.objs.size := by
      obtain ⟨oL, es, ep, hL, r⟩ := hns4
      exact Heap.lt_size hL
    -- self.f = f
    refine wpAt_of_wpAny ?_
    refine wpAny_execs_cons (plainObj_wpAny_Assign_Attribute ?_)
    refine wpAny_Name (wpAny_loadName_local rfl FO.loc hns4 lF ?_) FO.nd
    refine wpAny_Name (wpAny_loadName_local rfl FO.self hns4 lS ?_) (by decide)
    refine set_plain X4 (ox := excO C t4) (od := none) ⟨hx4, rfl, rfl, trivial⟩ T.sa ?_
    refine exc_osa X4 hx4 hcl (show refsVE (.ref C :: bm) = true from hbm) rfl T.noN (fun h5 tk5 dx k5 dn dne hx5 hn5 => ?_)
    show wpAny _ _ (execs _ _) _ _ _
    exact wpAny_execs_nil (hq h5 tk5 dx t4 ⟨fun b o hb e => k5 b o hb (k04 b o hb e), hx5, Nat.le_of_lt (Nat.lt_of_lt_of_le z4 dn), dne, hn5⟩)
theorem exc_made_need (T : XcT prog K mg C fI nmC qual ("need" : Str) xa_need xb_need) {v : Value} {z : Str} (hz : StrIs (prog, w) v z) (X : K.In s.heap) (hG : s.heap.Ns mainGlobals mg) (hB : s.heap.Ns builtinsNs mb) (hBB : ∀ y : Str, y ≠ "__name__" → mb y = bootBuiltins y)
    (hlim : s.heap.NoLimit) (htop : (prog.main.scope.names.lookup ("super" : Str)).isSome = false) (hroom : A.depth + 1 < recursionLimit)
    (hq : ∀ h' tk e d t1, XMade s.heap h' e C d t1 ("need" : Str) v → R (.ok (.ret (.ref e))) { s with heap := h', toks := tk }) :
    codeAny (model prog w) A (.call (.ref C) ⟨[v], []⟩) R s := by
  obtain ⟨nm, q, N, bs, bm, sn, sub, ab, col, dd, k0, k1, k2, k3, k5, hC, hbm⟩ := T.cls
  obtain ⟨hp, g, dr, tk, os⟩ := s
  have k : ∀ b o, hp.get? b = some o → ((hp.push (kdv_tup [v])).push (excO C hp.objs.size)).get? b = some o := fun b o e => Heap.get?_push_of_some _ (Heap.get?_push_of_some _ e)
  have hget : ((hp.push (kdv_tup [v])).push (excO C hp.objs.size)).get? (hp.objs.size + 1) = some (excO C hp.objs.size) := by heap_get
  have hnx : K.lookup (hp.objs.size + 1) = none := by
    cases e : K.lookup (hp.objs.size + 1) with
    | none => rfl
    | some o =>
      have z : hp.get? (hp.objs.size + 1) = some o := X _ _ e
      exact absurd (Nat.lt_of_succ_lt (Heap.lt_size z)) (Nat.lt_irrefl _)
  refine call_own F.excBase_ValueError (fun X => refsVE_contains X bm hbm) (X _ _ hC) (looks_findIn X T.iC) (fun self => bind_fn X self T.tC) (one_size v) ?_
  refine exc_init_need (s := ⟨(hp.push (kdv_tup [v])).push (excO C hp.objs.size), g, dr, tk, os⟩) T hz (X.keeps k) (hG.keeps k) (hB.keeps k) hBB (hlim.keeps k) htop hget hnx ?_ fun h' tk' dx t1 ⟨k', hx, dn, dne, hns⟩ => ?_
  · show A.depth + 1 < recursionLimit
    exact hroom
  · have old : ∀ b o, hp.get? b = some o → h'.get? b = some o := fun b o e => k' b o (Nat.ne_of_lt (Nat.lt_succ_of_lt (Heap.lt_size e))) (k b o e)
    have z : hp.objs.size + 1 + 1 ≤ dx := by
      first
        | (simpa only [Heap.size_push] using dn)
        | exact dn
        | (have q := dn; rw [Heap.size_push, Heap.size_push] at q; exact q)
    exact ⟨rfl, hq h' tk' (hp.objs.size + 1) dx t1 ⟨old, Nat.le_succ _, hx, Nat.le_trans (Nat.le_trans (Nat.le_succ _) (Nat.le_succ _)) z, dne, hns⟩⟩
theorem exc_made_limit (T : XcT prog K mg C fI nmC qual ("limit" : Str) xa_limit xb_limit) {v : Value} {z : Str} (hz : StrIs (prog, w) v z) (X : K.In s.heap) (hG : s.heap.Ns mainGlobals mg) (hB : s.heap.Ns builtinsNs mb) (hBB : ∀ y : Str, y ≠ "__name__" → mb y = bootBuiltins y)
    (hlim : s.heap.NoLimit) (htop : (prog.main.scope.names.lookup ("super" : Str)).isSome = false) (hroom : A.depth + 1 < recursionLimit)
    (hq : ∀ h' tk e d t1, XMade s.heap h' e C d t1 ("limit" : Str) v → R (.ok (.ret (.ref e))) { s with heap := h', toks := tk }) :
    codeAny (model prog w) A (.call (.ref C) ⟨[v], []⟩) R s := by
  obtain ⟨nm, q, N, bs, bm, sn, sub, ab, col, dd, k0, k1, k2, k3, k5, hC, hbm⟩ := T.cls
  obtain ⟨hp, g, dr, tk, os⟩ := s
  have k : ∀ b o, hp.get? b = some o → ((hp.push (kdv_tup [v])).push (excO C hp.objs.size)).get? b = some o := fun b o e => Heap.get?_push_of_some _ (Heap.get?_push_of_some _ e)
  have hget : ((hp.push (kdv_tup [v])).push (excO C hp.objs.size)).get? (hp.objs.size + 1) = some (excO C hp.objs.size) := by heap_get
  have hnx : K.lookup (hp.objs.size + 1) = none := by
    cases e : K.lookup (hp.objs.size + 1) with
    | none => rfl
    | some o =>
      have z : hp.get? (hp.objs.size + 1) = some o := X _ _ e
      exact absurd (Nat.lt_of_succ_lt (Heap.lt_size z)) (Nat.lt_irrefl _)
  refine call_own F.excBase_ValueError (fun X => refsVE_contains X bm hbm) (X _ _ hC) (looks_findIn X T.iC) (fun self => bind_fn X self T.tC) (one_size v) ?_
  refine exc_init_limit (s := ⟨(hp.push (kdv_tup [v])).push (excO C hp.objs.size), g, dr, tk, os⟩) T hz (X.keeps k) (hG.keeps k) (hB.keeps k) hBB (hlim.keeps k) htop hget hnx ?_ fun h' tk' dx t1 ⟨k', hx, dn, dne, hns⟩ => ?_
  · show A.depth + 1 < recursionLimit
    exact hroom
  · have old : ∀ b o, hp.get? b = some o → h'.get? b = some o := fun b o e => k' b o (Nat.ne_of_lt (Nat.lt_succ_of_lt (Heap.lt_size e))) (k b o e)
    have z : hp.objs.size + 1 + 1 ≤ dx := by
      first
        | (simpa only [Heap.size_push] using dn)
        | exact dn
        | (have q := dn; rw [Heap.size_push, Heap.size_push] at q; exact q)
    exact ⟨rfl, hq h' tk' (hp.objs.size + 1) dx t1 ⟨old, Nat.le_succ _, hx, Nat.le_trans (Nat.le_trans (Nat.le_succ _) (Nat.le_succ _)) z, dne, hns⟩⟩
theorem exc_made_why (T : XcT prog K mg C fI nmC qual ("why" : Str) xa_why xb_why) {v : Value} {z : Str} (hz : StrIs (prog, w) v z) (X : K.In s.heap) (hG : s.heap.Ns mainGlobals mg) (hB : s.heap.Ns builtinsNs mb) (hBB : ∀ y : Str, y ≠ "__name__" → mb y = bootBuiltins y)
    (hlim : s.heap.NoLimit) (htop : (prog.main.scope.names.lookup ("super" : Str)).isSome = false) (hroom : A.depth + 1 < recursionLimit)
    (hq : ∀ h' tk e d t1, XMade s.heap h' e C d t1 ("why" : Str) v → R (.ok (.ret (.ref e))) { s with heap := h', toks := tk }) :
    codeAny (model prog w) A (.call (.ref C) ⟨[v], []⟩) R s := by
  obtain ⟨nm, q, N, bs, bm, sn, sub, ab, col, dd, k0, k1, k2, k3, k5, hC, hbm⟩ := T.cls
  obtain ⟨hp, g, dr, tk, os⟩ := s
  have k : ∀ b o, hp.get? b = some o → ((hp.push (kdv_tup [v])).push (excO C hp.objs.size)).get? b = some o := fun b o e => Heap.get?_push_of_some _ (Heap.get?_push_of_some _ e)
  have hget : ((hp.push (kdv_tup [v])).push (excO C hp.objs.size)).get? (hp.objs.size + 1) = some (excO C hp.objs.size) := by heap_get
  have hnx : K.lookup (hp.objs.size + 1) = none := by
    cases e : K.lookup (hp.objs.size + 1) with
    | none => rfl
    | some o =>
      have z : hp.get? (hp.objs.size + 1) = some o := X _ _ e
      exact absurd (Nat.lt_of_succ_lt (Heap.lt_size z)) (Nat.lt_irrefl _)
  refine call_own F.excBase_ValueError (fun X => refsVE_contains X bm hbm) (X _ _ hC) (looks_findIn X T.iC) (fun self => bind_fn X self T.tC) (one_size v) ?_
  refine exc_init_why (s := ⟨(hp.push (kdv_tup [v])).push (excO C hp.objs.size), g, dr, tk, os⟩) T hz (X.keeps k) (hG.keeps k) (hB.keeps k) hBB (hlim.keeps k) htop hget hnx ?_ fun h' tk' dx t1 ⟨k', hx, dn, dne, hns⟩ => ?_
  · show A.depth + 1 < recursionLimit
    exact hroom
  · have old : ∀ b o, hp.get? b = some o → h'.get? b = some o := fun b o e => k' b o (Nat.ne_of_lt (Nat.lt_succ_of_lt (Heap.lt_size e))) (k b o e)
    have z : hp.objs.size + 1 + 1 ≤ dx := by
      first
        | (simpa only [Heap.size_push] using dn)
        | exact dn
        | (have q := dn; rw [Heap.size_push, Heap.size_push] at q; exact q)
    exact ⟨rfl, hq h' tk' (hp.objs.size + 1) dx t1 ⟨old, Nat.le_succ _, hx, Nat.le_trans (Nat.le_trans (Nat.le_succ _) (Nat.le_succ _)) z, dne, hns⟩⟩
end
end K9
namespace K9
open PySem PySem.Spec PyProof.Rows L2
def strOk : V → Prop
  | .int n => n.natAbs.log2 < 1920
  | .str _ => True
  | _ => False
theorem strIs_of {M : Program × World} {v : V} {u : Value} (r : RelV v u) (h : strOk v) : ∃ z, StrIs M u z := by
  cases v with
  | int n => obtain ⟨t, rfl⟩ := r; exact ⟨_, strIs_int h⟩
  | str x => obtain ⟨t, rfl⟩ := r; exact ⟨_, strIs_str⟩
  | _ => exact h.elim
theorem relO_one {fld : Str} {v : V} {v' : Value} (r : RelV v v') (f : Str) : RelO (List.lookup f [(fld, v)]) (if f = fld then some v' else none) := by
  by_cases hw : f = fld
  · subst hw
    rw [if_pos rfl]
    have q : List.lookup f [(f, v)] = some v := by simp [List.lookup]
    rw [q]
    exact r
  · rw [if_neg hw]
    have qw : (f == fld) = false := by simpa using hw
    have q2 : List.lookup f [(fld, v)] = none := by simp [List.lookup, qw]
    rw [q2]
    trivial
section
variable {X : Cx} {C fI : Addr} {nmC qual : Str}
/-- C(e), the field fld -/
def tMkX (C : Addr) (fld : Str) (ta : TA) : St → Hp → XK → Prop := fun σ H Q => ta σ H fun vs H1 => ∃ v, vs = [v] ∧ strOk v ∧ ∀ d, H1 d = none → Q (.ref C) (some d) (upd H1 d (.xd [(fld, v)]))
theorem pmk_need {a : Expr} {ta : TA} {p pos : Pos} {k : Nat} (T : XcT X.prog X.K X.mg C fI nmC qual ("need" : Str) xa_need xb_need) (htop : (X.prog.main.scope.names.lookup ("super" : Str)).isSome = false) (hr : Room k X.A) (ha : PA X [a] ta) (hg : Gl X nmC := by rfl)
    (he : starEach (a :: []) X.env = (false, eval a X.env) :: starEach [] X.env := by rfl) (hpl : (backTo pos (starEach [] X.env)).any (·.1) = false := by rfl) (hd : (nmC == ("__debug__" : Str)) = false := by decide) :
    L2N.PMk X (.Call (.Name nmC p) [a] [] pos) (tMkX C ("need" : Str) ta) := by
  intro pins s σ H Q I h
  refine wpAny_Call_Name_kw (ld_glob I hg T.gC ?_ hd)
  refine PySem.W.callWith_K (h₀ := X.base) I.ok.mod.kin T.kC (thn (ha.run pos pins s σ H _ I h) fun us s1 hh => ?_) he hpl
  obtain ⟨vs, H1, I1, r1, v, ev, sv, q1⟩ := hh
  subst ev
  refine ⟨I1.kIn, ?_⟩
  cases r1 with
  | cons rv rn =>
    rename_i v' us'
    cases rn
    show wpAny _ _ (call (.ref C) [v']) _ _ _
    have hlim := I1.nolimit
    obtain ⟨z, hz⟩ := strIs_of (M := (X.prog, X.w)) rv sv
    obtain ⟨mb, hb1, hb2⟩ := I1.mod.blt
    have hG := I1.mod.glob.keeps I1.bk
    have hB := hb1.keeps I1.bk
    obtain ⟨hp, g, dr, tk, os⟩ := s1
    refine wpAny_call (exc_made_need T hz I1.kIn hG hB hb2 hlim htop (by have := hr.dp; omega) fun h' tk' e d t1 M => ?_)
    show L2N.MkP X pins σ Q (.ref e) ⟨h', g, dr, tk', os⟩
    have hoe := M.obj
    have hns := M.ns
    obtain ⟨G', g1, g2⟩ := restrict h' fun b => decide (b ≠ e)
    have gk : ∀ b, b ≠ e → G'.get? b = h'.get? b := fun b hb => g1 b (decide_eq_true hb)
    have ge : G'.get? e = none := g2 e (by simp)
    have old : ∀ b o, hp.get? b = some o → G'.get? b = some o := fun b o q => (gk b (Nat.ne_of_lt (Nat.lt_of_lt_of_le (Heap.lt_size q) M.new))).trans (M.keep b o q)
    have ob : ObjOk X.prog X.w (upd H1 d (.xd [(("need" : Str), v)])) G' d (.xd [(("need" : Str), v)]) :=
      ⟨_, hns.at (fun o q => (gk d M.dne).trans q), fun f => relO_one rv f⟩
    have J : Inv X pins σ (upd H1 d (.xd [(("need" : Str), v)])) ⟨G', g, dr, tk', os⟩ := I1.laid (t' := tk') old M.dbig ob
    refine ⟨e, _, _, ⟨G', g, dr, tk', os⟩, _, .ref C, some d, rfl, J, fun b o q => ?_, ge, hoe, ⟨rfl, rfl, fun vs e => by cases e; rfl⟩, rfl, rfl, ?_, rfl, I1.bare, raises_own T.exC T.tyC, q1 d (I1.hok.fresh M.dbig)⟩
    · by_cases hb : b = e
      · have q' : G'.get? b = some o := q
        rw [hb, ge] at q'; cases q'
      · exact (gk b hb).symm.trans q
    · rw [upd_ne (Ne.symm M.dne)]
      exact I1.hok.fresh M.new
theorem pmk_limit {a : Expr} {ta : TA} {p pos : Pos} {k : Nat} (T : XcT X.prog X.K X.mg C fI nmC qual ("limit" : Str) xa_limit xb_limit) (htop : (X.prog.main.scope.names.lookup ("super" : Str)).isSome = false) (hr : Room k X.A) (ha : PA X [a] ta) (hg : Gl X nmC := by rfl)
    (he : starEach (a :: []) X.env = (false, eval a X.env) :: starEach [] X.env := by rfl) (hpl : (backTo pos (starEach [] X.env)).any (·.1) = false := by rfl) (hd : (nmC == ("__debug__" : Str)) = false := by decide) :
    L2N.PMk X (.Call (.Name nmC p) [a] [] pos) (tMkX C ("limit" : Str) ta) := by
  intro pins s σ H Q I h
  refine wpAny_Call_Name_kw (ld_glob I hg T.gC ?_ hd)
  refine PySem.W.callWith_K (h₀ := X.base) I.ok.mod.kin T.kC (thn (ha.run pos pins s σ H _ I h) fun us s1 hh => ?_) he hpl
  obtain ⟨vs, H1, I1, r1, v, ev, sv, q1⟩ := hh
  subst ev
  refine ⟨I1.kIn, ?_⟩
  cases r1 with
  | cons rv rn =>
    rename_i v' us'
    cases rn
    show wpAny _ _ (call (.ref C) [v']) _ _ _
    have hlim := I1.nolimit
    obtain ⟨z, hz⟩ := strIs_of (M := (X.prog, X.w)) rv sv
    obtain ⟨mb, hb1, hb2⟩ := I1.mod.blt
    have hG := I1.mod.glob.keeps I1.bk
    have hB := hb1.keeps I1.bk
    obtain ⟨hp, g, dr, tk, os⟩ := s1
    refine wpAny_call (exc_made_limit T hz I1.kIn hG hB hb2 hlim htop (by have := hr.dp; omega) fun h' tk' e d t1 M => ?_)
    show L2N.MkP X pins σ Q (.ref e) ⟨h', g, dr, tk', os⟩
    have hoe := M.obj
    have hns := M.ns
    obtain ⟨G', g1, g2⟩ := restrict h' fun b => decide (b ≠ e)
    have gk : ∀ b, b ≠ e → G'.get? b = h'.get? b := fun b hb => g1 b (decide_eq_true hb)
    have ge : G'.get? e = none := g2 e (by simp)
    have old : ∀ b o, hp.get? b = some o → G'.get? b = some o := fun b o q => (gk b (Nat.ne_of_lt (Nat.lt_of_lt_of_le (Heap.lt_size q) M.new))).trans (M.keep b o q)
    have ob : ObjOk X.prog X.w (upd H1 d (.xd [(("limit" : Str), v)])) G' d (.xd [(("limit" : Str), v)]) :=
      ⟨_, hns.at (fun o q => (gk d M.dne).trans q), fun f => relO_one rv f⟩
    have J : Inv X pins σ (upd H1 d (.xd [(("limit" : Str), v)])) ⟨G', g, dr, tk', os⟩ := I1.laid (t' := tk') old M.dbig ob
    refine ⟨e, _, _, ⟨G', g, dr, tk', os⟩, _, .ref C, some d, rfl, J, fun b o q => ?_, ge, hoe, ⟨rfl, rfl, fun vs e => by cases e; rfl⟩, rfl, rfl, ?_, rfl, I1.bare, raises_own T.exC T.tyC, q1 d (I1.hok.fresh M.dbig)⟩
    · by_cases hb : b = e
      · have q' : G'.get? b = some o := q
        rw [hb, ge] at q'; cases q'
      · exact (gk b hb).symm.trans q
    · rw [upd_ne (Ne.symm M.dne)]
      exact I1.hok.fresh M.new
theorem pmk_why {a : Expr} {ta : TA} {p pos : Pos} {k : Nat} (T : XcT X.prog X.K X.mg C fI nmC qual ("why" : Str) xa_why xb_why) (htop : (X.prog.main.scope.names.lookup ("super" : Str)).isSome = false) (hr : Room k X.A) (ha : PA X [a] ta) (hg : Gl X nmC := by rfl)
    (he : starEach (a :: []) X.env = (false, eval a X.env) :: starEach [] X.env := by rfl) (hpl : (backTo pos (starEach [] X.env)).any (·.1) = false := by rfl) (hd : (nmC == ("__debug__" : Str)) = false := by decide) :
    L2N.PMk X (.Call (.Name nmC p) [a] [] pos) (tMkX C ("why" : Str) ta) := by
  intro pins s σ H Q I h
  refine wpAny_Call_Name_kw (ld_glob I hg T.gC ?_ hd)
  refine PySem.W.callWith_K (h₀ := X.base) I.ok.mod.kin T.kC (thn (ha.run pos pins s σ H _ I h) fun us s1 hh => ?_) he hpl
  obtain ⟨vs, H1, I1, r1, v, ev, sv, q1⟩ := hh
  subst ev
  refine ⟨I1.kIn, ?_⟩
  cases r1 with
  | cons rv rn =>
    rename_i v' us'
    cases rn
    show wpAny _ _ (call (.ref C) [v']) _ _ _
    have hlim := I1.nolimit
    obtain ⟨z, hz⟩ := strIs_of (M := (X.prog, X.w)) rv sv
    obtain ⟨mb, hb1, hb2⟩ := I1.mod.blt
    have hG := I1.mod.glob.keeps I1.bk
    have hB := hb1.keeps I1.bk
    obtain ⟨hp, g, dr, tk, os⟩ := s1
    refine wpAny_call (exc_made_why T hz I1.kIn hG hB hb2 hlim htop (by have := hr.dp; omega) fun h' tk' e d t1 M => ?_)
    show L2N.MkP X pins σ Q (.ref e) ⟨h', g, dr, tk', os⟩
    have hoe := M.obj
    have hns := M.ns
    obtain ⟨G', g1, g2⟩ := restrict h' fun b => decide (b ≠ e)
    have gk : ∀ b, b ≠ e → G'.get? b = h'.get? b := fun b hb => g1 b (decide_eq_true hb)
    have ge : G'.get? e = none := g2 e (by simp)
    have old : ∀ b o, hp.get? b = some o → G'.get? b = some o := fun b o q => (gk b (Nat.ne_of_lt (Nat.lt_of_lt_of_le (Heap.lt_size q) M.new))).trans (M.keep b o q)
    have ob : ObjOk X.prog X.w (upd H1 d (.xd [(("why" : Str), v)])) G' d (.xd [(("why" : Str), v)]) :=
      ⟨_, hns.at (fun o q => (gk d M.dne).trans q), fun f => relO_one rv f⟩
    have J : Inv X pins σ (upd H1 d (.xd [(("why" : Str), v)])) ⟨G', g, dr, tk', os⟩ := I1.laid (t' := tk') old M.dbig ob
    refine ⟨e, _, _, ⟨G', g, dr, tk', os⟩, _, .ref C, some d, rfl, J, fun b o q => ?_, ge, hoe, ⟨rfl, rfl, fun vs e => by cases e; rfl⟩, rfl, rfl, ?_, rfl, I1.bare, raises_own T.exC T.tyC, q1 d (I1.hok.fresh M.dbig)⟩
    · by_cases hb : b = e
      · have q' : G'.get? b = some o := q
        rw [hb, ge] at q'; cases q'
      · exact (gk b hb).symm.trans q
    · rw [upd_ne (Ne.symm M.dne)]
      exact I1.hok.fresh M.new
end
end K9
end
section
set_option Elab.async false
set_option linter.all false
set_option maxRecDepth 100000
set_option maxHeartbeats 4000000
/-! What a piece of code owns of the heap: cells, their addresses apart; all else (but the code tables) is kept. -/
namespace K9
open PySem PySem.Spec PyProof.Rows L2 LamX
abbrev Cell := Addr × HO
def Plain : HO → Prop
  | .tbl _ => False
  | .ext _ => False
  | _ => True
theorem Plain.tbl {o : HO} (h : Plain o) : ∀ ps, o ≠ .tbl ps := fun ps e => by subst e; exact h
theorem Plain.code {o : HO} {c : Addr} {q : Str} (h : Plain o) : o ≠ CodeO c q := fun e => by subst e; exact h
abbrev adr (cs : List Cell) : List Addr := cs.map (·.1)
structure Own (T : List (Addr × Str)) (F : List Addr) (H0 : Hp) (cs : List Cell) (H : Hp) : Prop where
  is : ∀ c ∈ cs, H c.1 = some c.2
  nd : (adr cs).Nodup
  pl : ∀ c ∈ cs, Plain c.2
  tb : Tabs T H
  fr : ∀ b o, H0 b = some o → b ∉ F → (∀ ps, o ≠ .tbl ps) → H b = some o
  nw : ∀ c ∈ cs, c.1 ∈ F ∨ Free H0 c.1
section
variable {T : List (Addr × Str)} {F : List Addr} {H0 H H' : Hp} {cs ds es rest : List Cell} {a b p : Addr} {o o' : HO}
theorem Free.no {b : Addr} {o : HO} (h : Free H b) (e : H b = some o) (n : ∀ ps, o ≠ .tbl ps) : False := by
  obtain ⟨ps, rfl⟩ := h o e
  exact n ps rfl
theorem Own.get (W : Own T F H0 cs H) (i : Nat) {c : Cell} (h : cs[i]? = some c) : H c.1 = some c.2 := W.is c (List.mem_of_getElem? h)
/-- one takes over what one holds -/
theorem Own.start (W : Own T F H0 cs H) : Own T (adr cs) H cs H := ⟨W.is, W.nd, W.pl, W.tb, fun b o e _ _ => e, fun c hc => .inl (List.mem_map.mpr ⟨c, hc, rfl⟩)⟩
theorem Own.mem_of (W : Own T F H0 cs H) (hs : ∀ c ∈ ds, c ∈ cs) (nd : (adr ds).Nodup) : Own T F H0 ds H := ⟨fun c hc => W.is c (hs c hc), nd, fun c hc => W.pl c (hs c hc), W.tb, W.fr, fun c hc => W.nw c (hs c hc)⟩
theorem Own.perm (W : Own T F H0 cs H) (hp : cs.Perm ds) : Own T F H0 ds H := W.mem_of (fun c hc => hp.mem_iff.mpr hc) ((hp.map _).nodup_iff.mp W.nd)
theorem Own.sub (W : Own T F H0 cs H) (hs : ds.Sublist cs) : Own T F H0 ds H := W.mem_of (fun c hc => hs.subset hc) (W.nd.sublist (hs.map _))
theorem Own.left (W : Own T F H0 (cs ++ ds) H) : Own T F H0 cs H := W.sub (List.sublist_append_left _ _)
theorem Own.right (W : Own T F H0 (cs ++ ds) H) : Own T F H0 ds H := W.sub (List.sublist_append_right _ _)
theorem Own.comm (W : Own T F H0 (cs ++ ds) H) : Own T F H0 (ds ++ cs) H := W.perm List.perm_append_comm
theorem tabs_at {T : List (Addr × Str)} (t : Tabs T H) (k : ∀ b o, H b = some o → ¬ Plain o → H' b = some o) : Tabs T H' := fun p hp => by
  obtain ⟨ps, h1, h2, h3⟩ := t p hp
  refine ⟨ps, k _ _ h1 (fun z => z), h2, fun pos cv hc => ?_⟩
  obtain ⟨c, e1, e2⟩ := h3 pos cv hc
  exact ⟨c, e1, k _ _ e2 fun z => z⟩
/-- a cell is written -/
theorem Own.put (W : Own T F H0 cs H) (i : Nat) {c : Cell} (h : cs[i]? = some c) (hb : c.1 = b) (hp : Plain o' := by trivial) : Own T F H0 (cs.set i (b, o')) (upd H b o') := by
  subst hb
  have hi : i < cs.length := (List.getElem?_eq_some_iff.mp h).1
  have hc : c ∈ cs := List.mem_of_getElem? h
  have hne : ∀ j d, cs[j]? = some d → j ≠ i → d.1 ≠ c.1 := fun j d hj hji e => by
    have nd := W.nd
    have e1 : (adr cs)[j]? = some d.1 := by rw [List.getElem?_map, hj]; rfl
    have e2 : (adr cs)[i]? = some d.1 := by rw [List.getElem?_map, h, e]; rfl
    have hj' : j < (adr cs).length := (List.getElem?_eq_some_iff.mp e1).1
    exact hji ((List.getElem?_inj hj' nd).mp (e1.trans e2.symm))
  have ea : adr (cs.set i (c.1, o')) = adr cs := by
    show (cs.set i (c.1, o')).map (·.1) = _
    rw [List.map_set]
    refine List.ext_getElem? fun j => ?_
    rw [List.getElem?_set]
    split
    · next e => subst e; rw [if_pos (by rw [List.length_map]; exact hi)]; show _ = (cs.map _)[i]?; rw [List.getElem?_map, h]; rfl
    · rfl
  have hmem : ∀ d ∈ cs.set i (c.1, o'), d = (c.1, o') ∨ (d ∈ cs ∧ d.1 ≠ c.1) := fun d hd => by
    obtain ⟨j, hj, e⟩ := List.mem_iff_getElem.mp hd
    have e' : (cs.set i (c.1, o'))[j]? = some d := by rw [List.getElem?_eq_getElem hj, e]
    rw [List.getElem?_set] at e'
    split at e'
    · exact .inl (Option.some.inj e').symm
    · next hij => exact .inr ⟨List.mem_of_getElem? e', hne j d e' (Ne.symm hij)⟩
  have hP : ∀ b, b = c.1 → ∀ o, H b = some o → Plain o := fun b e o he => by
    rw [e, W.is c hc] at he
    cases he
    exact W.pl c hc
  refine ⟨fun d hd => ?_, by rw [ea]; exact W.nd, fun d hd => ?_, tabs_at W.tb fun b o e n => ?_, fun b o e hF n => ?_, fun d hd => ?_⟩
  · rcases hmem d hd with rfl | ⟨h1, h2⟩
    · exact upd_same
    · rw [upd_ne h2]; exact W.is d h1
  · rcases hmem d hd with rfl | ⟨h1, h2⟩
    · exact hp
    · exact W.pl d h1
  · by_cases hb : b = c.1
    · exact (n (hP b hb o e)).elim
    · rw [upd_ne hb]; exact e
  · by_cases hb : b = c.1
    · rcases W.nw c hc with z | z
      · exact (hF (hb ▸ z)).elim
      · exact (z.no (hb ▸ e) n).elim
    · rw [upd_ne hb]; exact W.fr b o e hF n
  · rcases hmem d hd with rfl | ⟨h1, h2⟩
    · exact W.nw c hc
    · exact W.nw d h1
/-- a new object, whatever else was made -/
theorem Own.ext (W : Own T F H0 cs H) (x : ExtN H H') (t : Tabs T H') (f : Free H p) (e : H' p = some o) (hp : Plain o := by trivial) : Own T F H0 ((p, o) :: cs) H' := by
  refine ⟨fun d hd => ?_, ?_, fun d hd => ?_, t, fun b o e hF n => x _ _ (W.fr b o e hF n) n, fun d hd => ?_⟩
  · rcases List.mem_cons.mp hd with rfl | h
    · exact e
    · exact x _ _ (W.is d h) (W.pl d h).tbl
  · refine List.nodup_cons.mpr ⟨fun m => ?_, W.nd⟩
    obtain ⟨d, hd, ed⟩ := List.mem_map.mp m
    have ed : d.1 = p := ed
    exact f.no (ed ▸ W.is d hd) (W.pl d hd).tbl
  · rcases List.mem_cons.mp hd with rfl | h
    · exact hp
    · exact W.pl d h
  · rcases List.mem_cons.mp hd with rfl | h
    · by_cases hF : p ∈ F
      · exact .inl hF
      · refine .inr fun u hu => Classical.byContradiction fun z => ?_
        have n : ∀ ps, u ≠ .tbl ps := fun ps e => z ⟨ps, e⟩
        exact f.no (W.fr p u hu hF n) n
    · exact W.nw d h
theorem Own.new (W : Own T F H0 cs H) (h : H p = none) (hp : Plain o := by trivial) : Own T F H0 ((p, o) :: cs) (upd H p o) :=
  W.ext (fun b u e _ => by rw [upd_ne (ne_of_none e h)]; exact e) (W.tb.ext fun b u e => by rw [upd_ne (ne_of_none e h)]; exact e) (Free.of h) upd_same hp
/-- more was made and is not looked at -/
theorem Own.skip (W : Own T F H0 cs H) (x : ExtN H H') (t : Tabs T H') : Own T F H0 cs H' :=
  ⟨fun d hd => x _ _ (W.is d hd) (W.pl d hd).tbl, W.nd, W.pl, t, fun b o e hF n => x _ _ (W.fr b o e hF n) n, W.nw⟩
theorem Own.same (W : Own T F H0 cs H) (x : Same H H') : Own T F H0 cs H' := W.skip (ExtN.of x) (W.tb.ext x)
theorem Own.made (W : Own T F H0 cs H) (x : Same H H') (h : H p = none) (e : H' p = some o) (hp : Plain o := by trivial) : Own T F H0 ((p, o) :: cs) H' := W.ext (ExtN.of x) (W.tb.ext x) (Free.of h) e hp
/-- a part is handed to a call -/
theorem Own.call (W : Own T F H0 (cs ++ rest) H) (R : Own T (adr cs) H ds H') : Own T F H0 (ds ++ rest) H' := by
  have nd := W.nd
  have nd : (adr cs ++ adr rest).Nodup := by rw [← List.map_append]; exact nd
  obtain ⟨n1, n2, n3⟩ := List.nodup_append.mp nd
  have hr : ∀ d ∈ rest, d.1 ∉ adr cs := fun d hd m => n3 _ m _ (List.mem_map.mpr ⟨d, hd, rfl⟩) rfl
  have kr : ∀ d ∈ rest, H' d.1 = some d.2 := fun d hd => R.fr _ _ (W.is d (List.mem_append_right _ hd)) (hr d hd) (W.pl d (List.mem_append_right _ hd)).tbl
  have ks : ∀ b ∈ adr cs, b ∈ F ∨ Free H0 b := fun b hb => by
    obtain ⟨c, hc, rfl⟩ := List.mem_map.mp hb
    exact W.nw c (List.mem_append_left _ hc)
  refine ⟨fun d hd => ?_, ?_, fun d hd => ?_, R.tb, fun b o e hF n => ?_, fun d hd => ?_⟩
  · rcases List.mem_append.mp hd with h | h
    · exact R.is d h
    · exact kr d h
  · show ((ds ++ rest).map _).Nodup
    rw [List.map_append]
    refine List.nodup_append.mpr ⟨R.nd, n2, fun x hx y hy e => ?_⟩
    obtain ⟨d, hd, rfl⟩ := List.mem_map.mp hx
    obtain ⟨u, hu, rfl⟩ := List.mem_map.mp hy
    rcases R.nw d hd with z | z
    · exact hr u hu (e ▸ z)
    · exact z.no (by rw [show d.1 = u.1 from e]; exact W.is u (List.mem_append_right _ hu)) (W.pl u (List.mem_append_right _ hu)).tbl
  · rcases List.mem_append.mp hd with h | h
    · exact R.pl d h
    · exact W.pl d (List.mem_append_right _ h)
  · have e1 := W.fr b o e hF n
    refine R.fr b o e1 (fun m => ?_) n
    rcases ks b m with z | z
    · exact hF z
    · exact z.no e n
  · rcases List.mem_append.mp hd with h | h
    · rcases R.nw d h with z | z
      · exact ks _ z
      · by_cases hF : d.1 ∈ F
        · exact .inl hF
        · refine .inr fun u hu => Classical.byContradiction fun w => ?_
          have n : ∀ ps, u ≠ .tbl ps := fun ps e => w ⟨ps, e⟩
          exact z.no (W.fr _ u hu hF n) n
    · exact W.nw d (List.mem_append_right _ h)
/-- a call that takes over nothing -/
theorem Own.call0 (W : Own T F H0 rest H) (R : Own T [] H ds H') : Own T F H0 (ds ++ rest) H' := Own.call (cs := []) W R
/-- nothing of what stood before is in a list of new cells -/
theorem Own.keeps (W : Own T F H0 cs H) (n : F = []) {b : Addr} {o : HO} (e : H0 b = some o) (hp : Plain o) : H b = some o := W.fr b o e (by rw [n]; exact List.not_mem_nil) hp.tbl
theorem Own.seq {K : PySem.W.Frag} {xs : List V} (W : Own T F H0 cs H) (hb : b ∉ F) (h : SqL K H0 b xs) : SqL K H b xs := by
  rcases h with h | h
  · rcases h with h | h
    · exact .inl (.inl (W.fr _ _ h hb (fun ps z => by cases z)))
    · obtain ⟨o, h⟩ := h; exact .inl (.inr ⟨o, W.fr _ _ h hb (fun ps z => by cases z)⟩)
  · exact .inr h
end
end K9
end
section
set_option Elab.async false
set_option linter.all false
set_option maxRecDepth 100000
set_option maxHeartbeats 4000000
/-! The text by places; what the written part says. Printed by gen/txt.py. -/
namespace K9
open PySem PySem.Spec PyProof.Rows L2
def top (i : Nat) : Stmt := PySem.Challenge.pw_saggar_k09_whole_undone_work_leaves_no_t.main.body.getD i (.Pass ⟨0, 0, 0, 0⟩)
abbrev st_is_ref : Stmt := top 9
abbrev st_ref_of : Stmt := top 10
abbrev st_reached : Stmt := top 12
abbrev st_words_of : Stmt := top 13
abbrev st_collect : Stmt := top 14
abbrev st_s_init : Stmt := inClass (top 18) 0
abbrev st_s_exists : Stmt := inClass (top 18) 2
abbrev st_s_numbers : Stmt := inClass (top 18) 3
abbrev st_s_free : Stmt := inClass (top 18) 4
abbrev st_s_alloc : Stmt := inClass (top 18) 5
abbrev st_s_size : Stmt := inClass (top 18) 6
abbrev st_s_kind : Stmt := inClass (top 18) 7
abbrev st_s_set_kind : Stmt := inClass (top 18) 8
abbrev st_s_get : Stmt := inClass (top 18) 9
abbrev st_s_put : Stmt := inClass (top 18) 10
abbrev st_s_slots : Stmt := inClass (top 18) 11
abbrev st_s_drop : Stmt := inClass (top 18) 12
abbrev st_s_close : Stmt := inClass (top 18) 13
abbrev st_s_snap : Stmt := inClass (top 18) 14
abbrev st_s_rest : Stmt := inClass (top 18) 15
abbrev st_s_exch : Stmt := inClass (top 18) 16
abbrev st_p_init : Stmt := inClass (top 21) 0
abbrev st_p_press : Stmt := inClass (top 21) 1
abbrev st_p_root : Stmt := inClass (top 21) 2
abbrev st_p_set_root : Stmt := inClass (top 21) 3
abbrev st_p_hold : Stmt := inClass (top 21) 4
abbrev st_p_drop : Stmt := inClass (top 21) 5
abbrev st_p_held : Stmt := inClass (top 21) 6
abbrev st_p_all : Stmt := inClass (top 21) 7
abbrev st_p_collect : Stmt := inClass (top 21) 8
abbrev st_p_with : Stmt := inClass (top 21) 9
abbrev st_p_live : Stmt := inClass (top 21) 10
abbrev st_p_new : Stmt := inClass (top 21) 11
abbrev st_p_fit : Stmt := inClass (top 21) 12
abbrev st_p_begin : Stmt := inClass (top 21) 13
abbrev st_p_commit : Stmt := inClass (top 21) 14
abbrev st_p_abort : Stmt := inClass (top 21) 15
abbrev st_l_number : Stmt := top 23
abbrev st_l_deeds : Stmt := top 24
abbrev st_l_place : Stmt := top 25
abbrev st_l_word : Stmt := top 26
abbrev st_l_shown : Stmt := top 27
abbrev st_l_new : Stmt := top 28
abbrev st_l_held : Stmt := top 29
abbrev st_l_changed : Stmt := top 30
abbrev st_l_work : Stmt := top 31
abbrev st_l_done : Stmt := top 32
abbrev st_l_equal : Stmt := top 33
abbrev st_l_paired : Stmt := top 34
abbrev st_l_alike : Stmt := top 35
abbrev st_l_row : Stmt := top 36
abbrev st_l_state : Stmt := top 37
abbrev st_l_coll : Stmt := top 38
abbrev st_l_both : Stmt := top 39
abbrev st_l_begun : Stmt := top 40
abbrev st_l_grown : Stmt := top 41
abbrev st_l_first : Stmt := top 42
abbrev st_l_undone : Stmt := top 43
abbrev st_l_pressed : Stmt := top 44
abbrev st_l_limits : Stmt := top 45
abbrev st_l_law : Stmt := top 46
theorem sc_is_ref : FnScope ["word"] ["word"] (defScope st_is_ref) := ⟨rfl, rfl, rfl, by decide +kernel, rfl, by decide +kernel, by decide +kernel⟩
theorem bh_is_ref : BindH "is_ref" "is_ref" st_is_ref ["word"] := fun _ _ _ _ _ _ us hl => match us, hl with | [_], _ => rfl
theorem sc_ref_of : FnScope ["word"] ["word"] (defScope st_ref_of) := ⟨rfl, rfl, rfl, by decide +kernel, rfl, by decide +kernel, by decide +kernel⟩
theorem bh_ref_of : BindH "ref_of" "ref_of" st_ref_of ["word"] := fun _ _ _ _ _ _ us hl => match us, hl with | [_], _ => rfl
theorem sc_reached : FnScope ["store", "roots", "found", "word", "waiting", "number"] ["store", "roots"] (defScope st_reached) := ⟨rfl, rfl, rfl, by decide +kernel, rfl, by decide +kernel, by decide +kernel⟩
theorem bh_reached : BindH "reached" "reached" st_reached ["store", "roots"] := fun _ _ _ _ _ _ us hl => match us, hl with | [_, _], _ => rfl
theorem sc_words_of : FnScope ["store", "numbers", "number"] ["store", "numbers"] (defScope st_words_of) := ⟨rfl, rfl, rfl, by decide +kernel, rfl, by decide +kernel, by decide +kernel⟩
theorem bh_words_of : BindH "words_of" "words_of" st_words_of ["store", "numbers"] := fun _ _ _ _ _ _ us hl => match us, hl with | [_, _], _ => rfl
theorem sc_collect : FnScope ["store", "roots", "found", "number", "gone"] ["store", "roots"] (defScope st_collect) := ⟨rfl, rfl, rfl, by decide +kernel, rfl, by decide +kernel, by decide +kernel⟩
theorem bh_collect : BindH "collect" "collect" st_collect ["store", "roots"] := fun _ _ _ _ _ _ us hl => match us, hl with | [_, _], _ => rfl
theorem sc_s_init : FnScope ["self", "room", "entries"] ["self", "room", "entries"] (defScope st_s_init) := ⟨rfl, rfl, rfl, by decide +kernel, rfl, by decide +kernel, by decide +kernel⟩
theorem bh_s_init : BindH "__init__" "Store.__init__" st_s_init ["self", "room", "entries"] := fun _ _ _ _ _ _ us hl => match us, hl with | [_, _, _], _ => rfl
theorem sc_s_exists : FnScope ["self", "number"] ["self", "number"] (defScope st_s_exists) := ⟨rfl, rfl, rfl, by decide +kernel, rfl, by decide +kernel, by decide +kernel⟩
theorem bh_s_exists : BindH "exists" "Store.exists" st_s_exists ["self", "number"] := fun _ _ _ _ _ _ us hl => match us, hl with | [_, _], _ => rfl
theorem sc_s_numbers : FnScope ["self"] ["self"] (defScope st_s_numbers) := ⟨rfl, rfl, rfl, by decide +kernel, rfl, by decide +kernel, by decide +kernel⟩
theorem bh_s_numbers : BindH "numbers" "Store.numbers" st_s_numbers ["self"] := fun _ _ _ _ _ _ us hl => match us, hl with | [_], _ => rfl
theorem sc_s_free : FnScope ["self"] ["self"] (defScope st_s_free) := ⟨rfl, rfl, rfl, by decide +kernel, rfl, by decide +kernel, by decide +kernel⟩
theorem bh_s_free : BindH "free_number" "Store.free_number" st_s_free ["self"] := fun _ _ _ _ _ _ us hl => match us, hl with | [_], _ => rfl
theorem sc_s_alloc : FnScope ["self", "kind", "size", "number"] ["self", "kind", "size"] (defScope st_s_alloc) := ⟨rfl, rfl, rfl, by decide +kernel, rfl, by decide +kernel, by decide +kernel⟩
theorem bh_s_alloc : BindH "allocate" "Store.allocate" st_s_alloc ["self", "kind", "size"] := fun _ _ _ _ _ _ us hl => match us, hl with | [_, _, _], _ => rfl
theorem sc_s_size : FnScope ["self", "number"] ["self", "number"] (defScope st_s_size) := ⟨rfl, rfl, rfl, by decide +kernel, rfl, by decide +kernel, by decide +kernel⟩
theorem bh_s_size : BindH "size" "Store.size" st_s_size ["self", "number"] := fun _ _ _ _ _ _ us hl => match us, hl with | [_, _], _ => rfl
theorem sc_s_kind : FnScope ["self", "number"] ["self", "number"] (defScope st_s_kind) := ⟨rfl, rfl, rfl, by decide +kernel, rfl, by decide +kernel, by decide +kernel⟩
theorem bh_s_kind : BindH "kind" "Store.kind" st_s_kind ["self", "number"] := fun _ _ _ _ _ _ us hl => match us, hl with | [_, _], _ => rfl
theorem sc_s_set_kind : FnScope ["self", "number", "word"] ["self", "number", "word"] (defScope st_s_set_kind) := ⟨rfl, rfl, rfl, by decide +kernel, rfl, by decide +kernel, by decide +kernel⟩
theorem bh_s_set_kind : BindH "set_kind" "Store.set_kind" st_s_set_kind ["self", "number", "word"] := fun _ _ _ _ _ _ us hl => match us, hl with | [_, _, _], _ => rfl
theorem sc_s_get : FnScope ["self", "number", "at"] ["self", "number", "at"] (defScope st_s_get) := ⟨rfl, rfl, rfl, by decide +kernel, rfl, by decide +kernel, by decide +kernel⟩
theorem bh_s_get : BindH "get" "Store.get" st_s_get ["self", "number", "at"] := fun _ _ _ _ _ _ us hl => match us, hl with | [_, _, _], _ => rfl
theorem sc_s_put : FnScope ["self", "number", "at", "word"] ["self", "number", "at", "word"] (defScope st_s_put) := ⟨rfl, rfl, rfl, by decide +kernel, rfl, by decide +kernel, by decide +kernel⟩
theorem bh_s_put : BindH "put" "Store.put" st_s_put ["self", "number", "at", "word"] := fun _ _ _ _ _ _ us hl => match us, hl with | [_, _, _, _], _ => rfl
theorem sc_s_slots : FnScope ["self", "number", "place"] ["self", "number"] (defScope st_s_slots) := ⟨rfl, rfl, rfl, by decide +kernel, rfl, by decide +kernel, by decide +kernel⟩
theorem bh_s_slots : BindH "slots" "Store.slots" st_s_slots ["self", "number"] := fun _ _ _ _ _ _ us hl => match us, hl with | [_, _], _ => rfl
theorem sc_s_drop : FnScope ["self", "number"] ["self", "number"] (defScope st_s_drop) := ⟨rfl, rfl, rfl, by decide +kernel, rfl, by decide +kernel, by decide +kernel⟩
theorem bh_s_drop : BindH "drop" "Store.drop" st_s_drop ["self", "number"] := fun _ _ _ _ _ _ us hl => match us, hl with | [_, _], _ => rfl
theorem sc_s_close : FnScope ["self", "words", "places", "number", "place", "old"] ["self"] (defScope st_s_close) := ⟨rfl, rfl, rfl, by decide +kernel, rfl, by decide +kernel, by decide +kernel⟩
theorem bh_s_close : BindH "close_up" "Store.close_up" st_s_close ["self"] := fun _ _ _ _ _ _ us hl => match us, hl with | [_], _ => rfl
theorem sc_s_snap : FnScope ["self"] ["self"] (defScope st_s_snap) := ⟨rfl, rfl, rfl, by decide +kernel, rfl, by decide +kernel, by decide +kernel⟩
theorem bh_s_snap : BindH "snapshot" "Store.snapshot" st_s_snap ["self"] := fun _ _ _ _ _ _ us hl => match us, hl with | [_], _ => rfl
theorem sc_s_rest : FnScope ["self", "snapshot", "words", "places"] ["self", "snapshot"] (defScope st_s_rest) := ⟨rfl, rfl, rfl, by decide +kernel, rfl, by decide +kernel, by decide +kernel⟩
theorem bh_s_rest : BindH "restore" "Store.restore" st_s_rest ["self", "snapshot"] := fun _ _ _ _ _ _ us hl => match us, hl with | [_, _], _ => rfl
theorem sc_s_exch : FnScope ["self", "first", "second", "one", "other"] ["self", "first", "second"] (defScope st_s_exch) := ⟨rfl, rfl, rfl, by decide +kernel, rfl, by decide +kernel, by decide +kernel⟩
theorem bh_s_exch : BindH "exchange" "Store.exchange" st_s_exch ["self", "first", "second"] := fun _ _ _ _ _ _ us hl => match us, hl with | [_, _, _], _ => rfl
theorem sc_p_init : FnScope ["self", "room", "entries"] ["self", "room", "entries"] (defScope st_p_init) := ⟨rfl, rfl, rfl, by decide +kernel, rfl, by decide +kernel, by decide +kernel⟩
theorem bh_p_init : BindH "__init__" "Space.__init__" st_p_init ["self", "room", "entries"] := fun _ _ _ _ _ _ us hl => match us, hl with | [_, _, _], _ => rfl
theorem sc_p_press : FnScope ["self", "moments", "always"] ["self", "moments", "always"] (defScope st_p_press) := ⟨rfl, rfl, rfl, by decide +kernel, rfl, by decide +kernel, by decide +kernel⟩
theorem sc_p_root : FnScope ["self", "k"] ["self", "k"] (defScope st_p_root) := ⟨rfl, rfl, rfl, by decide +kernel, rfl, by decide +kernel, by decide +kernel⟩
theorem bh_p_root : BindH "root" "Space.root" st_p_root ["self", "k"] := fun _ _ _ _ _ _ us hl => match us, hl with | [_, _], _ => rfl
theorem sc_p_set_root : FnScope ["self", "k", "word"] ["self", "k", "word"] (defScope st_p_set_root) := ⟨rfl, rfl, rfl, by decide +kernel, rfl, by decide +kernel, by decide +kernel⟩
theorem bh_p_set_root : BindH "set_root" "Space.set_root" st_p_set_root ["self", "k", "word"] := fun _ _ _ _ _ _ us hl => match us, hl with | [_, _, _], _ => rfl
theorem sc_p_hold : FnScope ["self", "word"] ["self", "word"] (defScope st_p_hold) := ⟨rfl, rfl, rfl, by decide +kernel, rfl, by decide +kernel, by decide +kernel⟩
theorem bh_p_hold : BindH "hold" "Space.hold" st_p_hold ["self", "word"] := fun _ _ _ _ _ _ us hl => match us, hl with | [_, _], _ => rfl
theorem sc_p_drop : FnScope ["self", "count"] ["self", "count"] (defScope st_p_drop) := ⟨rfl, rfl, rfl, by decide +kernel, rfl, by decide +kernel, by decide +kernel⟩
theorem bh_p_drop : BindH "drop" "Space.drop" st_p_drop ["self", "count"] := fun _ _ _ _ _ _ us hl => match us, hl with | [_, _], _ => rfl
theorem sc_p_held : FnScope ["self"] ["self"] (defScope st_p_held) := ⟨rfl, rfl, rfl, by decide +kernel, rfl, by decide +kernel, by decide +kernel⟩
theorem bh_p_held : BindH "held" "Space.held" st_p_held ["self"] := fun _ _ _ _ _ _ us hl => match us, hl with | [_], _ => rfl
theorem sc_p_all : FnScope ["self"] ["self"] (defScope st_p_all) := ⟨rfl, rfl, rfl, by decide +kernel, rfl, by decide +kernel, by decide +kernel⟩
theorem bh_p_all : BindH "all_roots" "Space.all_roots" st_p_all ["self"] := fun _ _ _ _ _ _ us hl => match us, hl with | [_], _ => rfl
theorem sc_p_collect : FnScope ["self"] ["self"] (defScope st_p_collect) := ⟨rfl, rfl, rfl, by decide +kernel, rfl, by decide +kernel, by decide +kernel⟩
theorem bh_p_collect : BindH "collect" "Space.collect" st_p_collect ["self"] := fun _ _ _ _ _ _ us hl => match us, hl with | [_], _ => rfl
theorem sc_p_with : FnScope ["self", "word"] ["self", "word"] (defScope st_p_with) := ⟨rfl, rfl, rfl, by decide +kernel, rfl, by decide +kernel, by decide +kernel⟩
theorem bh_p_with : BindH "collect_with" "Space.collect_with" st_p_with ["self", "word"] := fun _ _ _ _ _ _ us hl => match us, hl with | [_, _], _ => rfl
theorem sc_p_live : FnScope ["self"] ["self"] (defScope st_p_live) := ⟨rfl, rfl, rfl, by decide +kernel, rfl, by decide +kernel, by decide +kernel⟩
theorem bh_p_live : BindH "live_words" "Space.live_words" st_p_live ["self"] := fun _ _ _ _ _ _ us hl => match us, hl with | [_], _ => rfl
theorem sc_p_new : FnScope ["self", "kind", "size"] ["self", "kind", "size"] (defScope st_p_new) := ⟨rfl, rfl, rfl, by decide +kernel, rfl, by decide +kernel, by decide +kernel⟩
theorem bh_p_new : BindH "new" "Space.new" st_p_new ["self", "kind", "size"] := fun _ _ _ _ _ _ us hl => match us, hl with | [_, _, _], _ => rfl
theorem sc_p_fit : FnScope ["self", "kind", "size"] ["self", "kind", "size"] (defScope st_p_fit) := ⟨rfl, rfl, rfl, by decide +kernel, rfl, by decide +kernel, by decide +kernel⟩
theorem bh_p_fit : BindH "fitted" "Space.fitted" st_p_fit ["self", "kind", "size"] := fun _ _ _ _ _ _ us hl => match us, hl with | [_, _, _], _ => rfl
theorem sc_p_begin : FnScope ["self"] ["self"] (defScope st_p_begin) := ⟨rfl, rfl, rfl, by decide +kernel, rfl, by decide +kernel, by decide +kernel⟩
theorem bh_p_begin : BindH "begin" "Space.begin" st_p_begin ["self"] := fun _ _ _ _ _ _ us hl => match us, hl with | [_], _ => rfl
theorem sc_p_commit : FnScope ["self"] ["self"] (defScope st_p_commit) := ⟨rfl, rfl, rfl, by decide +kernel, rfl, by decide +kernel, by decide +kernel⟩
theorem bh_p_commit : BindH "commit" "Space.commit" st_p_commit ["self"] := fun _ _ _ _ _ _ us hl => match us, hl with | [_], _ => rfl
theorem sc_p_abort : FnScope ["self", "snapshot", "roots", "held"] ["self"] (defScope st_p_abort) := ⟨rfl, rfl, rfl, by decide +kernel, rfl, by decide +kernel, by decide +kernel⟩
theorem bh_p_abort : BindH "abort" "Space.abort" st_p_abort ["self"] := fun _ _ _ _ _ _ us hl => match us, hl with | [_], _ => rfl
theorem sc_l_number : FnScope ["_law_cell", "_law_k", "_law_mixed"] ["_law_cell", "_law_k"] (defScope st_l_number) := ⟨rfl, rfl, rfl, by decide +kernel, rfl, by decide +kernel, by decide +kernel⟩
theorem bh_l_number : BindH "_law_number" "_law_number" st_l_number ["_law_cell", "_law_k"] := fun _ _ _ _ _ _ us hl => match us, hl with | [_, _], _ => rfl
theorem sc_l_deeds : FnScope ["_law_cell", "_law_k"] ["_law_cell", "_law_k"] (defScope st_l_deeds) := ⟨rfl, rfl, rfl, by decide +kernel, rfl, by decide +kernel, by decide +kernel⟩
theorem bh_l_deeds : BindH "_law_deeds" "_law_deeds" st_l_deeds ["_law_cell", "_law_k"] := fun _ _ _ _ _ _ us hl => match us, hl with | [_, _], _ => rfl
theorem sc_l_place : FnScope ["_law_x", "_law_place_here"] ["_law_x"] (defScope st_l_place) := ⟨rfl, rfl, rfl, by decide +kernel, rfl, by decide +kernel, by decide +kernel⟩
theorem bh_l_place : BindH "_law_place" "_law_place" st_l_place ["_law_x"] := fun _ _ _ _ _ _ us hl => match us, hl with | [_], _ => rfl
theorem sc_l_word : FnScope ["_law_space", "_law_x", "_law_rest"] ["_law_space", "_law_x"] (defScope st_l_word) := ⟨rfl, rfl, rfl, by decide +kernel, rfl, by decide +kernel, by decide +kernel⟩
theorem bh_l_word : BindH "_law_word" "_law_word" st_l_word ["_law_space", "_law_x"] := fun _ _ _ _ _ _ us hl => match us, hl with | [_, _], _ => rfl
theorem sc_l_shown : FnScope ["_law_word_here"] ["_law_word_here"] (defScope st_l_shown) := ⟨rfl, rfl, rfl, by decide +kernel, rfl, by decide +kernel, by decide +kernel⟩
theorem bh_l_shown : BindH "_law_shown" "_law_shown" st_l_shown ["_law_word_here"] := fun _ _ _ _ _ _ us hl => match us, hl with | [_], _ => rfl
theorem sc_l_new : FnScope ["_law_space", "_law_kind", "_law_size", "_law_place_here", "_law_number_here", "e"] ["_law_space", "_law_kind", "_law_size", "_law_place_here"] (defScope st_l_new) := ⟨rfl, rfl, rfl, by decide +kernel, rfl, by decide +kernel, by decide +kernel⟩
theorem bh_l_new : BindH "_law_new" "_law_new" st_l_new ["_law_space", "_law_kind", "_law_size", "_law_place_here"] := fun _ _ _ _ _ _ us hl => match us, hl with | [_, _, _, _], _ => rfl
theorem sc_l_held : FnScope ["_law_space", "_law_deed", "_law_place_here", "_law_rest", "_law_held_here"] ["_law_space", "_law_deed", "_law_place_here", "_law_rest"] (defScope st_l_held) := ⟨rfl, rfl, rfl, by decide +kernel, rfl, by decide +kernel, by decide +kernel⟩
theorem bh_l_held : BindH "_law_held" "_law_held" st_l_held ["_law_space", "_law_deed", "_law_place_here", "_law_rest"] := fun _ _ _ _ _ _ us hl => match us, hl with | [_, _, _, _], _ => rfl
theorem sc_l_changed : FnScope ["_law_space", "_law_deed", "_law_place_here", "_law_rest", "_law_word_here", "_law_size", "_law_at", "_law_other"] ["_law_space", "_law_deed", "_law_place_here", "_law_rest"] (defScope st_l_changed) := ⟨rfl, rfl, rfl, by decide +kernel, rfl, by decide +kernel, by decide +kernel⟩
theorem bh_l_changed : BindH "_law_changed" "_law_changed" st_l_changed ["_law_space", "_law_deed", "_law_place_here", "_law_rest"] := fun _ _ _ _ _ _ us hl => match us, hl with | [_, _, _, _], _ => rfl
theorem sc_l_work : FnScope ["_law_space", "_law_deed", "e"] ["_law_space", "_law_deed"] (defScope st_l_work) := ⟨rfl, rfl, rfl, by decide +kernel, rfl, by decide +kernel, by decide +kernel⟩
theorem bh_l_work : BindH "_law_work" "_law_work" st_l_work ["_law_space", "_law_deed"] := fun _ _ _ _ _ _ us hl => match us, hl with | [_, _], _ => rfl
theorem sc_l_done : FnScope ["_law_space", "_law_x", "_law_deed", "_law_place_here", "_law_rest", "_law_size", "_law_kind"] ["_law_space", "_law_x"] (defScope st_l_done) := ⟨rfl, rfl, rfl, by decide +kernel, rfl, by decide +kernel, by decide +kernel⟩
theorem bh_l_done : BindH "_law_done" "_law_done" st_l_done ["_law_space", "_law_x"] := fun _ _ _ _ _ _ us hl => match us, hl with | [_, _], _ => rfl
theorem sc_l_equal : FnScope ["_law_told", "_law_due", "_law_k"] ["_law_told", "_law_due"] (defScope st_l_equal) := ⟨rfl, rfl, rfl, by decide +kernel, rfl, by decide +kernel, by decide +kernel⟩
theorem bh_l_equal : BindH "_law_equal" "_law_equal" st_l_equal ["_law_told", "_law_due"] := fun _ _ _ _ _ _ us hl => match us, hl with | [_, _], _ => rfl
theorem sc_l_paired : FnScope ["_law_one", "_law_other", "_law_first_here", "_law_second", "_law_there", "_law_back"] ["_law_one", "_law_other", "_law_first_here", "_law_second", "_law_there", "_law_back"] (defScope st_l_paired) := ⟨rfl, rfl, rfl, by decide +kernel, rfl, by decide +kernel, by decide +kernel⟩
theorem bh_l_paired : BindH "_law_paired" "_law_paired" st_l_paired ["_law_one", "_law_other", "_law_first_here", "_law_second", "_law_there", "_law_back"] := fun _ _ _ _ _ _ us hl => match us, hl with | [_, _, _, _, _, _], _ => rfl
theorem sc_l_alike : FnScope ["_law_one", "_law_other", "_law_there", "_law_back", "_law_waiting", "_law_turn", "_law_rows", "_law_k", "_law_first_here", "_law_second"] ["_law_one", "_law_other"] (defScope st_l_alike) := ⟨rfl, rfl, rfl, by decide +kernel, rfl, by decide +kernel, by decide +kernel⟩
theorem bh_l_alike : BindH "_law_alike" "_law_alike" st_l_alike ["_law_one", "_law_other"] := fun _ _ _ _ _ _ us hl => match us, hl with | [_, _], _ => rfl
theorem sc_l_row : FnScope ["_law_space", "_law_number_here"] ["_law_space", "_law_number_here"] (defScope st_l_row) := ⟨rfl, rfl, rfl, by decide +kernel, rfl, by decide +kernel, by decide +kernel⟩
theorem bh_l_row : BindH "_law_row" "_law_row" st_l_row ["_law_space", "_law_number_here"] := fun _ _ _ _ _ _ us hl => match us, hl with | [_, _], _ => rfl
theorem sc_l_state : FnScope ["_law_space"] ["_law_space"] (defScope st_l_state) := ⟨rfl, rfl, rfl, by decide +kernel, rfl, by decide +kernel, by decide +kernel⟩
theorem bh_l_state : BindH "_law_state" "_law_state" st_l_state ["_law_space"] := fun _ _ _ _ _ _ us hl => match us, hl with | [_], _ => rfl
theorem sc_l_coll : FnScope ["_law_space", "e"] ["_law_space"] (defScope st_l_coll) := ⟨rfl, rfl, rfl, by decide +kernel, rfl, by decide +kernel, by decide +kernel⟩
theorem bh_l_coll : BindH "_law_collected" "_law_collected" st_l_coll ["_law_space"] := fun _ _ _ _ _ _ us hl => match us, hl with | [_], _ => rfl
theorem sc_l_both : FnScope ["_law_space", "_law_x"] ["_law_space", "_law_x"] (defScope st_l_both) := ⟨rfl, rfl, rfl, by decide +kernel, rfl, by decide +kernel, by decide +kernel⟩
theorem bh_l_both : BindH "_law_both" "_law_both" st_l_both ["_law_space", "_law_x"] := fun _ _ _ _ _ _ us hl => match us, hl with | [_, _], _ => rfl
theorem sc_l_begun : FnScope ["_law_space", "_law_before", "_law_told", "_law_after", "_law_number_here"] ["_law_space", "_law_before", "_law_told"] (defScope st_l_begun) := ⟨rfl, rfl, rfl, by decide +kernel, rfl, by decide +kernel, by decide +kernel⟩
theorem bh_l_begun : BindH "_law_begun" "_law_begun" st_l_begun ["_law_space", "_law_before", "_law_told"] := fun _ _ _ _ _ _ us hl => match us, hl with | [_, _, _], _ => rfl
theorem sc_l_grown : FnScope ["_law_space", "_law_limits_here", "_law_before", "_law_x", "_law_told", "_law_rest", "_law_size", "_law_after"] ["_law_space", "_law_limits_here", "_law_before", "_law_x", "_law_told"] (defScope st_l_grown) := ⟨rfl, rfl, rfl, by decide +kernel, rfl, by decide +kernel, by decide +kernel⟩
theorem bh_l_grown : BindH "_law_grown" "_law_grown" st_l_grown ["_law_space", "_law_limits_here", "_law_before", "_law_x", "_law_told"] := fun _ _ _ _ _ _ us hl => match us, hl with | [_, _, _, _, _], _ => rfl
theorem sc_l_first : FnScope ["_law_space", "_law_limits_here", "_law_saved", "_law_x", "_law_deed", "_law_before", "_law_told", "_law_kept"] ["_law_space", "_law_limits_here", "_law_saved", "_law_x"] (defScope st_l_first) := ⟨rfl, rfl, rfl, by decide +kernel, rfl, by decide +kernel, by decide +kernel⟩
theorem bh_l_first : BindH "_law_first" "_law_first" st_l_first ["_law_space", "_law_limits_here", "_law_saved", "_law_x"] := fun _ _ _ _ _ _ us hl => match us, hl with | [_, _, _, _], _ => rfl
theorem sc_l_undone : FnScope ["_law_deeds_here", "_law_undone_here", "_law_start", "_law_k", "_law_deed", "_law_at"] ["_law_deeds_here"] (defScope st_l_undone) := ⟨rfl, rfl, rfl, by decide +kernel, rfl, by decide +kernel, by decide +kernel⟩
theorem bh_l_undone : BindH "_law_undone" "_law_undone" st_l_undone ["_law_deeds_here"] := fun _ _ _ _ _ _ us hl => match us, hl with | [_], _ => rfl
theorem sc_l_pressed : FnScope ["_law_space", "_law_cell", "_law_k", "_law_y", "_law_moments", "_law_at"] ["_law_space", "_law_cell", "_law_k"] (defScope st_l_pressed) := ⟨rfl, rfl, rfl, by decide +kernel, rfl, by decide +kernel, by decide +kernel⟩
theorem bh_l_pressed : BindH "_law_pressed" "_law_pressed" st_l_pressed ["_law_space", "_law_cell", "_law_k"] := fun _ _ _ _ _ _ us hl => match us, hl with | [_, _, _], _ => rfl
theorem sc_l_limits : FnScope ["_law_cell", "_law_x", "_law_room"] ["_law_cell"] (defScope st_l_limits) := ⟨rfl, rfl, rfl, by decide +kernel, rfl, by decide +kernel, by decide +kernel⟩
theorem bh_l_limits : BindH "_law_limits" "_law_limits" st_l_limits ["_law_cell"] := fun _ _ _ _ _ _ us hl => match us, hl with | [_], _ => rfl
theorem sc_l_law : FnScope ["_law_script", "_law_cells", "_law_limits_here", "_law_one", "_law_other", "_law_deeds_here", "_law_k", "_law_undone_here", "_law_saved", "_law_step", "_law_cell"] ["_law_script"] (defScope st_l_law) := ⟨rfl, rfl, rfl, by decide +kernel, rfl, by decide +kernel, by decide +kernel⟩
theorem bh_l_law : BindH "law" "law" st_l_law ["_law_script"] := fun _ _ _ _ _ _ us hl => match us, hl with | [_], _ => rfl
/-- where the defs and classes stand; cc: close_up's code object, tb: its table -/
structure Ads where
  (CT CS cE cR cN cW iR iN iW cc tb is_ref ref_of reached words_of collect s_init s_exists s_numbers s_free s_alloc s_size s_kind s_set_kind s_get s_put s_slots s_drop s_close s_snap s_rest s_exch p_init p_press p_root p_set_root p_hold p_drop p_held p_all p_collect p_with p_live p_new p_fit p_begin p_commit p_abort l_number l_deeds l_place l_word l_shown l_new l_held l_changed l_work l_done l_equal l_paired l_alike l_row l_state l_coll l_both l_begun l_grown l_first l_undone l_pressed l_limits l_law : Addr)
abbrev qL : Str := (envOfC "Store.close_up" (defScope st_s_close) 0 0 .none).qual ++ "<lambda>"
abbrev Ads.T (A : Ads) : List (Addr × Str) := [(A.tb, qL)]
structure Txt (P : Program) (K : PySem.W.Frag) (mg : Str → Option Value) (A : Ads) : Prop where
  f_is_ref : ∃ fd, Fun K "is_ref" "is_ref" st_is_ref A.is_ref fd
  g_is_ref : mg "is_ref" = some (.ref A.is_ref)
  k_is_ref : PySem.W.keepIn K (.ref A.is_ref) = true
  f_ref_of : ∃ fd, Fun K "ref_of" "ref_of" st_ref_of A.ref_of fd
  g_ref_of : mg "ref_of" = some (.ref A.ref_of)
  k_ref_of : PySem.W.keepIn K (.ref A.ref_of) = true
  f_reached : ∃ fd, Fun K "reached" "reached" st_reached A.reached fd
  g_reached : mg "reached" = some (.ref A.reached)
  k_reached : PySem.W.keepIn K (.ref A.reached) = true
  f_words_of : ∃ fd, Fun K "words_of" "words_of" st_words_of A.words_of fd
  g_words_of : mg "words_of" = some (.ref A.words_of)
  k_words_of : PySem.W.keepIn K (.ref A.words_of) = true
  f_collect : ∃ fd, Fun K "collect" "collect" st_collect A.collect fd
  g_collect : mg "collect_collecting" = some (.ref A.collect)
  k_collect : PySem.W.keepIn K (.ref A.collect) = true
  f_s_init : ∃ fd, Fun K "__init__" "Store.__init__" st_s_init A.s_init fd
  f_s_exists : ∃ fd, Fun K "exists" "Store.exists" st_s_exists A.s_exists fd
  m_s_exists : Meth K A.CT "exists" A.s_exists
  f_s_numbers : ∃ fd, Fun K "numbers" "Store.numbers" st_s_numbers A.s_numbers fd
  m_s_numbers : Meth K A.CT "numbers" A.s_numbers
  f_s_free : ∃ fd, Fun K "free_number" "Store.free_number" st_s_free A.s_free fd
  m_s_free : Meth K A.CT "free_number" A.s_free
  f_s_alloc : ∃ fd, Fun K "allocate" "Store.allocate" st_s_alloc A.s_alloc fd
  m_s_alloc : Meth K A.CT "allocate" A.s_alloc
  f_s_size : ∃ fd, Fun K "size" "Store.size" st_s_size A.s_size fd
  m_s_size : Meth K A.CT "size" A.s_size
  f_s_kind : ∃ fd, Fun K "kind" "Store.kind" st_s_kind A.s_kind fd
  m_s_kind : Meth K A.CT "kind" A.s_kind
  f_s_set_kind : ∃ fd, Fun K "set_kind" "Store.set_kind" st_s_set_kind A.s_set_kind fd
  m_s_set_kind : Meth K A.CT "set_kind" A.s_set_kind
  f_s_get : ∃ fd, Fun K "get" "Store.get" st_s_get A.s_get fd
  m_s_get : Meth K A.CT "get" A.s_get
  f_s_put : ∃ fd, Fun K "put" "Store.put" st_s_put A.s_put fd
  m_s_put : Meth K A.CT "put" A.s_put
  f_s_slots : ∃ fd, Fun K "slots" "Store.slots" st_s_slots A.s_slots fd
  m_s_slots : Meth K A.CT "slots" A.s_slots
  f_s_drop : ∃ fd, Fun K "drop" "Store.drop" st_s_drop A.s_drop fd
  m_s_drop : Meth K A.CT "drop" A.s_drop
  c_s_close : ∃ (oc : Value) (od : Option Addr) (kV doc pm : Value) (an : Option Addr) (ct : Value) (osl : Array (Option Value)), K.lookup A.s_close = some ⟨oc, od, .func (PySem.W.fnOf "close_up" "Store.close_up" (defArgs st_s_close) (defBody st_s_close) (defScope st_s_close) .none kV doc pm an (.ref A.cc) ct), osl⟩ ∧ PySem.W.codeIn K (.ref A.cc) "Store.close_up" = true
  m_s_close : Meth K A.CT "close_up" A.s_close
  f_s_snap : ∃ fd, Fun K "snapshot" "Store.snapshot" st_s_snap A.s_snap fd
  m_s_snap : Meth K A.CT "snapshot" A.s_snap
  f_s_rest : ∃ fd, Fun K "restore" "Store.restore" st_s_rest A.s_rest fd
  m_s_rest : Meth K A.CT "restore" A.s_rest
  f_s_exch : ∃ fd, Fun K "exchange" "Store.exchange" st_s_exch A.s_exch fd
  m_s_exch : Meth K A.CT "exchange" A.s_exch
  f_p_init : ∃ fd, Fun K "__init__" "Space.__init__" st_p_init A.p_init fd
  f_p_press : ∃ fd, FunD K "press" "Space.press" (defArgs st_p_press) (defBody st_p_press) (defScope st_p_press) [] [("always", .bl false)] A.p_press fd
  m_p_press : Meth K A.CS "press" A.p_press
  f_p_root : ∃ fd, Fun K "root" "Space.root" st_p_root A.p_root fd
  m_p_root : Meth K A.CS "root" A.p_root
  f_p_set_root : ∃ fd, Fun K "set_root" "Space.set_root" st_p_set_root A.p_set_root fd
  m_p_set_root : Meth K A.CS "set_root" A.p_set_root
  f_p_hold : ∃ fd, Fun K "hold" "Space.hold" st_p_hold A.p_hold fd
  m_p_hold : Meth K A.CS "hold" A.p_hold
  f_p_drop : ∃ fd, Fun K "drop" "Space.drop" st_p_drop A.p_drop fd
  m_p_drop : Meth K A.CS "drop" A.p_drop
  f_p_held : ∃ fd, Fun K "held" "Space.held" st_p_held A.p_held fd
  m_p_held : Meth K A.CS "held" A.p_held
  f_p_all : ∃ fd, Fun K "all_roots" "Space.all_roots" st_p_all A.p_all fd
  m_p_all : Meth K A.CS "all_roots" A.p_all
  f_p_collect : ∃ fd, Fun K "collect" "Space.collect" st_p_collect A.p_collect fd
  m_p_collect : Meth K A.CS "collect" A.p_collect
  f_p_with : ∃ fd, Fun K "collect_with" "Space.collect_with" st_p_with A.p_with fd
  m_p_with : Meth K A.CS "collect_with" A.p_with
  f_p_live : ∃ fd, Fun K "live_words" "Space.live_words" st_p_live A.p_live fd
  m_p_live : Meth K A.CS "live_words" A.p_live
  f_p_new : ∃ fd, Fun K "new" "Space.new" st_p_new A.p_new fd
  m_p_new : Meth K A.CS "new" A.p_new
  f_p_fit : ∃ fd, Fun K "fitted" "Space.fitted" st_p_fit A.p_fit fd
  m_p_fit : Meth K A.CS "fitted" A.p_fit
  f_p_begin : ∃ fd, Fun K "begin" "Space.begin" st_p_begin A.p_begin fd
  m_p_begin : Meth K A.CS "begin" A.p_begin
  f_p_commit : ∃ fd, Fun K "commit" "Space.commit" st_p_commit A.p_commit fd
  m_p_commit : Meth K A.CS "commit" A.p_commit
  f_p_abort : ∃ fd, Fun K "abort" "Space.abort" st_p_abort A.p_abort fd
  m_p_abort : Meth K A.CS "abort" A.p_abort
  f_l_number : ∃ fd, Fun K "_law_number" "_law_number" st_l_number A.l_number fd
  g_l_number : mg "_law_number" = some (.ref A.l_number)
  k_l_number : PySem.W.keepIn K (.ref A.l_number) = true
  f_l_deeds : ∃ fd, Fun K "_law_deeds" "_law_deeds" st_l_deeds A.l_deeds fd
  g_l_deeds : mg "_law_deeds" = some (.ref A.l_deeds)
  k_l_deeds : PySem.W.keepIn K (.ref A.l_deeds) = true
  f_l_place : ∃ fd, Fun K "_law_place" "_law_place" st_l_place A.l_place fd
  g_l_place : mg "_law_place" = some (.ref A.l_place)
  k_l_place : PySem.W.keepIn K (.ref A.l_place) = true
  f_l_word : ∃ fd, Fun K "_law_word" "_law_word" st_l_word A.l_word fd
  g_l_word : mg "_law_word" = some (.ref A.l_word)
  k_l_word : PySem.W.keepIn K (.ref A.l_word) = true
  f_l_shown : ∃ fd, Fun K "_law_shown" "_law_shown" st_l_shown A.l_shown fd
  g_l_shown : mg "_law_shown" = some (.ref A.l_shown)
  k_l_shown : PySem.W.keepIn K (.ref A.l_shown) = true
  f_l_new : ∃ fd, Fun K "_law_new" "_law_new" st_l_new A.l_new fd
  g_l_new : mg "_law_new" = some (.ref A.l_new)
  k_l_new : PySem.W.keepIn K (.ref A.l_new) = true
  f_l_held : ∃ fd, Fun K "_law_held" "_law_held" st_l_held A.l_held fd
  g_l_held : mg "_law_held" = some (.ref A.l_held)
  k_l_held : PySem.W.keepIn K (.ref A.l_held) = true
  f_l_changed : ∃ fd, Fun K "_law_changed" "_law_changed" st_l_changed A.l_changed fd
  g_l_changed : mg "_law_changed" = some (.ref A.l_changed)
  k_l_changed : PySem.W.keepIn K (.ref A.l_changed) = true
  f_l_work : ∃ fd, Fun K "_law_work" "_law_work" st_l_work A.l_work fd
  g_l_work : mg "_law_work" = some (.ref A.l_work)
  k_l_work : PySem.W.keepIn K (.ref A.l_work) = true
  f_l_done : ∃ fd, Fun K "_law_done" "_law_done" st_l_done A.l_done fd
  g_l_done : mg "_law_done" = some (.ref A.l_done)
  k_l_done : PySem.W.keepIn K (.ref A.l_done) = true
  f_l_equal : ∃ fd, Fun K "_law_equal" "_law_equal" st_l_equal A.l_equal fd
  g_l_equal : mg "_law_equal" = some (.ref A.l_equal)
  k_l_equal : PySem.W.keepIn K (.ref A.l_equal) = true
  f_l_paired : ∃ fd, Fun K "_law_paired" "_law_paired" st_l_paired A.l_paired fd
  g_l_paired : mg "_law_paired" = some (.ref A.l_paired)
  k_l_paired : PySem.W.keepIn K (.ref A.l_paired) = true
  f_l_alike : ∃ fd, Fun K "_law_alike" "_law_alike" st_l_alike A.l_alike fd
  g_l_alike : mg "_law_alike" = some (.ref A.l_alike)
  k_l_alike : PySem.W.keepIn K (.ref A.l_alike) = true
  f_l_row : ∃ fd, Fun K "_law_row" "_law_row" st_l_row A.l_row fd
  g_l_row : mg "_law_row" = some (.ref A.l_row)
  k_l_row : PySem.W.keepIn K (.ref A.l_row) = true
  f_l_state : ∃ fd, Fun K "_law_state" "_law_state" st_l_state A.l_state fd
  g_l_state : mg "_law_state" = some (.ref A.l_state)
  k_l_state : PySem.W.keepIn K (.ref A.l_state) = true
  f_l_coll : ∃ fd, Fun K "_law_collected" "_law_collected" st_l_coll A.l_coll fd
  g_l_coll : mg "_law_collected" = some (.ref A.l_coll)
  k_l_coll : PySem.W.keepIn K (.ref A.l_coll) = true
  f_l_both : ∃ fd, Fun K "_law_both" "_law_both" st_l_both A.l_both fd
  g_l_both : mg "_law_both" = some (.ref A.l_both)
  k_l_both : PySem.W.keepIn K (.ref A.l_both) = true
  f_l_begun : ∃ fd, Fun K "_law_begun" "_law_begun" st_l_begun A.l_begun fd
  g_l_begun : mg "_law_begun" = some (.ref A.l_begun)
  k_l_begun : PySem.W.keepIn K (.ref A.l_begun) = true
  f_l_grown : ∃ fd, Fun K "_law_grown" "_law_grown" st_l_grown A.l_grown fd
  g_l_grown : mg "_law_grown" = some (.ref A.l_grown)
  k_l_grown : PySem.W.keepIn K (.ref A.l_grown) = true
  f_l_first : ∃ fd, Fun K "_law_first" "_law_first" st_l_first A.l_first fd
  g_l_first : mg "_law_first" = some (.ref A.l_first)
  k_l_first : PySem.W.keepIn K (.ref A.l_first) = true
  f_l_undone : ∃ fd, Fun K "_law_undone" "_law_undone" st_l_undone A.l_undone fd
  g_l_undone : mg "_law_undone" = some (.ref A.l_undone)
  k_l_undone : PySem.W.keepIn K (.ref A.l_undone) = true
  f_l_pressed : ∃ fd, Fun K "_law_pressed" "_law_pressed" st_l_pressed A.l_pressed fd
  g_l_pressed : mg "_law_pressed" = some (.ref A.l_pressed)
  k_l_pressed : PySem.W.keepIn K (.ref A.l_pressed) = true
  f_l_limits : ∃ fd, Fun K "_law_limits" "_law_limits" st_l_limits A.l_limits fd
  g_l_limits : mg "_law_limits" = some (.ref A.l_limits)
  k_l_limits : PySem.W.keepIn K (.ref A.l_limits) = true
  f_l_law : ∃ fd, Fun K "law" "law" st_l_law A.l_law fd
  g_l_law : mg "law" = some (.ref A.l_law)
  k_l_law : PySem.W.keepIn K (.ref A.l_law) = true
  clT : Cls K A.CT
  clS : Cls K A.CS
  mkT : Mk K A.CT A.s_init
  mkS : Mk K A.CS A.p_init
  g_CT : mg "Store" = some (.ref A.CT)
  g_CS : mg "Space" = some (.ref A.CS)
  nT_room : NoAttr K A.CT "room"
  nT_entries : NoAttr K A.CT "entries"
  nT_words : NoAttr K A.CT "words"
  nT_places : NoAttr K A.CT "_places"
  nT_least : NoAttr K A.CT "_least"
  nS_store : NoAttr K A.CS "store"
  nS_pressure : NoAttr K A.CS "pressure"
  nS_always : NoAttr K A.CS "always"
  nS_allocations : NoAttr K A.CS "allocations"
  nS_collections : NoAttr K A.CS "collections"
  nS_roots : NoAttr K A.CS "_roots"
  nS_held : NoAttr K A.CS "_held"
  nS_saved : NoAttr K A.CS "_saved"
  b_len : mg "len" = none
  b_sorted : mg "sorted" = none
  b_sum : mg "sum" = none
  b_min : mg "min" = none
  b_list : mg "list" = none
  b_dict : mg "dict" = none
  b_int : mg "int" = none
  b_isinstance : mg "isinstance" = none
  b_range : mg "range" = none
  b_bool : mg "bool" = none
  g_NIL : ∃ t, mg "NIL" = some (.int 0 t)
  g_HEADER : ∃ t, mg "HEADER" = some (.int 3 t)
  g_ROOTS : ∃ t, mg "ROOTS" = some (.int 16 t)
  xR : XcT P K mg A.cR A.iR "NoRoom" "NoRoom.__init__" "need" xa_need xb_need
  xN : XcT P K mg A.cN A.iN "NoNumber" "NoNumber.__init__" "limit" xa_limit xb_limit
  xW : XcT P K mg A.cW A.iW "Wrong" "Wrong.__init__" "why" xa_why xb_why
  g_cE : mg "SaggarError" = some (.ref A.cE)
  e_RR : PySem.W.exmOne K (.ref A.cR) (.ref A.cR) = some true
  e_NR : PySem.W.exmOne K (.ref A.cN) (.ref A.cR) = some false
  e_NN : PySem.W.exmOne K (.ref A.cN) (.ref A.cN) = some true
  e_WW : PySem.W.exmOne K (.ref A.cW) (.ref A.cW) = some true
  e_WE : PySem.W.exmOne K (.ref A.cW) (.ref A.cE) = some true
  htop : (P.main.scope.names.lookup ("super" : Str)).isSome = false
end K9
end
section
set_option autoImplicit false
/-! The mathematics of the store: objects in a row, their flat list of words, what is reached. Plain Lean. -/
namespace K9
/-- an object: its number, its kind, its slots -/
structure Ob where
  num : Int
  kind : Int
  slots : List Int
deriving DecidableEq
def Ob.words (o : Ob) : List Int := o.num :: (o.slots.length : Int) :: o.kind :: o.slots
def Ob.len (o : Ob) : Nat := 3 + o.slots.length
theorem Ob.words_length (o : Ob) : o.words.length = o.len := by
  simp only [Ob.words, Ob.len, List.length_cons]; omega
def flat : List Ob → List Int
  | [] => []
  | o :: l => o.words ++ flat l
def nums (l : List Ob) : List Int := l.map Ob.num
def tot (l : List Ob) : Nat := (l.map Ob.len).sum
theorem flat_length : ∀ l : List Ob, (flat l).length = tot l
  | [] => rfl
  | o :: l => by
    rw [flat, List.length_append, flat_length l, Ob.words_length]
    simp [tot]
theorem flat_append : ∀ a b : List Ob, flat (a ++ b) = flat a ++ flat b
  | [], b => rfl
  | o :: a, b => by rw [List.cons_append, flat, flat, flat_append a b, List.append_assoc]
theorem nums_append (a b : List Ob) : nums (a ++ b) = nums a ++ nums b := List.map_append
theorem nums_length (l : List Ob) : (nums l).length = l.length := List.length_map ..
theorem tot_append (a b : List Ob) : tot (a ++ b) = tot a + tot b := by simp [tot]
/-- where an object begins -/
def off : List Ob → Int → Option Nat
  | [], _ => none
  | o :: l, n => if o.num = n then some 0 else (off l n).map (· + o.len)
def ob? : List Ob → Int → Option Ob
  | [], _ => none
  | o :: l, n => if o.num = n then some o else ob? l n
theorem ob_num : ∀ {l : List Ob} {n : Int} {o : Ob}, ob? l n = some o → o.num = n
  | o' :: l, n, o, h => by
    unfold ob? at h
    split at h
    · cases h; assumption
    · exact ob_num h
theorem ob_mem : ∀ {l : List Ob} {n : Int} {o : Ob}, ob? l n = some o → o ∈ l
  | o' :: l, n, o, h => by
    unfold ob? at h
    split at h
    · cases h; exact List.mem_cons_self
    · exact List.mem_cons_of_mem _ (ob_mem h)
theorem mem_nums_of_ob {l : List Ob} {n : Int} {o : Ob} (h : ob? l n = some o) : n ∈ nums l := by
  have := List.mem_map_of_mem (f := Ob.num) (ob_mem h)
  rw [ob_num h] at this; exact this
theorem ob_of_nums : ∀ {l : List Ob} {n : Int}, n ∈ nums l → ∃ o, ob? l n = some o
  | [], n, h => by cases h
  | o :: l, n, h => by
    unfold ob?
    split
    · exact ⟨o, rfl⟩
    · rename_i hn
      refine ob_of_nums ?_
      rcases List.mem_cons.mp (show n ∈ o.num :: nums l from h) with e | e
      · exact absurd e.symm hn
      · exact e
theorem ob_none {l : List Ob} {n : Int} (h : n ∉ nums l) : ob? l n = none := by
  cases q : ob? l n with
  | none => rfl
  | some o => exact absurd (mem_nums_of_ob q) h
theorem ob_of_mem : ∀ {l : List Ob} {o : Ob}, (nums l).Nodup → o ∈ l → ob? l o.num = some o
  | o' :: l, o, nd, h => by
    unfold ob?
    have nd' := List.nodup_cons.mp (show (o'.num :: nums l).Nodup from nd)
    rcases List.mem_cons.mp h with e | e
    · subst e; rw [if_pos rfl]
    · rw [if_neg (fun z => nd'.1 (by rw [z]; exact List.mem_map_of_mem (f := Ob.num) e))]
      exact ob_of_mem nd'.2 e
/-- an object in its place -/
theorem ob_split : ∀ {l : List Ob} {n : Int} {o : Ob}, ob? l n = some o → ∃ a b, l = a ++ o :: b ∧ off l n = some (tot a) ∧ n ∉ nums a
  | o' :: l, n, o, h => by
    unfold ob? at h
    split at h
    · rename_i hn
      cases h
      exact ⟨[], l, rfl, by simp [off, hn, tot], by simp [nums]⟩
    · rename_i hn
      obtain ⟨a, b, e1, e2, e3⟩ := ob_split h
      refine ⟨o' :: a, b, by rw [e1]; rfl, ?_, ?_⟩
      · rw [off, if_neg hn, e2]; simp [tot]; omega
      · intro z
        rcases List.mem_cons.mp (show n ∈ o'.num :: nums a from z) with q | q
        · exact hn q.symm
        · exact e3 q
theorem off_none : ∀ {l : List Ob} {n : Int}, n ∉ nums l → off l n = none
  | [], _, _ => rfl
  | o :: l, n, h => by
    have h' : n ≠ o.num ∧ n ∉ nums l := by
      constructor
      · intro z; exact h (by rw [z]; exact List.mem_cons_self)
      · intro z; exact h (List.mem_cons_of_mem _ z)
    rw [off, if_neg (fun z => h'.1 z.symm), off_none h'.2]; rfl
theorem off_some {l : List Ob} {n : Int} {k : Nat} (h : off l n = some k) : n ∈ nums l := by
  by_cases z : n ∈ nums l
  · exact z
  · rw [off_none z] at h; cases h
theorem off_append : ∀ (l : List Ob) (o : Ob) (n : Int), o.num ∉ nums l → off (l ++ [o]) n = if n = o.num then some (tot l) else off l n
  | [], o, n, _ => by
    simp only [List.nil_append, off, tot, List.map_nil, List.sum_nil]
    by_cases e : o.num = n
    · rw [if_pos e, if_pos e.symm]
    · rw [if_neg e, if_neg (fun z => e z.symm)]; rfl
  | o' :: l, o, n, h => by
    have h1 : o.num ≠ o'.num := fun z => h (by rw [z]; exact List.mem_cons_self)
    have h2 : o.num ∉ nums l := fun z => h (List.mem_cons_of_mem _ z)
    rw [List.cons_append, off, off_append l o n h2, off]
    by_cases e : o'.num = n
    · subst e
      rw [if_pos rfl, if_pos rfl, if_neg (fun z => h1 z.symm)]
    · rw [if_neg e, if_neg e]
      by_cases e2 : n = o.num
      · rw [if_pos e2, if_pos e2]; simp [tot]; omega
      · rw [if_neg e2, if_neg e2]
/-! ### reading and writing the flat list -/
theorem flat_at {l : List Ob} {n : Int} {o : Ob} (h : ob? l n = some o) {k : Nat} (hk : off l n = some k) (i : Nat) (hi : i < o.len) : (flat l)[k + i]? = o.words[i]? := by
  obtain ⟨a, b, e1, e2, _⟩ := ob_split h
  have ek : k = tot a := by rw [hk] at e2; exact Option.some.inj e2
  rw [e1, flat_append, flat, ek, ← flat_length a, List.getElem?_append_right (by omega), List.getElem?_append_left (by rw [Ob.words_length]; omega)]
  congr 1
  omega
theorem off_bound {l : List Ob} {n : Int} {o : Ob} (h : ob? l n = some o) {k : Nat} (hk : off l n = some k) : k + o.len ≤ tot l := by
  obtain ⟨a, b, e1, e2, _⟩ := ob_split h
  have ek : k = tot a := by rw [hk] at e2; exact Option.some.inj e2
  rw [e1, tot_append, ek]; simp [tot]
theorem off_of_ob {l : List Ob} {n : Int} {o : Ob} (h : ob? l n = some o) : ∃ k, off l n = some k := by
  obtain ⟨a, b, _, e2, _⟩ := ob_split h
  exact ⟨_, e2⟩
/-- one object changed -/
def updN : List Ob → Int → (Ob → Ob) → List Ob
  | [], _, _ => []
  | o :: l, n, f => if o.num = n then f o :: l else o :: updN l n f
theorem updN_split {a b : List Ob} {o : Ob} {n : Int} {f : Ob → Ob} (hn : o.num = n) (h : n ∉ nums a) : updN (a ++ o :: b) n f = a ++ f o :: b := by
  induction a with
  | nil => simp [updN, hn]
  | cons x a ih =>
    have h1 : x.num ≠ n := fun z => h (by rw [← z]; exact List.mem_cons_self)
    rw [List.cons_append, updN, if_neg h1, ih (fun z => h (List.mem_cons_of_mem _ z))]; rfl
theorem set_mid {α : Type} (a b : List α) (x y : α) (c : List α) (i : Nat) (hi : i < b.length) (e : y = x) : (a ++ (b ++ c)).set (a.length + i) x = a ++ (b.set i y ++ c) := by
  subst e
  rw [List.set_append_right _ _ (by omega), List.set_append_left _ _ (by omega)]
  congr 3; omega
theorem flat_set {l : List Ob} {n : Int} {o : Ob} (h : ob? l n = some o) {k : Nat} (hk : off l n = some k) (i : Nat) (hi : i < o.len) (v : Int) (f : Ob → Ob) (hf : (f o).words = o.words.set i v) :
    (flat l).set (k + i) v = flat (updN l n f) := by
  obtain ⟨a, b, e1, e2, e3⟩ := ob_split h
  have ek : k = tot a := by rw [hk] at e2; exact Option.some.inj e2
  rw [e1, updN_split (ob_num h) e3, flat_append, flat, flat_append, flat, ek, ← flat_length a, hf]
  exact set_mid _ _ _ _ _ _ (by rw [Ob.words_length]; exact hi) rfl
theorem updN_nums {l : List Ob} {n : Int} {f : Ob → Ob} (hf : ∀ o, (f o).num = o.num) : nums (updN l n f) = nums l := by
  induction l with
  | nil => rfl
  | cons o l ih =>
    rw [updN]
    split
    · show (f o).num :: nums l = o.num :: nums l
      rw [hf]
    · show o.num :: nums (updN l n f) = o.num :: nums l
      rw [ih]
theorem updN_off {l : List Ob} {n : Int} {f : Ob → Ob} (hf : ∀ o, (f o).num = o.num) (hl : ∀ o, (f o).len = o.len) (m : Int) : off (updN l n f) m = off l m := by
  induction l with
  | nil => rfl
  | cons o l ih =>
    rw [updN]
    split
    · rw [off, off, hf, hl]
    · rw [off, off, ih]
theorem updN_tot {l : List Ob} {n : Int} {f : Ob → Ob} (hl : ∀ o, (f o).len = o.len) : tot (updN l n f) = tot l := by
  induction l with
  | nil => rfl
  | cons o l ih =>
    have cons : ∀ (x : Ob) (r : List Ob), tot (x :: r) = x.len + tot r := fun x r => by simp [tot]
    rw [updN]
    split
    · rw [cons, cons, hl]
    · rw [cons, cons, ih]
theorem updN_length {l : List Ob} {n : Int} {f : Ob → Ob} : (updN l n f).length = l.length := by
  induction l with
  | nil => rfl
  | cons o l ih => rw [updN]; split <;> simp [ih]
theorem updN_ob {l : List Ob} {n : Int} {f : Ob → Ob} (hf : ∀ o, (f o).num = o.num) (m : Int) : ob? (updN l n f) m = if m = n then (ob? l m).map f else ob? l m := by
  induction l with
  | nil => simp [updN, ob?]
  | cons o l ih =>
    rw [updN]
    by_cases e : o.num = n
    · rw [if_pos e, ob?, hf, ob?]
      by_cases e2 : o.num = m
      · rw [if_pos e2, if_pos e2, if_pos (e2.symm.trans e)]; rfl
      · rw [if_neg e2, if_neg e2, if_neg (fun z => e2 (e.trans z.symm))]
    · rw [if_neg e, ob?, ob?, ih]
      by_cases e2 : o.num = m
      · rw [if_pos e2, if_pos e2, if_neg (fun z => e (e2.trans z))]
      · rw [if_neg e2, if_neg e2]
/-! ### exchange -/
def swapN (a b n : Int) : Int := if n = a then b else if n = b then a else n
theorem swapN_swapN (a b n : Int) : swapN a b (swapN a b n) = n := by
  unfold swapN
  by_cases h1 : n = a
  · subst h1
    rw [if_pos rfl]
    by_cases h2 : b = n
    · rw [if_pos h2, h2]
    · rw [if_neg h2, if_pos rfl]
  · rw [if_neg h1]
    by_cases h2 : n = b
    · subst h2; rw [if_pos rfl, if_pos rfl]
    · rw [if_neg h2, if_neg h1, if_neg h2]
theorem swapN_inj {a b x y : Int} (h : swapN a b x = swapN a b y) : x = y := by
  rw [← swapN_swapN a b x, h, swapN_swapN]
def exch (l : List Ob) (a b : Int) : List Ob := l.map fun o => { o with num := swapN a b o.num }
theorem exch_nums (l : List Ob) (a b : Int) : nums (exch l a b) = (nums l).map (swapN a b) := by
  unfold exch nums; rw [List.map_map, List.map_map]; rfl
theorem exch_ob (l : List Ob) (a b n : Int) : ob? (exch l a b) n = (ob? l (swapN a b n)).map fun o => { o with num := n } := by
  induction l with
  | nil => rfl
  | cons o l ih =>
    show ob? ({ o with num := swapN a b o.num } :: exch l a b) n = _
    rw [ob?, ob?]
    by_cases e : o.num = swapN a b n
    · have e' : swapN a b o.num = n := by rw [e, swapN_swapN]
      rw [if_pos e', if_pos e]
      show some { o with num := swapN a b o.num } = some { o with num := n }
      rw [e']
    · rw [if_neg (fun z => e (by rw [← z, swapN_swapN])), if_neg e, ih]
theorem exch_off (l : List Ob) (a b n : Int) : off (exch l a b) n = off l (swapN a b n) := by
  induction l with
  | nil => rfl
  | cons o l ih =>
    show off ({ o with num := swapN a b o.num } :: exch l a b) n = _
    rw [off, off]
    by_cases e : o.num = swapN a b n
    · rw [if_pos (by rw [e, swapN_swapN] : swapN a b o.num = n), if_pos e]
    · rw [if_neg (fun z => e (by rw [← z, swapN_swapN])), if_neg e, ih]; rfl
theorem exch_tot (l : List Ob) (a b : Int) : tot (exch l a b) = tot l := by
  unfold tot exch; rw [List.map_map]; rfl
theorem exch_length (l : List Ob) (a b : Int) : (exch l a b).length = l.length := List.length_map ..
theorem exch_nodup {l : List Ob} (a b : Int) (h : (nums l).Nodup) : (nums (exch l a b)).Nodup := by
  rw [exch_nums]
  exact List.Pairwise.map _ (fun x y hxy e => hxy (swapN_inj e)) h
theorem exch_id {l : List Ob} {a b : Int} (ha : a ∉ nums l) (hb : b ∉ nums l) : exch l a b = l := by
  unfold exch
  induction l with
  | nil => rfl
  | cons o l ih =>
    have h1 : o.num ≠ a := fun z => ha (by rw [← z]; exact List.mem_cons_self)
    have h2 : o.num ≠ b := fun z => hb (by rw [← z]; exact List.mem_cons_self)
    rw [List.map_cons, ih (fun z => ha (List.mem_cons_of_mem _ z)) (fun z => hb (List.mem_cons_of_mem _ z))]
    have : swapN a b o.num = o.num := by unfold swapN; rw [if_neg h1, if_neg h2]
    rw [this]
theorem off_app : ∀ (x y : List Ob) (n : Int), n ∉ nums x → off (x ++ y) n = (off y n).map (· + tot x)
  | [], y, n, _ => by simp [tot]
  | o :: x, y, n, h => by
    have h1 : o.num ≠ n := fun z => h (by rw [← z]; exact List.mem_cons_self)
    have h2 : n ∉ nums x := fun z => h (List.mem_cons_of_mem _ z)
    rw [List.cons_append, off, if_neg h1, off_app x y n h2, Option.map_map]
    congr 1; funext k; simp [tot]; omega
theorem set_head {α : Type} (A : List α) (u v : α) (B : List α) : (A ++ u :: B).set A.length v = A ++ v :: B := by simp
theorem exch_app (x y : List Ob) (a b : Int) : exch (x ++ y) a b = exch x a b ++ exch y a b := List.map_append
theorem exch_cons (o : Ob) (y : List Ob) (a b : Int) : exch (o :: y) a b = { o with num := swapN a b o.num } :: exch y a b := rfl
theorem flat_cons (o : Ob) (l : List Ob) : flat (o :: l) = o.num :: ((o.slots.length : Int) :: o.kind :: o.slots ++ flat l) := rfl
/-- two objects, one behind the other -/
theorem exch_two {x y z : List Ob} {o1 o2 : Ob} {a b : Int} (h1 : o1.num = a) (h2 : o2.num = b) (nx : a ∉ nums x ∧ b ∉ nums x) (ny : a ∉ nums y ∧ b ∉ nums y) (nz : a ∉ nums z ∧ b ∉ nums z) (hab : a ≠ b) :
    off (x ++ o1 :: (y ++ o2 :: z)) a = some (tot x) ∧ off (x ++ o1 :: (y ++ o2 :: z)) b = some (tot x + (o1.len + tot y)) ∧
    ((flat (x ++ o1 :: (y ++ o2 :: z))).set (tot x) b).set (tot x + (o1.len + tot y)) a = flat (exch (x ++ o1 :: (y ++ o2 :: z)) a b) ∧
    ((flat (x ++ o1 :: (y ++ o2 :: z))).set (tot x + (o1.len + tot y)) a).set (tot x) b = flat (exch (x ++ o1 :: (y ++ o2 :: z)) a b) := by
  have ea : off (o1 :: (y ++ o2 :: z)) a = some 0 := by rw [off, if_pos h1]
  have eb : off (o1 :: (y ++ o2 :: z)) b = some (o1.len + tot y) := by
    rw [off, if_neg (fun q => hab (h1.symm.trans q)), off_app _ _ _ ny.2, off, if_pos h2]
    simp; omega
  have pa : swapN a b o1.num = b := by rw [h1]; unfold swapN; rw [if_pos rfl]
  have pb : swapN a b o2.num = a := by rw [h2]; unfold swapN; rw [if_neg (Ne.symm hab), if_pos rfl]
  have step : ((flat (x ++ o1 :: (y ++ o2 :: z))).set (tot x) b).set (tot x + (o1.len + tot y)) a = flat (exch (x ++ o1 :: (y ++ o2 :: z)) a b) := by
    rw [exch_app, exch_cons, exch_app, exch_cons, exch_id nx.1 nx.2, exch_id ny.1 ny.2, exch_id nz.1 nz.2, pa, pb, flat_append, flat_cons, ← flat_length x, set_head, flat_append x, flat_cons { o1 with num := b }, flat_append y, flat_append y, flat_cons o2, flat_cons { o2 with num := a }]
    have e : (flat x).length + (o1.len + tot y) = (flat x ++ b :: ((o1.slots.length : Int) :: o1.kind :: o1.slots ++ flat y)).length := by
      rw [← flat_length y]; simp [Ob.len]; omega
    have g : ∀ u : Int, flat x ++ b :: ((o1.slots.length : Int) :: o1.kind :: o1.slots ++ (flat y ++ u :: ((o2.slots.length : Int) :: o2.kind :: o2.slots ++ flat z)))
      = (flat x ++ b :: ((o1.slots.length : Int) :: o1.kind :: o1.slots ++ flat y)) ++ u :: ((o2.slots.length : Int) :: o2.kind :: o2.slots ++ flat z) := fun u => by simp
    rw [g, e, set_head, ← g]
  refine ⟨by rw [off_app _ _ _ nx.1, ea]; simp, by rw [off_app _ _ _ nx.2, eb]; simp; omega, step, ?_⟩
  rw [← step]
  exact List.set_comm _ _ (by unfold Ob.len; omega)
theorem swapN_comm (a b n : Int) : swapN a b n = swapN b a n := by
  unfold swapN
  by_cases h1 : n = a
  · by_cases h2 : n = b
    · rw [if_pos h1, if_pos h2, ← h1, ← h2]
    · rw [if_pos h1, if_neg h2, if_pos h1]
  · by_cases h2 : n = b
    · rw [if_neg h1, if_pos h2, if_pos h2]
    · rw [if_neg h1, if_neg h2, if_neg h2, if_neg h1]
theorem exch_comm (l : List Ob) (a b : Int) : exch l a b = exch l b a := by
  unfold exch; congr 1; funext o; rw [swapN_comm]
/-- the two stores in the flat list -/
theorem exch_flat {l : List Ob} (nd : (nums l).Nodup) {a b : Int} {ka kb : Nat} (ha : off l a = some ka) (hb : off l b = some kb) : ((flat l).set ka b).set kb a = flat (exch l a b) := by
  obtain ⟨oa, ea⟩ := ob_of_nums (off_some ha)
  obtain ⟨p, q, e1, e2, e3⟩ := ob_split ea
  have na : oa.num = a := ob_num ea
  by_cases hab : a = b
  · subst hab
    have hk : kb = ka := by rw [ha] at hb; exact (Option.some.inj hb).symm
    subst hk
    have e4 : exch l a a = l := by
      unfold exch
      have h : ∀ n, swapN a a n = n := fun n => by unfold swapN; split <;> simp_all
      simp [h]
    have h3 := flat_set ea ha 0 (by unfold Ob.len; omega) a (fun o => { o with num := a }) rfl
    rw [Nat.add_zero] at h3
    rw [e4, List.set_set, h3, e1, updN_split na e3, ← na]
  · have hnd := nd
    rw [e1, nums_append] at hnd
    obtain ⟨d1, d2, d3⟩ := List.nodup_append.mp hnd
    obtain ⟨d4, d5⟩ := List.nodup_cons.mp (show (oa.num :: nums q).Nodup from d2)
    rw [na] at d4
    have hm := off_some hb
    rw [e1, nums_append] at hm
    have ndl : ∀ {x y : List Ob} {o : Ob}, (nums (x ++ o :: y)).Nodup → o.num ∉ nums x ∧ o.num ∉ nums y := fun {x y o} h => by
      rw [nums_append] at h
      obtain ⟨_, h2, h3⟩ := List.nodup_append.mp h
      exact ⟨fun z => h3 _ z _ List.mem_cons_self rfl, (List.nodup_cons.mp (show (o.num :: nums y).Nodup from h2)).1⟩
    rcases List.mem_append.mp hm with hp | hq
    · obtain ⟨ob', eb'⟩ := ob_of_nums hp
      obtain ⟨p1, p2, f1, f2, f3⟩ := ob_split eb'
      have nb : ob'.num = b := ob_num eb'
      have g := ndl (x := p1) (y := p2) (o := ob') (by rw [← f1]; exact d1)
      have a1 : a ∉ nums p1 ∧ a ∉ nums p2 := ⟨fun z => e3 (by rw [f1, nums_append]; exact List.mem_append_left _ z), fun z => e3 (by rw [f1, nums_append]; exact List.mem_append_right _ (List.mem_cons_of_mem _ z))⟩
      have bq : b ∉ nums q := fun z => d3 b hp b (List.mem_cons_of_mem _ z) rfl
      have el : l = p1 ++ ob' :: (p2 ++ oa :: q) := by rw [e1, f1]; simp
      obtain ⟨t1, t2, t3, t4⟩ := exch_two (x := p1) (y := p2) (z := q) (o1 := ob') (o2 := oa) (a := b) (b := a) nb na ⟨f3, a1.1⟩ ⟨by rw [← nb]; exact g.2, a1.2⟩ ⟨bq, d4⟩ (Ne.symm hab)
      rw [← el] at t1 t2 t3 t4
      rw [ha] at t2; rw [hb] at t1
      cases t1; cases t2
      rw [t4, exch_comm]
    · rcases List.mem_cons.mp (show b ∈ oa.num :: nums q from hq) with z | hq
      · exact absurd (na ▸ z.symm) hab
      obtain ⟨ob', eb'⟩ := ob_of_nums hq
      obtain ⟨p1, p2, f1, f2, f3⟩ := ob_split eb'
      have nb : ob'.num = b := ob_num eb'
      have g := ndl (x := p1) (y := p2) (o := ob') (by rw [← f1]; exact d5)
      have a1 : a ∉ nums p1 ∧ a ∉ nums p2 := ⟨fun z => d4 (by rw [f1, nums_append]; exact List.mem_append_left _ z), fun z => d4 (by rw [f1, nums_append]; exact List.mem_append_right _ (List.mem_cons_of_mem _ z))⟩
      have bp : b ∉ nums p := fun z => d3 b z b (List.mem_cons_of_mem _ hq) rfl
      have el : l = p ++ oa :: (p1 ++ ob' :: p2) := by rw [e1, f1]
      obtain ⟨t1, t2, t3, t4⟩ := exch_two (x := p) (y := p1) (z := p2) (o1 := oa) (o2 := ob') (a := a) (b := b) na nb ⟨e3, bp⟩ ⟨a1.1, f3⟩ ⟨a1.2, by rw [← nb]; exact g.2⟩ hab
      rw [← el] at t1 t2 t3 t4
      rw [ha] at t1; rw [hb] at t2
      cases t1; cases t2
      exact t3
end K9
end
section
set_option autoImplicit false
/-! What is reached; two stores that are alike but for the numbers. Plain Lean. -/
namespace K9
inductive Reach (l : List Ob) (ws : List Int) : Int → Prop
  | root {w : Int} : w ∈ ws → w % 2 = 0 → w / 2 ∈ nums l → Reach l ws (w / 2)
  | step {n : Int} {o : Ob} {w : Int} : Reach l ws n → ob? l n = some o → w ∈ o.kind :: o.slots → w % 2 = 0 → w / 2 ∈ nums l → Reach l ws (w / 2)
theorem Reach.mem {l : List Ob} {ws : List Int} {n : Int} (h : Reach l ws n) : n ∈ nums l := by
  cases h <;> assumption
theorem Reach.mono {l : List Ob} {ws ws' : List Int} (hs : ∀ w ∈ ws, w ∈ ws') {n : Int} (h : Reach l ws n) : Reach l ws' n := by
  induction h with
  | root h1 h2 h3 => exact .root (hs _ h1) h2 h3
  | step _ h1 h2 h3 h4 ih => exact .step ih h1 h2 h3 h4
open Classical in
/-- what is reached, in its order -/
noncomputable def kept (l : List Ob) (ws : List Int) : List Ob := l.filter fun o => decide (Reach l ws o.num)
theorem filter_nums (l : List Ob) (p : Int → Bool) : nums (l.filter fun o => p o.num) = (nums l).filter p := by
  unfold nums
  rw [List.filter_map]; rfl
theorem filter_ob (l : List Ob) (p : Int → Bool) (n : Int) : ob? (l.filter fun o => p o.num) n = if p n = true then ob? l n else none := by
  induction l with
  | nil => simp [ob?]
  | cons o l ih =>
    rw [List.filter_cons]
    by_cases hp : p o.num = true
    · rw [if_pos hp, ob?, ob?, ih]
      by_cases e : o.num = n
      · rw [if_pos e, if_pos e, if_pos (by rw [← e]; exact hp)]
      · rw [if_neg e, if_neg e]
    · rw [if_neg hp, ih, ob?]
      by_cases e : o.num = n
      · rw [if_neg (by rw [← e]; exact hp), if_neg (by rw [← e]; exact hp)]
      · rw [if_neg e]
theorem mem_kept {l : List Ob} {ws : List Int} {n : Int} : n ∈ nums (kept l ws) ↔ Reach l ws n := by
  classical
  unfold kept
  rw [filter_nums l fun n => decide (Reach l ws n), List.mem_filter]
  constructor
  · intro h; exact of_decide_eq_true h.2
  · intro h; exact ⟨h.mem, decide_eq_true h⟩
theorem kept_ob {l : List Ob} {ws : List Int} {n : Int} (h : Reach l ws n) : ob? (kept l ws) n = ob? l n := by
  classical
  unfold kept
  rw [filter_ob l (fun n => decide (Reach l ws n)), if_pos (decide_eq_true h)]
theorem kept_nodup {l : List Ob} {ws : List Int} (h : (nums l).Nodup) : (nums (kept l ws)).Nodup := by
  classical
  unfold kept
  rw [filter_nums l fun n => decide (Reach l ws n)]
  exact h.filter _
theorem kept_sub {l : List Ob} {ws : List Int} {o : Ob} (h : o ∈ kept l ws) : o ∈ l := by
  unfold kept at h
  exact (List.mem_filter.mp h).1
theorem tot_filter (l : List Ob) (p : Ob → Bool) : tot (l.filter p) ≤ tot l := by
  induction l with
  | nil => exact Nat.le_refl _
  | cons o l ih =>
    have cons : ∀ (x : Ob) (r : List Ob), tot (x :: r) = x.len + tot r := fun x r => by simp [tot]
    rw [List.filter_cons]
    split
    · rw [cons, cons]; omega
    · rw [cons]; omega
theorem tot_kept (l : List Ob) (ws : List Int) : tot (kept l ws) ≤ tot l := tot_filter l _
theorem length_kept (l : List Ob) (ws : List Int) : (kept l ws).length ≤ l.length := List.length_filter_le _ _
/-- reaching within what was kept by more words is reaching -/
theorem reach_kept {l : List Ob} {ws ws' : List Int} (hs : ∀ w ∈ ws', w ∈ ws) {n : Int} : Reach (kept l ws) ws' n ↔ Reach l ws' n := by
  constructor
  · intro h
    induction h with
    | root h1 h2 h3 => exact .root h1 h2 (mem_kept.mp h3).mem
    | step h0 h1 h2 h3 h4 ih =>
      rw [kept_ob (mem_kept.mp h0.mem)] at h1
      exact .step ih h1 h2 h3 (mem_kept.mp h4).mem
  · intro h
    induction h with
    | root h1 h2 h3 => exact .root h1 h2 (mem_kept.mpr (.root (hs _ h1) h2 h3))
    | step h0 h1 h2 h3 h4 ih =>
      have r := h0.mono hs
      exact .step ih (by rw [kept_ob r]; exact h1) h2 h3 (mem_kept.mpr (.step r h1 h2 h3 h4))
theorem kept_kept {l : List Ob} {ws ws' : List Int} (hs : ∀ w ∈ ws', w ∈ ws) : kept (kept l ws) ws' = kept l ws' := by
  classical
  have e : kept (kept l ws) ws' = (kept l ws).filter fun o => decide (Reach l ws' o.num) := by
    unfold kept
    congr 1
    funext o
    exact decide_eq_decide.mpr (reach_kept (l := l) hs)
  rw [e]
  unfold kept
  rw [List.filter_filter]
  congr 1
  funext o
  by_cases h : Reach l ws' o.num
  · rw [decide_eq_true h, decide_eq_true (h.mono hs)]; rfl
  · rw [decide_eq_false h]; rfl
/-! ### two lists, item by item -/
inductive F2 {α β : Type} (R : α → β → Prop) : List α → List β → Prop
  | nil : F2 R [] []
  | cons {a : α} {b : β} {x : List α} {y : List β} : R a b → F2 R x y → F2 R (a :: x) (b :: y)
section
variable {α β : Type} {R S : α → β → Prop}
theorem F2.imp (h : ∀ a b, R a b → S a b) : ∀ {x : List α} {y : List β}, F2 R x y → F2 S x y
  | _, _, .nil => .nil
  | _, _, .cons r t => .cons (h _ _ r) (F2.imp h t)
theorem F2.length : ∀ {x : List α} {y : List β}, F2 R x y → x.length = y.length
  | _, _, .nil => rfl
  | _, _, .cons _ t => congrArg (· + 1) t.length
theorem F2.flip : ∀ {x : List α} {y : List β}, F2 R x y → F2 (fun b a => R a b) y x
  | _, _, .nil => .nil
  | _, _, .cons r t => .cons r t.flip
theorem F2.app : ∀ {x x' : List α} {y y' : List β}, F2 R x y → F2 R x' y' → F2 R (x ++ x') (y ++ y')
  | _, _, _, _, .nil, s => s
  | _, _, _, _, .cons r t, s => .cons r (F2.app t s)
theorem F2.get : ∀ {x : List α} {y : List β} {i : Nat} {a : α}, F2 R x y → x[i]? = some a → ∃ b, y[i]? = some b ∧ R a b
  | _, _, _, _, .nil, h => by simp at h
  | _, _, 0, _, .cons r _, h => by simp at h; subst h; exact ⟨_, rfl, r⟩
  | _, _, i + 1, _, .cons _ t, h => by
    obtain ⟨b, h1, h2⟩ := F2.get (i := i) t (by simpa using h)
    exact ⟨b, by simpa using h1, h2⟩
theorem F2.mem : ∀ {x : List α} {y : List β} {a : α}, F2 R x y → a ∈ x → ∃ b, b ∈ y ∧ R a b
  | _, _, _, .cons (b := b) r t, h => by
    rcases List.mem_cons.mp h with e | e
    · subst e; exact ⟨b, List.mem_cons_self, r⟩
    · obtain ⟨b', h1, h2⟩ := t.mem e
      exact ⟨b', List.mem_cons_of_mem _ h1, h2⟩
theorem F2.set {a : α} {b : β} (r : R a b) : ∀ {x : List α} {y : List β} (i : Nat), F2 R x y → F2 R (x.set i a) (y.set i b)
  | _, _, _, .nil => .nil
  | _, _, 0, .cons _ t => .cons r t
  | _, _, i + 1, .cons q t => .cons q (F2.set r i t)
theorem F2.take : ∀ {x : List α} {y : List β} (n : Nat), F2 R x y → F2 R (x.take n) (y.take n)
  | _, _, 0, _ => .nil
  | _, _, _ + 1, .nil => .nil
  | _, _, n + 1, .cons r t => .cons r (F2.take n t)
theorem F2.replicate {a : α} {b : β} (r : R a b) : ∀ n : Nat, F2 R (List.replicate n a) (List.replicate n b)
  | 0 => .nil
  | n + 1 => .cons r (F2.replicate r n)
theorem F2.split : ∀ {x x' : List α} {y y' : List β}, F2 R (x ++ x') (y ++ y') → x.length = y.length → F2 R x y ∧ F2 R x' y'
  | [], _, [], _, h, _ => ⟨.nil, h⟩
  | _ :: _, _, _ :: _, _, .cons r t, e => by
    obtain ⟨h1, h2⟩ := F2.split t (by simpa using e)
    exact ⟨.cons r h1, h2⟩
end
/-! ### alike -/
def wrel (ρ : Int → Int → Prop) (x y : Int) : Prop := (x % 2 = 1 ∧ x = y) ∨ (x % 2 = 0 ∧ y % 2 = 0 ∧ ρ (x / 2) (y / 2))
theorem wrel.imp {ρ τ : Int → Int → Prop} (h : ∀ a b, ρ a b → τ a b) {x y : Int} (r : wrel ρ x y) : wrel τ x y := by
  rcases r with r | ⟨h1, h2, h3⟩
  · exact .inl r
  · exact .inr ⟨h1, h2, h _ _ h3⟩
theorem wrel.flip {ρ : Int → Int → Prop} {x y : Int} (r : wrel ρ x y) : wrel (fun b a => ρ a b) y x := by
  rcases r with ⟨h1, h2⟩ | ⟨h1, h2, h3⟩
  · exact .inl ⟨by rw [← h2]; exact h1, h2.symm⟩
  · exact .inr ⟨h2, h1, h3⟩
theorem wrel.par {ρ : Int → Int → Prop} {x y : Int} (r : wrel ρ x y) : x % 2 = y % 2 := by
  rcases r with ⟨_, h2⟩ | ⟨h1, h2, _⟩
  · rw [h2]
  · rw [h1, h2]
structure Sim (ρ : Int → Int → Prop) (l₁ l₂ : List Ob) (w₁ w₂ : List Int) : Prop where
  r : F2 (wrel ρ) w₁ w₂
  f : ∀ a b b', ρ a b → ρ a b' → b = b'
  g : ∀ a a' b, ρ a b → ρ a' b → a = a'
  c : ∀ a b, ρ a b → ∃ o₁ o₂, ob? l₁ a = some o₁ ∧ ob? l₂ b = some o₂ ∧ wrel ρ o₁.kind o₂.kind ∧ F2 (wrel ρ) o₁.slots o₂.slots
section
variable {ρ : Int → Int → Prop} {l₁ l₂ : List Ob} {w₁ w₂ : List Int}
theorem Sim.symm (s : Sim ρ l₁ l₂ w₁ w₂) : Sim (fun b a => ρ a b) l₂ l₁ w₂ w₁ :=
  ⟨s.r.flip.imp fun _ _ h => h.flip, fun a b b' h h' => s.g _ _ _ h h', fun a a' b h h' => s.f _ _ _ h h', fun a b h => by
    obtain ⟨o₁, o₂, h1, h2, h3, h4⟩ := s.c _ _ h
    exact ⟨o₂, o₁, h2, h1, h3.flip, h4.flip.imp fun _ _ h => h.flip⟩⟩
theorem Sim.reach (s : Sim ρ l₁ l₂ w₁ w₂) {a : Int} (h : Reach l₁ w₁ a) : ∃ b, ρ a b ∧ Reach l₂ w₂ b := by
  have inn : ∀ {a b}, ρ a b → b ∈ nums l₂ := fun {a b} h => by
    obtain ⟨_, o₂, _, h2, _⟩ := s.c _ _ h
    exact mem_nums_of_ob h2
  induction h with
  | @root w h1 h2 h3 =>
    obtain ⟨y, hy, r⟩ := s.r.mem h1
    rcases r with ⟨r, _⟩ | ⟨_, h5, h6⟩
    · omega
    · exact ⟨y / 2, h6, .root hy h5 (inn h6)⟩
  | @step n o w h0 h1 h2 h3 h4 ih =>
    obtain ⟨b, hb, rb⟩ := ih
    obtain ⟨o₁, o₂, e1, e2, hk, hs⟩ := s.c _ _ hb
    rw [h1] at e1; cases e1
    obtain ⟨y, hy, r⟩ := (F2.cons hk hs).mem h2
    rcases r with ⟨r, _⟩ | ⟨_, h5, h6⟩
    · omega
    · exact ⟨y / 2, h6, .step rb e2 hy h5 (inn h6)⟩
theorem Sim.reach_of (s : Sim ρ l₁ l₂ w₁ w₂) {a b : Int} (h : ρ a b) (ra : Reach l₁ w₁ a) : Reach l₂ w₂ b := by
  obtain ⟨b', h1, h2⟩ := s.reach ra
  rw [s.f _ _ _ h h1]; exact h2
/-- what matters of the pairs -/
theorem Sim.cut (s : Sim ρ l₁ l₂ w₁ w₂) : Sim (fun a b => ρ a b ∧ Reach l₁ w₁ a) l₁ l₂ w₁ w₂ := by
  have inn : ∀ {a b}, ρ a b → a ∈ nums l₁ := fun {a b} h => by
    obtain ⟨o₁, _, h2, _⟩ := s.c _ _ h
    exact mem_nums_of_ob h2
  have up : ∀ {x : List Int} {y : List Int}, F2 (wrel ρ) x y → (∀ w ∈ x, w % 2 = 0 → w / 2 ∈ nums l₁ → Reach l₁ w₁ (w / 2)) → F2 (wrel fun a b => ρ a b ∧ Reach l₁ w₁ a) x y := by
    intro x y h
    induction h with
    | nil => intro _; exact .nil
    | cons r t ih =>
      intro hr
      refine .cons ?_ (ih fun w hw => hr w (List.mem_cons_of_mem _ hw))
      rcases r with r | ⟨h1, h2, h3⟩
      · exact .inl r
      · exact .inr ⟨h1, h2, h3, hr _ List.mem_cons_self h1 (inn h3)⟩
  refine ⟨up s.r fun w hw h1 h2 => .root hw h1 h2, fun a b b' h h' => s.f _ _ _ h.1 h'.1, fun a a' b h h' => s.g _ _ _ h.1 h'.1, fun a b h => ?_⟩
  obtain ⟨o₁, o₂, h1, h2, h3, h4⟩ := s.c _ _ h.1
  have h5 := up (F2.cons h3 h4) fun w hw e1 e2 => .step h.2 h1 hw e1 e2
  cases h5 with
  | cons r t => exact ⟨o₁, o₂, h1, h2, r, t⟩
/-- one side is collected -/
theorem Sim.keep1 (s : Sim ρ l₁ l₂ w₁ w₂) {W : List Int} (hs : ∀ w ∈ w₁, w ∈ W) : Sim (fun a b => ρ a b ∧ Reach l₁ w₁ a) (kept l₁ W) l₂ w₁ w₂ := by
  have c := s.cut
  refine ⟨c.r, c.f, c.g, fun a b h => ?_⟩
  obtain ⟨o₁, o₂, h1, h2, h3, h4⟩ := c.c _ _ h
  exact ⟨o₁, o₂, by rw [kept_ob (h.2.mono hs)]; exact h1, h2, h3, h4⟩
theorem Sim.keep2 (s : Sim ρ l₁ l₂ w₁ w₂) {W : List Int} (hs : ∀ w ∈ w₂, w ∈ W) : ∃ τ, Sim τ l₁ (kept l₂ W) w₁ w₂ :=
  ⟨_, (s.symm.keep1 hs).symm⟩
theorem sum_map_congr {α : Type} {f g : α → Nat} : ∀ {l : List α}, (∀ a ∈ l, f a = g a) → (l.map f).sum = (l.map g).sum
  | [], _ => rfl
  | a :: l, h => by
    simp only [List.map_cons, List.sum_cons]
    rw [h a List.mem_cons_self, sum_map_congr fun b hb => h b (List.mem_cons_of_mem _ hb)]
def lenN (l : List Ob) (n : Int) : Nat := (ob? l n).elim 0 Ob.len
theorem tot_nums : ∀ {l : List Ob}, (nums l).Nodup → tot l = ((nums l).map (lenN l)).sum := by
  intro l nd
  unfold tot nums
  rw [List.map_map]
  refine sum_map_congr fun o ho => ?_
  show o.len = lenN l o.num
  unfold lenN
  rw [ob_of_mem nd ho]; rfl
theorem perm_of_same {α : Type} [DecidableEq α] : ∀ {a b : List α}, a.Nodup → b.Nodup → (∀ x, x ∈ a ↔ x ∈ b) → a.Perm b := by
  intro a b ha hb h
  exact (List.perm_ext_iff_of_nodup ha hb).mpr h
/-- as many, and as much, is reached here as there -/
theorem Sim.live (s : Sim ρ l₁ l₂ w₁ w₂) (n₁ : (nums l₁).Nodup) (n₂ : (nums l₂).Nodup) : tot (kept l₁ w₁) = tot (kept l₂ w₂) ∧ (kept l₁ w₁).length = (kept l₂ w₂).length := by
  classical
  -- the map from here to there
  let φ : Int → Int := fun a => if h : ∃ b, ρ a b then Classical.choose h else 0
  have hφ : ∀ {a b}, ρ a b → φ a = b := fun {a b} h => by
    have e : ∃ b, ρ a b := ⟨b, h⟩
    show (if h : ∃ b, ρ a b then Classical.choose h else 0) = b
    rw [dif_pos e]
    exact s.f _ _ _ (Classical.choose_spec e) h
  have d1 := kept_nodup (ws := w₁) n₁
  have d2 := kept_nodup (ws := w₂) n₂
  have inj : ((nums (kept l₁ w₁)).map φ).Nodup := by
    unfold List.Nodup
    rw [List.pairwise_map]
    refine d1.imp_of_mem fun {x y} hx hy ne e => ne ?_
    obtain ⟨b, hb, _⟩ := s.reach (mem_kept.mp hx)
    obtain ⟨b', hb', _⟩ := s.reach (mem_kept.mp hy)
    rw [hφ hb, hφ hb'] at e
    subst e
    exact s.g _ _ _ hb hb'
  have same : ∀ x, x ∈ (nums (kept l₁ w₁)).map φ ↔ x ∈ nums (kept l₂ w₂) := by
    intro x
    rw [List.mem_map]
    constructor
    · rintro ⟨a, ha, rfl⟩
      obtain ⟨b, hb, rb⟩ := s.reach (mem_kept.mp ha)
      rw [hφ hb]
      exact mem_kept.mpr rb
    · intro hx
      obtain ⟨a, ha, ra⟩ := s.symm.reach (mem_kept.mp hx)
      exact ⟨a, mem_kept.mpr ra, hφ ha⟩
  have P := perm_of_same inj d2 same
  constructor
  · rw [tot_nums d1, tot_nums d2, ← (P.map (lenN (kept l₂ w₂))).sum_nat, List.map_map]
    refine sum_map_congr fun a ha => ?_
    have ra := mem_kept.mp ha
    obtain ⟨b, hb, rb⟩ := s.reach ra
    obtain ⟨o₁, o₂, e1, e2, _, hs⟩ := s.c _ _ hb
    show lenN (kept l₁ w₁) a = lenN (kept l₂ w₂) (φ a)
    rw [hφ hb]
    unfold lenN
    rw [kept_ob ra, kept_ob rb, e1, e2]
    show o₁.len = o₂.len
    unfold Ob.len
    rw [hs.length]
  · have := P.length_eq
    rw [List.length_map, nums_length, nums_length] at this
    exact this
end
end K9
end
section
set_option Elab.async false
set_option linter.all false
set_option maxRecDepth 100000
set_option maxHeartbeats 4000000
/-! What a store and a space are in the heap. -/
namespace K9
open PySem PySem.Spec PyProof.Rows L2 LamX
/-! ### attributes by place -/
theorem idx_find {k : Str} : ∀ {ks : List Str} {vs : List V} {i : Nat} {v : V}, ks.idxOf? k = some i → vs[i]? = some v → (ks.zip vs).lookup k = some v
  | [], _, _, _, h, _ => by simp at h
  | a :: ks, [], i, v, _, h => by simp at h
  | a :: ks, b :: vs, i, v, h, hv => by
    rw [List.idxOf?_cons] at h
    rw [List.zip_cons_cons]
    by_cases e : a = k
    · subst e
      rw [if_pos (by simp)] at h
      cases h
      have hv : some b = some v := hv
      cases hv
      simp [List.lookup]
    · rw [if_neg (by simpa using e)] at h
      cases q : ks.idxOf? k with
      | none => rw [q] at h; cases h
      | some j =>
        rw [q] at h
        cases h
        have hv : vs[j]? = some v := hv
        have e' : (k == a) = false := by simpa using fun z => e z.symm
        rw [List.lookup_cons, e']
        exact idx_find q hv
theorem idx_none {k : Str} : ∀ {ks : List Str} {vs : List V}, ks.idxOf? k = none → (ks.zip vs).lookup k = none
  | [], _, _ => rfl
  | a :: ks, [], _ => rfl
  | a :: ks, b :: vs, h => by
    rw [List.idxOf?_cons] at h
    rw [List.zip_cons_cons]
    by_cases e : a = k
    · rw [if_pos (by simpa using e)] at h
      cases h
    · rw [if_neg (by simpa using e)] at h
      have e' : (k == a) = false := by simpa using fun z => e z.symm
      rw [List.lookup_cons, e']
      refine idx_none ?_
      cases q : ks.idxOf? k with
      | none => rfl
      | some j => rw [q] at h; cases h
theorem idx_put {k : Str} {v : V} : ∀ {ks : List Str} {vs : List V} {i : Nat}, ks.idxOf? k = some i → ks.length = vs.length → putF k v (ks.zip vs) = ks.zip (vs.set i v)
  | [], _, _, h, _ => by simp at h
  | a :: ks, [], i, _, h => by simp at h
  | a :: ks, b :: vs, i, h, hl => by
    rw [List.idxOf?_cons] at h
    rw [List.zip_cons_cons]
    by_cases e : a = k
    · rw [if_pos (by simpa using e)] at h
      cases h
      show (if a = k then (a, v) :: ks.zip vs else _) = _
      rw [if_pos e]
      rfl
    · rw [if_neg (by simpa using e)] at h
      cases q : ks.idxOf? k with
      | none => rw [q] at h; cases h
      | some j =>
        rw [q] at h
        cases h
        show (if a = k then _ else (a, b) :: putF k v (ks.zip vs)) = _
        rw [if_neg e, idx_put q (by simpa using hl)]
        rfl
theorem put_new {k : Str} {v : V} : ∀ {ks : List Str} {vs : List V}, ks.idxOf? k = none → ks.length = vs.length → putF k v (ks.zip vs) = (ks ++ [k]).zip (vs ++ [v])
  | [], [], _, _ => rfl
  | [], _ :: _, _, h => by simp at h
  | a :: ks, [], _, h => by simp at h
  | a :: ks, b :: vs, h, hl => by
    rw [List.idxOf?_cons] at h
    rw [List.zip_cons_cons]
    by_cases e : a = k
    · rw [if_pos (by simpa using e)] at h
      cases h
    · rw [if_neg (by simpa using e)] at h
      show (if a = k then _ else (a, b) :: putF k v (ks.zip vs)) = _
      rw [if_neg e, put_new (by cases q : ks.idxOf? k with | none => rfl | some j => rw [q] at h; cases h) (by simpa using hl)]
      rfl
abbrev stK : List Str := ["room", "entries", "words", "_places", "_least"]
abbrev spK : List Str := ["store", "pressure", "always", "allocations", "collections", "_roots", "_held", "_saved"]
theorem st_room : stK.idxOf? ("room" : Str) = some 0 := by decide +kernel
theorem st_entries : stK.idxOf? ("entries" : Str) = some 1 := by decide +kernel
theorem st_words : stK.idxOf? ("words" : Str) = some 2 := by decide +kernel
theorem st_places : stK.idxOf? ("_places" : Str) = some 3 := by decide +kernel
theorem st_least : stK.idxOf? ("_least" : Str) = some 4 := by decide +kernel
theorem sp_store : spK.idxOf? ("store" : Str) = some 0 := by decide +kernel
theorem sp_pressure : spK.idxOf? ("pressure" : Str) = some 1 := by decide +kernel
theorem sp_always : spK.idxOf? ("always" : Str) = some 2 := by decide +kernel
theorem sp_allocations : spK.idxOf? ("allocations" : Str) = some 3 := by decide +kernel
theorem sp_collections : spK.idxOf? ("collections" : Str) = some 4 := by decide +kernel
theorem sp_roots : spK.idxOf? ("_roots" : Str) = some 5 := by decide +kernel
theorem sp_held : spK.idxOf? ("_held" : Str) = some 6 := by decide +kernel
theorem sp_saved : spK.idxOf? ("_saved" : Str) = some 7 := by decide +kernel
def stF (room entries : Int) (wd pl : Addr) (least : Int) : List (Str × V) := stK.zip [.int room, .int entries, .ref wd, .ref pl, .int least]
def spF (s pr : Addr) (al : Bool) (n m : Int) (rt hd : Addr) (sv : V) : List (Str × V) := spK.zip [.ref s, .ref pr, .bl al, .int n, .int m, .ref rt, .ref hd, sv]
section
variable {room entries least n m : Int} {wd pl s pr rt hd : Addr} {al : Bool} {sv v : V} {k : Str}
theorem stF_room : (stF room entries wd pl least).lookup ("room" : Str) = some (.int room) := idx_find st_room rfl
theorem stF_entries : (stF room entries wd pl least).lookup ("entries" : Str) = some (.int entries) := idx_find st_entries rfl
theorem stF_words : (stF room entries wd pl least).lookup ("words" : Str) = some (.ref wd) := idx_find st_words rfl
theorem stF_places : (stF room entries wd pl least).lookup ("_places" : Str) = some (.ref pl) := idx_find st_places rfl
theorem stF_least : (stF room entries wd pl least).lookup ("_least" : Str) = some (.int least) := idx_find st_least rfl
theorem stF_none (h : stK.idxOf? k = none) : (stF room entries wd pl least).lookup k = none := idx_none h
theorem stF_pwords {x : Addr} : putF "words" (.ref x) (stF room entries wd pl least) = stF room entries x pl least := idx_put st_words rfl
theorem stF_pplaces {x : Addr} : putF "_places" (.ref x) (stF room entries wd pl least) = stF room entries wd x least := idx_put st_places rfl
theorem stF_pleast {x : Int} : putF "_least" (.int x) (stF room entries wd pl least) = stF room entries wd pl x := idx_put st_least rfl
theorem stF_small : (stF room entries wd pl least).length < 1000 := by
  show (5 : Nat) < 1000
  decide
theorem spF_store : (spF s pr al n m rt hd sv).lookup ("store" : Str) = some (.ref s) := idx_find sp_store rfl
theorem spF_pressure : (spF s pr al n m rt hd sv).lookup ("pressure" : Str) = some (.ref pr) := idx_find sp_pressure rfl
theorem spF_always : (spF s pr al n m rt hd sv).lookup ("always" : Str) = some (.bl al) := idx_find sp_always rfl
theorem spF_allocations : (spF s pr al n m rt hd sv).lookup ("allocations" : Str) = some (.int n) := idx_find sp_allocations rfl
theorem spF_collections : (spF s pr al n m rt hd sv).lookup ("collections" : Str) = some (.int m) := idx_find sp_collections rfl
theorem spF_roots : (spF s pr al n m rt hd sv).lookup ("_roots" : Str) = some (.ref rt) := idx_find sp_roots rfl
theorem spF_held : (spF s pr al n m rt hd sv).lookup ("_held" : Str) = some (.ref hd) := idx_find sp_held rfl
theorem spF_saved : (spF s pr al n m rt hd sv).lookup ("_saved" : Str) = some sv := idx_find sp_saved rfl
theorem spF_none (h : spK.idxOf? k = none) : (spF s pr al n m rt hd sv).lookup k = none := idx_none h
theorem spF_ppressure {x : Addr} : putF "pressure" (.ref x) (spF s pr al n m rt hd sv) = spF s x al n m rt hd sv := idx_put sp_pressure rfl
theorem spF_palways {x : Bool} : putF "always" (.bl x) (spF s pr al n m rt hd sv) = spF s pr x n m rt hd sv := idx_put sp_always rfl
theorem spF_pallocations {x : Int} : putF "allocations" (.int x) (spF s pr al n m rt hd sv) = spF s pr al x m rt hd sv := idx_put sp_allocations rfl
theorem spF_pcollections {x : Int} : putF "collections" (.int x) (spF s pr al n m rt hd sv) = spF s pr al n x rt hd sv := idx_put sp_collections rfl
theorem spF_proots {x : Addr} : putF "_roots" (.ref x) (spF s pr al n m rt hd sv) = spF s pr al n m x hd sv := idx_put sp_roots rfl
theorem spF_pheld {x : Addr} : putF "_held" (.ref x) (spF s pr al n m rt hd sv) = spF s pr al n m rt x sv := idx_put sp_held rfl
theorem spF_psaved {x : V} : putF "_saved" x (spF s pr al n m rt hd sv) = spF s pr al n m rt hd x := idx_put sp_saved rfl
theorem spF_small : (spF s pr al n m rt hd sv).length < 1000 := by
  show (8 : Nat) < 1000
  decide
end
/-! ### the dict of places -/
/-- of the objects of all, but those of gone, the places -/
structure PlOk (kvs : List (Key × V)) (all : List Ob) (gone : List Int) : Prop where
  keys : ∃ ks : List Int, kvs.map (·.1) = ks.map Sum.inl
  nd : (kvs.map (·.1)).Nodup
  val : ∀ n : Int, valV kvs (Sum.inl n) = if n ∈ gone then none else (off all n).map fun (k : Nat) => V.int k
structure StOk (room entries : Int) (all : List Ob) : Prop where
  nd : (nums all).Nodup
  rng : ∀ n ∈ nums all, 0 ≤ n ∧ n < entries
  fit : (tot all : Int) ≤ room
  room : 0 ≤ room ∧ room ≤ 1000
  ent : 0 ≤ entries ∧ entries ≤ 1000000
def LeastOk (least : Int) (all : List Ob) (gone : List Int) : Prop := 0 ≤ least ∧ ∀ m, 0 ≤ m → m < least → m ∈ nums all ∧ m ∉ gone
/-- a store at s -/
def StR (CT s : Addr) (room entries : Int) (all : List Ob) (gone : List Int) (cs : List Cell) : Prop := ∃ (dx wd pl : Addr) (kvs : List (Key × V)) (least : Int),
  cs = [(s, .ins CT dx (stF room entries wd pl least)), (wd, .lst ((flat all).map V.int)), (pl, .dK kvs)] ∧ PlOk kvs all gone ∧ StOk room entries all ∧ LeastOk least all gone
structure Sav where
  objs : List Ob
  roots : List Int
  held : List Int
structure SpD where
  room : Int
  entries : Int
  objs : List Ob
  press : List Int
  always : Bool
  allocs : Int
  colls : Int
  roots : List Int
  held : List Int
  saved : Option Sav
/-- what a begin has put by -/
def SavR (room entries : Int) : Option Sav → V → List Cell → Prop
  | none, sv, cs => sv = .non ∧ cs = []
  | some S, sv, cs => ∃ (t t2 w2 p2 r2 h2 : Addr) (kvs : List (Key × V)), sv = .ref t ∧
      cs = [(t, .tup [.ref t2, .ref r2, .ref h2]), (t2, .tup [.ref w2, .ref p2]), (w2, .lst ((flat S.objs).map V.int)), (p2, .dK kvs), (r2, .lst (S.roots.map V.int)), (h2, .lst (S.held.map V.int))] ∧
      PlOk kvs S.objs [] ∧ StOk room entries S.objs ∧ S.roots.length = 16 ∧ S.held.length ≤ 1000
/-- a space at a -/
def SpR (CT CS a : Addr) (D : SpD) (cs : List Cell) : Prop := ∃ (s dx pr rt hd : Addr) (sv : V) (c1 c2 : List Cell),
  cs = [(a, .ins CS dx (spF s pr D.always D.allocs D.colls rt hd sv)), (pr, .lst (D.press.map V.int)), (rt, .lst (D.roots.map V.int)), (hd, .lst (D.held.map V.int))] ++ (c1 ++ c2) ∧
  StR CT s D.room D.entries D.objs [] c1 ∧ SavR D.room D.entries D.saved sv c2 ∧ D.roots.length = 16 ∧ D.held.length ≤ 1000 ∧ D.press.length ≤ 100
end K9
end
section
set_option Elab.async false
set_option linter.all false
set_option maxRecDepth 100000
set_option maxHeartbeats 4000000
/-! min(a, b) of two whole numbers where an exception may be handled. -/
namespace K9
open PySem PySem.Spec PyProof.Rows L2 HotX
section
variable {prog : Program} {w : World} {A : Around} {E : Value → Shared → Prop} {s : Shared}
theorem next_tuple_endW {it t : Addr} {i : Nat} {items : Array Value} {Q : Option Value → Shared → Prop} (hh : EndsOk A s.heap) (hit : s.heap.IsTupleIter it t i) (ht : s.heap.IsTuple t items) (hx : items[i]? = none)
    (hQ : ∀ h', Heap.ExtBut it s.heap h' → Q none { s with heap := h' }) : wpAny (model prog w) A (pyNext (.ref it)) Q E s := by
  obtain ⟨o, ho, hc, hd⟩ := id hit
  obtain ⟨ol, hol, _, nl, hdl⟩ := ht
  unfold pyNext
  refine wpAny_bind (wpAny_attempt (wpAny_callSpecial?_slot (name := Str.ofString "__next__") hit.typeIs F.slot_tuple_iterator_next
    (wpAny_call_entry F.slot_tuple_iterator_next hit.typeIs F.entry_tuple_iterator_next ?_ (F.args_tuple_iterator_next_1 _))))
  show wpAny _ _ (field (.ref it) 0 >>= _) _ _ s
  refine wpAny_bind (wpAny_field ho hd (x := .ref t) rfl ?_)
  show wpAny _ _ (if (Value.ref t == Value.none) = true then _ else _) _ _ s
  rw [if_neg (show ¬ ((Value.ref t == Value.none) = true) from Bool.false_ne_true)]
  show wpAny _ _ (field (.ref it) 1 >>= _) _ _ s
  refine wpAny_bind (wpAny_field ho hd (x := .int i 0) rfl ?_)
  show wpAny _ _ (seqItems? (.ref t) >>= _) _ _ s
  refine wpAny_bind (wpAny_seqItems hol hdl ?_)
  simp only [Int.toNat_natCast, hx]
  refine wpAny_bind (wpAny_rule (wpAny_bind (wpAny_setField ho hd (by simp) ?_)))
  refine stopW (EndsOk.step (A := A.in1) hh ho hd (by simp) fun b u hb e => (Heap.get?_update_ne _ _ _ _ hb).trans e) fun h' a k h => ?_
  refine wpAny_bind (wpAny_isInstance (T := "StopIteration") (b := true) h isSubtype_stop ?_)
  exact wpAny_pure (hQ _ fun b u hb e => k b u ((Heap.get?_update_ne _ _ _ _ hb).trans e))
theorem walks_tupleH {x1 : Addr} (I ax : Addr) (hne : ax ≠ I) (items : Array Value) :
    Walks prog w A I [I, ax, x1] [I] items.size (fun i v => items[i]? = some v) (fun i h => h.IsTupleIter I ax i ∧ h.IsTuple ax items ∧ HotAt A x1 h) where
  sub := fun b hb => by simp at hb; simp [hb]
  frame := fun _ _ _ st hk => ⟨st.1.at fun o e => hk I (by simp) o e, st.2.1.at fun o e => hk ax (by simp) o e, st.2.2.1, by
    obtain ⟨o1, v1, h1, r⟩ := st.2.2.2
    exact ⟨o1, v1, hk x1 (by simp) _ h1, r⟩⟩
  item := fun i s Q E hi st hQ => by
    obtain ⟨hit, hm, hh, o1, v1, h1, d1, c1⟩ := st
    refine wpAny_pyNext_tuple_item hit hm (x := items[i]) (by simp [hi]) fun h' hit' hs' => ?_
    have nx : x1 ≠ I := fun z => by
      obtain ⟨o, ho, _, hd⟩ := hit
      rw [z, ho] at h1; cases h1
      rw [hd] at d1; cases d1
      simp at c1
    exact hQ _ h' s.toks (by simp [hi]) ⟨hit', hm.extBut hs'.extBut hne, hh, o1, v1, hs'.extBut x1 o1 nx h1, d1, c1⟩ fun b o hb e => hs'.extBut b o (fun h => hb (by simp [h])) e
  done := fun s Q E st hQ => next_tuple_endW (.inr ⟨x1, st.2.2⟩) st.1 st.2.1 (by simp) fun h' he' => hQ h' s.toks fun b o hb e => he' b o (fun h => hb (by simp [h])) e
  self := fun _ _ _ _ st hQ => wpAny_pyIter_tupleiter st.1 hQ
theorem min_two_intsW {a b : Int} {t u : Tok} {Q : Value → Shared → Prop} (hh : EndsOk A s.heap)
    (h : ∀ h' tk, (∀ c o, s.heap.get? c = some o → h'.get? c = some o) → Q (if b < a then .int b u else .int a t) { s with heap := h', toks := tk }) :
    wpAny (model prog w) A (call (.builtin "min") [.int a t, .int b u]) Q E s := by
  rcases hh with hh | ⟨x1, hot⟩
  · exact min_two_ints hh h
  have hT : (s.heap.push { cls := .type "tuple", data := .seq #[.int a t, .int b u] }).IsTuple s.heap.objs.size (intItems #[(a, t), (b, u)]) := ⟨_, Heap.get?_push_size _ rfl, rfl, 0, by simp [intItems]⟩
  refine call_min_two (wpAny_pyIter_tuple hT ?_)
  have hsz : (s.heap.push { cls := .type "tuple", data := .seq #[.int a t, .int b u] }).objs.size = s.heap.objs.size + 1 := Heap.size_push ..
  have hx1 : x1 < s.heap.objs.size := by
    obtain ⟨_, o1, v1, e1, _⟩ := hot
    exact Heap.lt_size e1
  refine ⟨_, [_, s.heap.objs.size, x1], [_], _, _, _, _, rfl, walks_tupleH (A := A.in1) (x1 := x1) _ s.heap.objs.size (by rw [hsz]; exact Nat.ne_of_lt (Nat.lt_succ_self _)) (intItems #[(a, t), (b, u)]),
    ⟨⟨_, Heap.get?_push_size _ rfl, rfl, rfl⟩, hT.push _, ?_⟩, fun c hc => ?_, by simp [intItems], CmpOf.ints_lt (numAt #[(a, t), (b, u)]) (fun _ _ => intItems_at), fun v h' tk hP hk => ?_⟩
  · obtain ⟨h0, o1, v1, e1, r⟩ := hot
    exact ⟨h0, o1, v1, Heap.get?_push_of_some _ (Heap.get?_push_of_some _ e1), r⟩
  · show c < ((s.heap.push _).push _).objs.size
    rw [Heap.size_push, hsz]
    rcases List.mem_cons.mp hc with rfl | hc
    · rw [hsz]; exact Nat.lt_succ_self _
    · rcases List.mem_cons.mp hc with rfl | hc
      · exact Nat.lt_succ_of_lt (Nat.lt_succ_self _)
      · rw [List.mem_singleton.mp hc]
        exact Nat.lt_succ_of_lt (Nat.lt_succ_of_lt hx1)
  · have hold : ∀ c o, s.heap.get? c = some o → h'.get? c = some o := fun c o e => by
      refine hk c o (fun hm => ?_) (Heap.get?_push_of_some _ (Heap.get?_push_of_some _ e))
      rcases List.mem_cons.mp hm with e1 | hm
      · have := Heap.lt_size e; rw [e1, hsz] at this; exact Nat.lt_irrefl _ (Nat.lt_of_succ_lt this)
      · cases hm
    have := h h' tk hold
    have hv : v = if b < a then Value.int b u else Value.int a t := by
      have hP' : (intItems #[(a, t), (b, u)])[argBest (fun i j => decide (numAt #[(a, t), (b, u)] i < numAt #[(a, t), (b, u)] j)) 1]? = some v := by
        have hsz2 : (intItems #[(a, t), (b, u)]).size - 1 = 1 := by simp [intItems]
        rw [← hsz2]; exact hP
      by_cases hba : b < a
      · have e : argBest (fun i j => decide (numAt #[(a, t), (b, u)] i < numAt #[(a, t), (b, u)] j)) 1 = 1 := by simp [argBest, numAt, hba]
        rw [e] at hP'
        simpa [intItems, hba] using hP'.symm
      · have e : argBest (fun i j => decide (numAt #[(a, t), (b, u)] i < numAt #[(a, t), (b, u)] j)) 1 = 0 := by simp [argBest, numAt, hba]
        rw [e] at hP'
        simpa [intItems, hba] using hP'.symm
    rw [hv]; exact this
end
theorem call_min2W {X : Cx} (hc : Warm X) : CallR X (.builtin "min") (fun xs H Q => ∃ i j, xs = [.int i, .int j] ∧ Q (.int (if j < i then j else i)) H) := by
  intro pins s σ H xs us Q I r h
  obtain ⟨i, j, rfl, q⟩ := h
  obtain ⟨u, w', rfl, ⟨t, rfl⟩, ⟨t', rfl⟩⟩ := vals2 r
  refine min_two_intsW (hc.at I) fun h' tk k => ⟨_, H, I.kept k, ?_, q⟩
  by_cases hj : j < i
  · rw [if_pos hj, if_pos hj]; exact ⟨_, rfl⟩
  · rw [if_neg hj, if_neg hj]; exact ⟨_, rfl⟩
end K9
end
section
set_option Elab.async false
set_option linter.all false
set_option maxRecDepth 100000
set_option maxHeartbeats 4000000
/-! A store's methods, the first part. -/
namespace K9
open PySem PySem.Spec PyProof.Rows L2 LamX
theorem itT {c : Bool} {A B : Prop} (hc : c = true) (h : A) : if c = true then A else B := by
  rw [if_pos hc]
  exact h
theorem itF {c : Bool} {A B : Prop} (hc : c = false) (h : B) : if c = true then A else B := by
  rw [hc, if_neg Bool.false_ne_true]
  exact h
theorem huH {k : Nat} {A : Around} (hr : L2H.RoomH k A) : A.units + 1 < cLine := by have := hr.un; omega
abbrev Has (cs : List Cell) (H : Hp) : Prop := ∀ c ∈ cs, H c.1 = some c.2
theorem Own.has {T : List (Addr × Str)} {F : List Addr} {H0 H : Hp} {cs : List Cell} (W : Own T F H0 cs H) : Has cs H := W.is
theorem Has.left {cs ds : List Cell} {H : Hp} (h : Has (cs ++ ds) H) : Has cs H := fun c hc => h c (List.mem_append_left _ hc)
theorem Has.right {cs ds : List Cell} {H : Hp} (h : Has (cs ++ ds) H) : Has ds H := fun c hc => h c (List.mem_append_right _ hc)
/-! ### the dict of places: lemmas -/
section
variable {kvs : List (Key × V)} {all : List Ob} {gone : List Int} {n : Int}
theorem PlOk.sm (h : PlOk kvs all gone) {n : Int} {k : Nat} (hk : off all n = .some k) (hn : n ∉ gone) : valV kvs (Sum.inl n) = .some (.int (k : Int)) := by
  rw [h.val, if_neg hn, hk]; rfl
theorem off_isSome {l : List Ob} {n : Int} : (off l n).isSome = decide (n ∈ nums l) := by
  by_cases h : n ∈ nums l
  · obtain ⟨o, ho⟩ := ob_of_nums h
    obtain ⟨k, hk⟩ := off_of_ob ho
    rw [hk, decide_eq_true h]; rfl
  · rw [off_none h, decide_eq_false h]; rfl
theorem PlOk.isSome (h : PlOk kvs all gone) (n : Int) : (valV kvs (Sum.inl n)).isSome = (decide (n ∈ nums all) && !decide (n ∈ gone)) := by
  rw [h.val]
  by_cases hn : n ∈ gone
  · rw [if_pos hn, decide_eq_true hn]; simp
  · rw [if_neg hn, decide_eq_false hn, Option.isSome_map, off_isSome]; simp
theorem valV_mem {κ : Type} [DecidableEq κ] {kvs : List (κ × V)} {k : κ} (h : k ∈ kvs.map (·.1)) : (valV kvs k).isSome = true := by
  obtain ⟨p, hp, e⟩ := List.mem_map.mp h
  rw [← valV_any]
  exact List.any_eq_true.mpr ⟨p, hp, decide_eq_true e⟩
theorem inl_nodup : ∀ {ks : List Int}, ((ks.map Sum.inl : List Key)).Nodup → ks.Nodup := fun {ks} h => by
  refine List.pairwise_map.mp h |>.imp fun h e => h (by rw [e])
theorem PlOk.ks (h : PlOk kvs all gone) : ∃ ks : List Int, kvs.map (·.1) = ks.map Sum.inl ∧ ks.Nodup ∧ ∀ n, n ∈ ks ↔ n ∈ nums all ∧ n ∉ gone := by
  obtain ⟨ks, hk⟩ := h.keys
  refine ⟨ks, hk, inl_nodup (hk ▸ h.nd), fun n => ⟨fun hn => ?_, fun hn => ?_⟩⟩
  · have q : (valV kvs (Sum.inl n)).isSome = true := valV_mem (by rw [hk]; exact List.mem_map.mpr ⟨n, hn, rfl⟩)
    rw [h.isSome] at q
    simpa using q
  · have q : (valV kvs (Sum.inl n)).isSome = true := by rw [h.isSome]; simpa using hn
    obtain ⟨v, hv⟩ := Option.isSome_iff_exists.mp q
    have := valV_in hv
    rw [hk] at this
    obtain ⟨m, hm, e⟩ := List.mem_map.mp this
    cases e
    exact hm
theorem nodup_sub {α : Type} [DecidableEq α] {a b : List α} (ha : a.Nodup) (hb : b.Nodup) (h : ∀ x ∈ a, x ∈ b) : a.length ≤ b.length := by
  have p : a.Perm (b.filter fun x => decide (x ∈ a)) := perm_of_same ha (hb.sublist List.filter_sublist) fun x => by simpa using fun hx => h x hx
  rw [p.length_eq]
  exact List.length_filter_le _ _
theorem length_tot : ∀ l : List Ob, l.length ≤ tot l
  | [] => Nat.zero_le _
  | o :: l => by
    have := length_tot l
    show l.length + 1 ≤ o.len + tot l
    unfold Ob.len
    omega
theorem PlOk.len (h : PlOk kvs all gone) (hn : (nums all).Nodup) : kvs.length ≤ all.length := by
  obtain ⟨ks, hk, nd, hm⟩ := h.ks
  have e := congrArg List.length hk
  rw [List.length_map, List.length_map] at e
  rw [e, ← nums_length all]
  exact nodup_sub nd hn fun x hx => ((hm x).mp hx).1
theorem StOk.totle {room entries : Int} (h : StOk room entries all) : tot all ≤ 1000 := by have := h.fit; have := h.room.2; omega
theorem StOk.lenle {room entries : Int} (h : StOk room entries all) : all.length ≤ 1000 := Nat.le_trans (length_tot all) h.totle
theorem line1000 {n : Nat} (h : n ≤ 5000) : n < sizeLine := Nat.lt_of_le_of_lt h (by rw [sizeLine_eq]; decide)
theorem flat_len (l : List Ob) : ((flat l).map V.int).length = tot l := by rw [List.length_map, flat_length]
theorem flat_atI {n : Int} {o : Ob} {k : Nat} (h : ob? all n = .some o) (hk : off all n = .some k) (i : Nat) (hi : i < o.len) {z : Int} (hz : o.words[i]? = .some z) : ((flat all).map V.int)[k + i]? = .some (.int z) := by
  rw [List.getElem?_map, flat_at h hk i hi, hz]
  rfl
end
section
variable {P : Program} {w : World} {K : PySem.W.Frag} {mg : Str → Option Value} {base : Heap} {A : Ads}
theorem StR.open {CT s : Addr} {room entries : Int} {all : List Ob} {gone : List Int} {cs : List Cell} {H : Hp} (h : StR CT s room entries all gone cs) (hh : Has cs H) : ∃ (dx wd pl : Addr) (kvs : List (Key × V)) (least : Int),
    cs = [(s, .ins CT dx (stF room entries wd pl least)), (wd, .lst ((flat all).map V.int)), (pl, .dK kvs)] ∧ PlOk kvs all gone ∧ StOk room entries all ∧ LeastOk least all gone ∧
    H s = some (.ins CT dx (stF room entries wd pl least)) ∧ H wd = some (.lst ((flat all).map V.int)) ∧ H pl = some (.dK kvs) := by
  obtain ⟨dx, wd, pl, kvs, least, rfl, h1, h2, h3⟩ := h
  exact ⟨dx, wd, pl, kvs, least, rfl, h1, h2, h3, hh (s, .ins CT dx (stF room entries wd pl least)) (by simp), hh (wd, .lst _) (by simp), hh (pl, .dK kvs) (by simp)⟩
/-! ### what is read -/
def spSize (A : Ads) : Sp := fun vs H Q _ => ∃ (s : Addr) (n room entries : Int) (all : List Ob) (cs : List Cell) (o : Ob), vs = [.ref s, .int n] ∧ StR A.CT s room entries all [] cs ∧ Has cs H ∧ ob? all n = some o ∧ Q (.int (o.slots.length : Int)) H
def spKind (A : Ads) : Sp := fun vs H Q _ => ∃ (s : Addr) (n room entries : Int) (all : List Ob) (cs : List Cell) (o : Ob), vs = [.ref s, .int n] ∧ StR A.CT s room entries all [] cs ∧ Has cs H ∧ ob? all n = some o ∧ Q (.int o.kind) H
def spGet (A : Ads) : Sp := fun vs H Q _ => ∃ (s : Addr) (n room entries : Int) (at' : Nat) (z : Int) (all : List Ob) (cs : List Cell) (o : Ob), vs = [.ref s, .int n, .int (at' : Int)] ∧ StR A.CT s room entries all [] cs ∧ Has cs H ∧ ob? all n = some o ∧ o.slots[at']? = some z ∧ Q (.int z) H
def spExists (A : Ads) : Sp := fun vs H Q _ => ∃ (s : Addr) (n room entries : Int) (all : List Ob) (cs : List Cell), vs = [.ref s, .int n] ∧ StR A.CT s room entries all [] cs ∧ Has cs H ∧ Q (.bl (decide (n ∈ nums all))) H
theorem ok_s_size (T : Txt P K mg A) : OkW P w K mg base 1 A.s_size (spSize A) := by
  refine okW T.f_s_size sc_s_size bh_s_size (fun vs H Q E h => ?_) (fun cdv Ar outer s H vs Q E c pn hr hw h => ?_)
  · obtain ⟨_, _, _, _, _, _, _, rfl, _⟩ := h
    rfl
  · obtain ⟨s, n, room, entries, all, cs, o, rfl, hS, hh, ho, k⟩ := h
    obtain ⟨dx, wd, pl, kvs, least, rfl, hP, hO, hL, h1, h2, h3⟩ := hS.open hh
    obtain ⟨q, hq⟩ := off_of_ob ho
    refine ⟨_, pss_one (ps_ret (pe_ix ix_list (pe_fld (pv 0) rfl) (pe_op op_add (pe_dget (huH hr) (pe_fld (pv 0) rfl) (pv 1) (fun _ _ => rfl)) pe_int) (fun _ _ => rfl))), ?_⟩
    refine ⟨_, rfl, s, _, dx, _, _, rfl, h1, T.clT, T.nT_words, stF_words, _, rfl, s, _, dx, _, _, rfl, h1, T.clT, T.nT_places, stF_places, _, rfl, pl, _, rfl, hP.sm hq (by simp) ▸ DGet.k (k := Sum.inl n) h3, ?_⟩
    exact ⟨_, _, rfl, rfl, wd, _, _, _, rfl, rfl, SqL.of h2, atI_nat (flat_atI ho hq 1 (by unfold Ob.len; omega) rfl), k⟩
theorem ok_s_kind (T : Txt P K mg A) : OkW P w K mg base 1 A.s_kind (spKind A) := by
  refine okW T.f_s_kind sc_s_kind bh_s_kind (fun vs H Q E h => ?_) (fun cdv Ar outer s H vs Q E c pn hr hw h => ?_)
  · obtain ⟨_, _, _, _, _, _, _, rfl, _⟩ := h
    rfl
  · obtain ⟨s, n, room, entries, all, cs, o, rfl, hS, hh, ho, k⟩ := h
    obtain ⟨dx, wd, pl, kvs, least, rfl, hP, hO, hL, h1, h2, h3⟩ := hS.open hh
    obtain ⟨q, hq⟩ := off_of_ob ho
    refine ⟨_, pss_one (ps_ret (pe_ix ix_list (pe_fld (pv 0) rfl) (pe_op op_add (pe_dget (huH hr) (pe_fld (pv 0) rfl) (pv 1) (fun _ _ => rfl)) pe_int) (fun _ _ => rfl))), ?_⟩
    refine ⟨_, rfl, s, _, dx, _, _, rfl, h1, T.clT, T.nT_words, stF_words, _, rfl, s, _, dx, _, _, rfl, h1, T.clT, T.nT_places, stF_places, _, rfl, pl, _, rfl, hP.sm hq (by simp) ▸ DGet.k (k := Sum.inl n) h3, ?_⟩
    exact ⟨_, _, rfl, rfl, wd, _, _, _, rfl, rfl, SqL.of h2, atI_nat (flat_atI ho hq 2 (by unfold Ob.len; omega) rfl), k⟩
theorem words_at {o : Ob} {i : Nat} {z : Int} (h : o.slots[i]? = some z) : o.words[3 + i]? = some z := by
  have e : 3 + i = i + 1 + 1 + 1 := by omega
  rw [e]
  exact h
theorem ok_s_get (T : Txt P K mg A) : Okd P w K mg base 1 A.s_get (spGet A) := by
  refine okN T.f_s_get sc_s_get bh_s_get (fun vs H Q E h => ?_) (fun cdv Ar outer s H vs Q E hr h => ?_)
  · obtain ⟨_, _, _, _, _, _, _, _, _, rfl, _⟩ := h
    rfl
  · obtain ⟨s, n, room, entries, i, z, all, cs, o, rfl, hS, hh, ho, hz, k⟩ := h
    obtain ⟨dx, wd, pl, kvs, least, rfl, hP, hO, hL, h1, h2, h3⟩ := hS.open hh
    obtain ⟨q, hq⟩ := off_of_ob ho
    obtain ⟨tt, gH⟩ := T.g_HEADER
    refine ⟨_, pss_one (ps_ret (pe_ix ix_list (pe_fld (pv 0) rfl) (pe_op op_add (pe_op op_add (pe_dget (hu_of hr) (pe_fld (pv 0) rfl) (pv 1) (fun _ _ => rfl)) (pe_glob (v := .int 3) rfl gH ⟨_, rfl⟩)) (pv 2)) (fun _ _ => rfl))), ?_⟩
    refine ⟨_, rfl, s, _, dx, _, _, rfl, h1, T.clT, T.nT_words, stF_words, _, rfl, s, _, dx, _, _, rfl, h1, T.clT, T.nT_places, stF_places, _, rfl, pl, _, rfl, hP.sm hq (by simp) ▸ DGet.k (k := Sum.inl n) h3, ?_⟩
    have hi : i < o.slots.length := (List.getElem?_eq_some_iff.mp hz).1
    refine ⟨_, _, rfl, rfl, _, rfl, _, _, rfl, rfl, wd, _, _, _, rfl, rfl, SqL.of h2, ?_, k⟩
    have e := atI_nat (flat_atI ho hq (3 + i) (by unfold Ob.len; omega) (words_at hz))
    rw [show ((q : Int) + 3 + (i : Int)) = ((q + (3 + i) : Nat) : Int) by omega]
    exact e
theorem ok_s_exists (T : Txt P K mg A) : OkW P w K mg base 1 A.s_exists (spExists A) := by
  refine okW T.f_s_exists sc_s_exists bh_s_exists (fun vs H Q E h => ?_) (fun cdv Ar outer s H vs Q E c pn hr hw h => ?_)
  · obtain ⟨_, _, _, _, _, _, rfl, _⟩ := h
    rfl
  · obtain ⟨s, n, room, entries, all, cs, rfl, hS, hh, k⟩ := h
    obtain ⟨dx, wd, pl, kvs, least, rfl, hP, hO, hL, h1, h2, h3⟩ := hS.open hh
    refine ⟨_, pss_one (ps_ret (pe_cmp (pc_din (huH hr) (pv 1) (pe_fld (pv 0) rfl)) rfl)), ?_⟩
    refine ⟨_, rfl, _, rfl, s, _, dx, _, _, rfl, h1, T.clT, T.nT_places, stF_places, pl, _, rfl, DGet.k (k := Sum.inl n) h3, ?_⟩
    rw [hP.isSome]
    simpa using k
/-! ### what makes a list -/
def spNumbers (A : Ads) : Sp := fun vs H Q _ => ∃ (s : Addr) (room entries : Int) (all : List Ob) (cs : List Cell), vs = [.ref s] ∧ StR A.CT s room entries all [] cs ∧ Has cs H ∧ Tabs A.T H ∧
  ∀ (H' : Hp) (p : Addr) (ys : List Int), ys.Perm (nums all) → ys.Pairwise (· ≤ ·) → Own A.T [] H [(p, .lst (ys.map V.int))] H' → Q (.ref p) H'
theorem Own.nil {T : List (Addr × Str)} {H : Hp} (t : Tabs T H) : Own T [] H [] H := ⟨fun c hc => absurd hc List.not_mem_nil, List.nodup_nil, fun c hc => absurd hc List.not_mem_nil, t, fun _ _ e _ _ => e, fun c hc => absurd hc List.not_mem_nil⟩
theorem ok_s_numbers (T : Txt P K mg A) : OkW P w K mg base 1 A.s_numbers (spNumbers A) := by
  refine okW T.f_s_numbers sc_s_numbers bh_s_numbers (fun vs H Q E h => ?_) (fun cdv Ar outer s H vs Q E c pn hr hw h => ?_)
  · obtain ⟨_, _, _, _, _, rfl, _⟩ := h
    rfl
  · obtain ⟨s, room, entries, all, cs, rfl, hS, hh, ht, k⟩ := h
    obtain ⟨dx, wd, pl, kvs, least, rfl, hP, hO, hL, h1, h2, h3⟩ := hS.open hh
    obtain ⟨ks, hk, nd, hm⟩ := hP.ks
    refine ⟨_, pss_one (ps_ret (pe_callB (call_sortKeys hw) (by rfl) T.b_sorted (by decide +kernel) (pa_cons (pe_fld (pv 0) rfl) pa_nil))), ?_⟩
    refine ⟨_, rfl, s, _, dx, _, _, rfl, h1, T.clT, T.nT_places, stF_places, pl, _, ks, rfl, .inl h3, hk, fun ys p hp hs hn => ?_⟩
    refine k _ p ys (hp.trans (perm_of_same nd hO.nd fun x => ?_)) hs ((Own.nil ht).new hn)
    rw [hm]; simp
def spSlots (A : Ads) : Sp := fun vs H Q _ => ∃ (s : Addr) (n room entries : Int) (all : List Ob) (cs : List Cell) (o : Ob), vs = [.ref s, .int n] ∧ StR A.CT s room entries all [] cs ∧ Has cs H ∧ Tabs A.T H ∧ ob? all n = some o ∧
  ∀ (H' : Hp) (p : Addr), Own A.T [] H [(p, .lst (o.slots.map V.int))] H' → Q (.ref p) H'
theorem slots_cut {all : List Ob} {n : Int} {o : Ob} {k : Nat} (h : ob? all n = some o) (hk : off all n = some k) : cutV ((flat all).map V.int) (some ((k : Int) + 3)) (some ((k : Int) + 3 + (o.slots.length : Int))) = o.slots.map V.int := by
  obtain ⟨a, b, rfl, e, _⟩ := ob_split h
  rw [hk] at e
  cases e
  have hl : ((flat (a ++ o :: b)).map V.int).length = tot a + (o.len + tot b) := by rw [flat_len, tot_append]; rfl
  unfold cutV
  rw [hl]
  have s1 : HT.sIx (tot a + (o.len + tot b)) 0 (some ((tot a : Int) + 3)) = tot a + 3 := by
    rw [show ((tot a : Int) + 3) = ((tot a + 3 : Nat) : Int) by omega, HT.sIx_nat]
    unfold Ob.len
    omega
  have s2 : HT.sIx (tot a + (o.len + tot b)) (tot a + (o.len + tot b)) (some ((tot a : Int) + 3 + (o.slots.length : Int))) = tot a + 3 + o.slots.length := by
    rw [show ((tot a : Int) + 3 + (o.slots.length : Int)) = ((tot a + 3 + o.slots.length : Nat) : Int) by omega, HT.sIx_nat]
    unfold Ob.len
    omega
  rw [s1, s2, flat_append]
  have e3 : flat (o :: b) = [o.num, (o.slots.length : Int), o.kind] ++ (o.slots ++ flat b) := rfl
  rw [e3, List.map_append, List.map_append, ← List.append_assoc]
  have l1 : ((flat a).map V.int ++ [o.num, (o.slots.length : Int), o.kind].map V.int).length = tot a + 3 := by rw [List.length_append, flat_len]; rfl
  rw [← l1, List.drop_left, List.map_append]
  have l2 : (((flat a).map V.int ++ [o.num, (o.slots.length : Int), o.kind].map V.int).length + o.slots.length - ((flat a).map V.int ++ [o.num, (o.slots.length : Int), o.kind].map V.int).length) = (o.slots.map V.int).length := by rw [List.length_map]; omega
  rw [l2, List.take_left]
theorem ok_s_slots (T : Txt P K mg A) : OkW P w K mg base 2 A.s_slots (spSlots A) := by
  refine okW T.f_s_slots sc_s_slots bh_s_slots (fun vs H Q E h => ?_) (fun cdv Ar outer s H vs Q E c pn hr hw h => ?_)
  · obtain ⟨_, _, _, _, _, _, _, rfl, _⟩ := h
    rfl
  · obtain ⟨s, n, room, entries, all, cs, o, rfl, hS, hh, ht, ho, k⟩ := h
    have hS' := hS
    obtain ⟨dx, wd, pl, kvs, least, rfl, hP, hO, hL, h1, h2, h3⟩ := hS.open hh
    obtain ⟨q, hq⟩ := off_of_ob ho
    obtain ⟨tt, gH⟩ := T.g_HEADER
    refine ⟨_, pss_cons (ps_set (i := 2) sc_s_slots.nd rfl (Or.inl rfl) (pe_op op_add (pe_dget (huH hr) (pe_fld (pv 0) rfl) (pv 1) (fun _ _ => rfl)) (pe_glob (v := .int 3) rfl gH ⟨_, rfl⟩)))
      (pss_one (ps_ret (pe_slice sl_list (pe_fld (pv 0) rfl) (po_some (pv 2)) (po_some (pe_op op_add (pv 2) (pe_mrun (pv 0) T.clT T.m_s_size ((ok_s_size T).runs hr hw) (pa_cons (pv 1) pa_nil))))))), ?_⟩
    refine ⟨_, rfl, s, _, dx, _, _, rfl, h1, T.clT, T.nT_places, stF_places, _, rfl, pl, _, rfl, hP.sm hq (by simp) ▸ DGet.k (k := Sum.inl n) h3, _, _, rfl, rfl, ?_⟩
    refine ⟨_, rfl, s, _, dx, _, _, rfl, h1, T.clT, T.nT_words, stF_words, _, rfl, _, rfl, _, rfl, _, rfl, s, dx, _, rfl, h1, stF_none (by decide +kernel), _, rfl, ?_⟩
    refine ⟨s, n, room, entries, all, _, o, rfl, hS', hh, ho, ?_⟩
    refine ⟨_, _, rfl, rfl, _, rfl, wd, _, rfl, SqL.of h2, fun p hp => ?_⟩
    rw [slots_cut ho hq]
    exact k _ p ((Own.nil ht).new hp)
end
end K9
end
section
set_option Elab.async false
set_option linter.all false
set_option maxRecDepth 100000
set_option maxHeartbeats 4000000
/-! A store's methods, the second part: what changes it. -/
namespace K9
open PySem PySem.Spec PyProof.Rows L2 LamX
theorem ixN_nat {n k : Nat} (h : k < n) : ixN n (k : Int) = some k := by
  unfold ixN
  rw [if_pos (by omega), if_pos (by omega)]
  simp
section
variable {kvs : List (Key × V)} {all all' : List Ob} {gone : List Int} {n : Int}
theorem PlOk.to (h : PlOk kvs all gone) (e : ∀ n, off all' n = off all n) : PlOk kvs all' gone := ⟨h.keys, h.nd, fun n => by rw [h.val, e]⟩
theorem StOk.to {room entries : Int} (h : StOk room entries all) (e : nums all' = nums all) (t : tot all' = tot all) : StOk room entries all' := ⟨e ▸ h.nd, e ▸ h.rng, t ▸ h.fit, h.room, h.ent⟩
theorem LeastOk.to {least : Int} (h : LeastOk least all gone) (e : nums all' = nums all) : LeastOk least all' gone := ⟨h.1, e ▸ h.2⟩
theorem valV_dropK {κ : Type} [DecidableEq κ] (k j : κ) : ∀ kvs : List (κ × V), valV (dropK kvs k) j = if j = k then none else valV kvs j
  | [] => by unfold dropK; simp [valV_nil]
  | p :: r => by
    have ih := valV_dropK k j r
    by_cases e : p.1 = k
    · rw [dropK_pos e, ih]
      by_cases f : j = k
      · rw [if_pos f, if_pos f]
      · rw [if_neg f, if_neg f, valV_neg (fun z => f (z.symm.trans e))]
    · rw [dropK_neg e]
      by_cases f : p.1 = j
      · rw [valV_pos f, valV_pos f, if_neg (fun z => e (f.trans z))]
      · rw [valV_neg f, valV_neg f, ih]
theorem PlOk.drop (h : PlOk kvs all gone) (n : Int) : PlOk (dropK kvs (Sum.inl n)) all (n :: gone) := by
  refine ⟨?_, nd_dropK h.nd, fun m => ?_⟩
  · obtain ⟨ks, hk⟩ := h.keys
    refine ⟨ks.filter fun m => decide (m ≠ n), ?_⟩
    clear h
    induction kvs generalizing ks with
    | nil =>
      cases ks with
      | nil => rfl
      | cons a b => cases hk
    | cons p r ih =>
      cases ks with
      | nil => cases hk
      | cons a b =>
        have h1 : p.1 = Sum.inl a := by injection hk
        have h2 : r.map (·.1) = b.map Sum.inl := by injection hk
        by_cases e : a = n
        · subst e
          rw [dropK_pos h1, ih b h2, List.filter_cons_of_neg (by simp)]
        · have ne : ¬ p.1 = Sum.inl n := fun z => e (by rw [h1] at z; exact Sum.inl.inj z)
          rw [dropK_neg ne, List.filter_cons_of_pos (by simpa using e), List.map_cons, List.map_cons, ih b h2, h1]
  · rw [valV_dropK, h.val]
    by_cases e : m = n
    · subst e
      rw [if_pos rfl, if_pos (by simp)]
    · rw [if_neg (fun z => e (Sum.inl.inj z))]
      by_cases g : m ∈ gone
      · rw [if_pos g, if_pos (by simp [g])]
      · rw [if_neg g, if_neg (by simp [e, g])]
end
def obKind (z : Int) (o : Ob) : Ob := { o with kind := z }
def obSlot (i : Nat) (z : Int) (o : Ob) : Ob := { o with slots := o.slots.set i z }
theorem obKind_len (z : Int) (o : Ob) : (obKind z o).len = o.len := rfl
theorem obSlot_len (i : Nat) (z : Int) (o : Ob) : (obSlot i z o).len = o.len := by unfold obSlot Ob.len; simp
theorem obSlot_words (i : Nat) (z : Int) (o : Ob) : (obSlot i z o).words = o.words.set (3 + i) z := by
  unfold obSlot Ob.words
  rw [show 3 + i = i + 1 + 1 + 1 by omega]
  simp
section
variable {P : Program} {w : World} {K : PySem.W.Frag} {mg : Str → Option Value} {base : Heap} {A : Ads}
def spSetKind (A : Ads) : Sp := fun vs H Q _ => ∃ (s : Addr) (n z room entries : Int) (all : List Ob) (cs : List Cell), vs = [.ref s, .int n, .int z] ∧ StR A.CT s room entries all [] cs ∧ Own A.T (adr cs) H cs H ∧ n ∈ nums all ∧
  ∀ (H' : Hp) (cs' : List Cell), StR A.CT s room entries (updN all n (obKind z)) [] cs' → Own A.T (adr cs) H cs' H' → Q .non H'
theorem ok_s_set_kind (T : Txt P K mg A) : Okd P w K mg base 1 A.s_set_kind (spSetKind A) := by
  refine okN T.f_s_set_kind sc_s_set_kind bh_s_set_kind (fun vs H Q E h => ?_) (fun cdv Ar outer s H vs Q E hr h => ?_)
  · obtain ⟨_, _, _, _, _, _, _, rfl, _⟩ := h
    rfl
  · obtain ⟨s, n, z, room, entries, all, cs, rfl, hS, W, hn, k⟩ := h
    obtain ⟨dx, wd, pl, kvs, least, rfl, hP, hO, hL, h1, h2, h3⟩ := hS.open W.has
    obtain ⟨o, ho⟩ := ob_of_nums hn
    obtain ⟨q, hq⟩ := off_of_ob ho
    have hb := off_bound ho hq
    refine ⟨_, pss_one (ps_asg (pv 2) (pg_sub (pe_fld (pv 0) rfl) (pe_op op_add (pe_dget (hu_of hr) (pe_fld (pv 0) rfl) (pv 1) (fun _ _ => rfl)) pe_int) set_list)), ?_⟩
    refine ⟨_, rfl, _, rfl, s, _, dx, _, _, rfl, h1, T.clT, T.nT_words, stF_words, _, rfl, s, _, dx, _, _, rfl, h1, T.clT, T.nT_places, stF_places, _, rfl, pl, _, rfl, hP.sm hq (by simp) ▸ DGet.k (k := Sum.inl n) h3, ?_⟩
    refine ⟨_, _, rfl, rfl, wd, _, _, q + 2, rfl, rfl, h2, (by rw [show ((q : Int) + 2) = ((q + 2 : Nat) : Int) by omega]; exact ixN_nat (by rw [flat_len]; unfold Ob.len at hb; omega)), ?_⟩
    rw [← List.map_set (f := V.int), flat_set ho hq 2 (by unfold Ob.len; omega) z (obKind z) rfl]
    exact k _ _ ⟨dx, wd, pl, kvs, least, rfl, hP.to (updN_off (fun _ => rfl) (obKind_len z)), hO.to (updN_nums fun _ => rfl) (updN_tot (obKind_len z)), hL.to (updN_nums fun _ => rfl)⟩ (W.put 1 rfl rfl)
def spPut (A : Ads) : Sp := fun vs H Q _ => ∃ (s : Addr) (n z room entries : Int) (i : Nat) (all : List Ob) (cs : List Cell) (o : Ob), vs = [.ref s, .int n, .int (i : Int), .int z] ∧ StR A.CT s room entries all [] cs ∧ Own A.T (adr cs) H cs H ∧ ob? all n = some o ∧ i < o.slots.length ∧
  ∀ (H' : Hp) (cs' : List Cell), StR A.CT s room entries (updN all n (obSlot i z)) [] cs' → Own A.T (adr cs) H cs' H' → Q .non H'
theorem ok_s_put (T : Txt P K mg A) : Okd P w K mg base 1 A.s_put (spPut A) := by
  refine okN T.f_s_put sc_s_put bh_s_put (fun vs H Q E h => ?_) (fun cdv Ar outer s H vs Q E hr h => ?_)
  · obtain ⟨_, _, _, _, _, _, _, _, _, rfl, _⟩ := h
    rfl
  · obtain ⟨s, n, z, room, entries, i, all, cs, o, rfl, hS, W, ho, hi, k⟩ := h
    obtain ⟨dx, wd, pl, kvs, least, rfl, hP, hO, hL, h1, h2, h3⟩ := hS.open W.has
    obtain ⟨q, hq⟩ := off_of_ob ho
    obtain ⟨tt, gH⟩ := T.g_HEADER
    have hb := off_bound ho hq
    refine ⟨_, pss_one (ps_asg (pv 3) (pg_sub (pe_fld (pv 0) rfl) (pe_op op_add (pe_op op_add (pe_dget (hu_of hr) (pe_fld (pv 0) rfl) (pv 1) (fun _ _ => rfl)) (pe_glob (v := .int 3) rfl gH ⟨_, rfl⟩)) (pv 2)) set_list)), ?_⟩
    refine ⟨_, rfl, _, rfl, s, _, dx, _, _, rfl, h1, T.clT, T.nT_words, stF_words, _, rfl, s, _, dx, _, _, rfl, h1, T.clT, T.nT_places, stF_places, _, rfl, pl, _, rfl, hP.sm hq (by simp) ▸ DGet.k (k := Sum.inl n) h3, ?_⟩
    refine ⟨_, _, rfl, rfl, _, rfl, _, _, rfl, rfl, wd, _, _, q + (3 + i), rfl, rfl, h2, ?_, ?_⟩
    · rw [show ((q : Int) + 3 + (i : Int)) = ((q + (3 + i) : Nat) : Int) by omega]
      exact ixN_nat (by rw [flat_len]; unfold Ob.len at hb; omega)
    rw [← List.map_set (f := V.int), flat_set ho hq (3 + i) (by unfold Ob.len; omega) z (obSlot i z) (obSlot_words i z o)]
    exact k _ _ ⟨dx, wd, pl, kvs, least, rfl, hP.to (updN_off (fun _ => rfl) (obSlot_len i z)), hO.to (updN_nums fun _ => rfl) (updN_tot (obSlot_len i z)), hL.to (updN_nums fun _ => rfl)⟩ (W.put 1 rfl rfl)
/-- one number fewer among the places -/
def spSDrop (A : Ads) : Sp := fun vs H Q _ => ∃ (s : Addr) (n room entries : Int) (all : List Ob) (gone : List Int) (cs : List Cell), vs = [.ref s, .int n] ∧ StR A.CT s room entries all gone cs ∧ Own A.T (adr cs) H cs H ∧ n ∈ nums all ∧ n ∉ gone ∧
  ∀ (H' : Hp) (cs' : List Cell), StR A.CT s room entries all (n :: gone) cs' → Own A.T (adr cs) H cs' H' → Q .non H'
theorem ok_s_drop (T : Txt P K mg A) : OkW P w K mg base 1 A.s_drop (spSDrop A) := by
  refine okW T.f_s_drop sc_s_drop bh_s_drop (fun vs H Q E h => ?_) (fun cdv Ar outer s H vs Q E c pn hr hw h => ?_)
  · obtain ⟨_, _, _, _, _, _, _, rfl, _⟩ := h
    rfl
  · obtain ⟨s, n, room, entries, all, gone, cs, rfl, hS, W, hn, hg, k⟩ := h
    obtain ⟨dx, wd, pl, kvs, least, rfl, hP, hO, hL, h1, h2, h3⟩ := hS.open W.has
    refine ⟨_, pss_cons (ps_ddel (pe_fld (pv 0) rfl) (pv 1)) (pss_one (ps_fld (pv 0) (pe_callB (call_min2W hw) (by rfl) T.b_min (by decide +kernel) (pa_cons (pe_fld (pv 0) rfl) (pa_cons (pv 1) pa_nil))) rfl)), ?_⟩
    have sm : (valV kvs (Sum.inl n)).isSome = true := by rw [hP.isSome]; simp [hn, hg]
    have W1 := W.put 2 rfl rfl (b := pl) (o' := .dK (dropK kvs (Sum.inl n)))
    have h1' : upd H pl (.dK (dropK kvs (Sum.inl n))) s = _ := W1.get 0 rfl
    refine ⟨_, rfl, s, _, dx, _, _, rfl, h1, T.clT, T.nT_places, stF_places, _, rfl, pl, kvs, Sum.inl n, rfl, h3, rfl, sm, ?_⟩
    refine ⟨_, rfl, s, _, dx, _, _, rfl, h1', T.clT, T.nT_least, stF_least, _, rfl, _, _, rfl, _, rfl, s, _, dx, _, rfl, h1', T.clT, T.nT_least, stF_small, ?_⟩
    rw [stF_pleast]
    refine k _ _ ⟨dx, wd, pl, _, _, rfl, hP.drop n, hO, ?_⟩ (W1.put 0 rfl rfl)
    have := (hO.rng n hn).1
    refine ⟨?_, fun m h0 hm => ?_⟩
    · have := hL.1
      split <;> omega
    · have hm' : m < least ∧ m < n := by split at hm <;> omega
      have := hL.2 m h0 hm'.1
      refine ⟨this.1, fun z => ?_⟩
      rcases List.mem_cons.mp z with e | e
      · omega
      · exact this.2 e
/-- the list and the places, copied -/
def spSnap (A : Ads) : Sp := fun vs H Q _ => ∃ (s : Addr) (room entries : Int) (all : List Ob) (cs : List Cell), vs = [.ref s] ∧ StR A.CT s room entries all [] cs ∧ Has cs H ∧ Tabs A.T H ∧
  ∀ (H' : Hp) (t w2 p2 : Addr) (kvs : List (Key × V)), PlOk kvs all [] → Own A.T [] H [(t, .tup [.ref w2, .ref p2]), (p2, .dK kvs), (w2, .lst ((flat all).map V.int))] H' → Q (.ref t) H'
theorem ok_s_snap (T : Txt P K mg A) : Okd P w K mg base 1 A.s_snap (spSnap A) := by
  refine okN T.f_s_snap sc_s_snap bh_s_snap (fun vs H Q E h => ?_) (fun cdv Ar outer s H vs Q E hr h => ?_)
  · obtain ⟨_, _, _, _, _, rfl, _⟩ := h
    rfl
  · obtain ⟨s, room, entries, all, cs, rfl, hS, hh, ht, k⟩ := h
    obtain ⟨dx, wd, pl, kvs, least, rfl, hP, hO, hL, h1, h2, h3⟩ := hS.open hh
    refine ⟨_, pss_one (ps_ret (pe_tup (pa_cons (pe_callTy call_list_of (by rfl) T.b_list (by decide +kernel) (pa_cons (pe_fld (pv 0) rfl) pa_nil)) (pa_cons (pe_callTy call_dictD (by rfl) T.b_dict (by decide +kernel) (pa_cons (pe_fld (pv 0) rfl) pa_nil)) pa_nil)))), ?_⟩
    refine ⟨_, rfl, s, _, dx, _, _, rfl, h1, T.clT, T.nT_words, stF_words, wd, _, rfl, .inl (SqL.of h2), fun l hl => ?_⟩
    have W1 := (Own.nil ht).new (o := .lst ((flat all).map V.int)) hl
    have u1 := ne_of_none h1 hl
    have u3 := ne_of_none h3 hl
    refine ⟨_, rfl, s, _, dx, _, _, rfl, (by rw [upd_ne u1]; exact h1), T.clT, T.nT_places, stF_places, pl, kvs, rfl, .inl (by rw [upd_ne u3]; exact h3), fun p hp => ?_⟩
    have W2 := W1.new (o := .dK kvs) hp
    refine ⟨(by show 2 ≤ sizeLine; rw [sizeLine_eq]; decide), fun t ht => ?_⟩
    exact k _ t l p kvs hP (W2.new ht)
def spRest (A : Ads) : Sp := fun vs H Q _ => ∃ (s t w2 p2 : Addr) (room entries : Int) (all old : List Ob) (kvs : List (Key × V)) (cs : List Cell), vs = [.ref s, .ref t] ∧ StR A.CT s room entries all [] cs ∧ Own A.T (adr cs) H cs H ∧
  H t = some (.tup [.ref w2, .ref p2]) ∧ H w2 = some (.lst ((flat old).map V.int)) ∧ H p2 = some (.dK kvs) ∧ PlOk kvs old [] ∧ StOk room entries old ∧ (∀ c ∈ cs, c.1 ≠ w2 ∧ c.1 ≠ p2 ∧ c.1 ≠ t) ∧
  ∀ (H' : Hp) (cs' : List Cell), StR A.CT s room entries old [] cs' → Own A.T (adr cs) H cs' H' → Q .non H'
theorem ok_s_rest (T : Txt P K mg A) : Okd P w K mg base 1 A.s_rest (spRest A) := by
  refine okN T.f_s_rest sc_s_rest bh_s_rest (fun vs H Q E h => ?_) (fun cdv Ar outer s H vs Q E hr h => ?_)
  · obtain ⟨_, _, _, _, _, _, _, _, _, _, rfl, _⟩ := h
    rfl
  · obtain ⟨s, t, w2, p2, room, entries, all, old, kvs2, cs, rfl, hS, W, ht, hw2, hp2, hP2, hO2, hne, k⟩ := h
    obtain ⟨dx, wd, pl, kvs, least, rfl, hP, hO, hL, h1, h2, h3⟩ := hS.open W.has
    have n1 : s ≠ w2 ∧ s ≠ p2 ∧ s ≠ t := hne (s, .ins A.CT dx (stF room entries wd pl least)) (by simp)
    refine ⟨_, pss_cons (ps_asg (pv 1) (pg_tup (by rfl) (pgs_cons (pg_name (i := 2) sc_s_rest.nd rfl (.inl rfl)) (pgs_cons (pg_name (i := 3) sc_s_rest.nd rfl (.inl rfl)) pgs_nil))))
      (pss_cons (ps_fld (pv 0) (pe_callTy call_list_of (by rfl) T.b_list (by decide +kernel) (pa_cons (pv 2) pa_nil)) rfl)
      (pss_cons (ps_fld (pv 0) (pe_callTy call_dictD (by rfl) T.b_dict (by decide +kernel) (pa_cons (pv 3) pa_nil)) rfl)
      (pss_one (ps_fld (pv 0) pe_int rfl)))), ?_⟩
    refine ⟨_, rfl, t, _, rfl, SqT.of ht, rfl, _, _, rfl, _, _, rfl, rfl, ?_⟩
    refine ⟨_, rfl, w2, _, rfl, .inl (SqL.of hw2), fun l hl => ?_⟩
    have W1 := W.new (o := .lst ((flat old).map V.int)) hl
    have e1 : upd H l (.lst ((flat old).map V.int)) p2 = some (.dK kvs2) := by rw [upd_ne (ne_of_none hp2 hl)]; exact hp2
    refine ⟨_, rfl, s, _, dx, _, rfl, W1.get 1 rfl, T.clT, T.nT_words, stF_small, ?_⟩
    rw [stF_pwords]
    have W2 := W1.put 1 rfl rfl (b := s) (o' := .ins A.CT dx (stF room entries l pl least))
    have e2 : upd (upd H l (.lst ((flat old).map V.int))) s (.ins A.CT dx (stF room entries l pl least)) p2 = some (.dK kvs2) := by rw [upd_ne (Ne.symm n1.2.1)]; exact e1
    refine ⟨_, rfl, p2, kvs2, rfl, .inl e2, fun p hp => ?_⟩
    have W3 := W2.new (o := .dK kvs2) hp
    refine ⟨_, rfl, s, _, dx, _, rfl, W3.get 2 rfl, T.clT, T.nT_places, stF_small, ?_⟩
    rw [stF_pplaces]
    have W4 := W3.put 2 rfl rfl (b := s) (o' := .ins A.CT dx (stF room entries l p least))
    refine ⟨_, rfl, s, _, dx, _, rfl, W4.get 2 rfl, T.clT, T.nT_least, stF_small, ?_⟩
    rw [stF_pleast]
    have W5 := W4.put 2 rfl rfl (b := s) (o' := .ins A.CT dx (stF room entries l p 0))
    refine k _ _ ⟨dx, l, p, kvs2, 0, rfl, hP2, hO2, Int.le_refl _, fun m h0 hm => by omega⟩ (W5.mem_of (fun c hc => ?_) ?_)
    · simp only [List.mem_cons, List.not_mem_nil, or_false] at hc
      rcases hc with rfl | rfl | rfl <;> simp
    · have := W5.nd
      simp [adr] at this ⊢
      exact ⟨⟨Ne.symm this.2.1.1, Ne.symm this.1.2.1⟩, Ne.symm this.1.1⟩
end
end K9
end
section
set_option Elab.async false
set_option linter.all false
set_option maxRecDepth 100000
set_option maxHeartbeats 4000000
/-! A store's methods, the third part: exchange, __init__, free_number, allocate. -/
namespace K9
open PySem PySem.Spec PyProof.Rows L2 LamX
section
variable {kvs : List (Key × V)} {all all' : List Ob} {gone : List Int} {n : Int}
/-- a key that is there is written anew -/
theorem keys_put {k : Key} {v : V} (h : (valV kvs k).isSome = true) : (putK kvs k v).map (·.1) = kvs.map (·.1) := by
  unfold putK
  rw [valV_any, if_pos h, List.map_map]
  refine List.map_congr_left fun p _ => ?_
  show (if p.1 = k then (p.1, v) else p).1 = p.1
  split <;> rfl
theorem PlOk.put_new (h : PlOk kvs all []) {o : Ob} (hn : o.num ∉ nums all) : PlOk (putK kvs (Sum.inl o.num) (.int (tot all : Int))) (all ++ [o]) [] := by
  have hv : valV kvs (Sum.inl o.num) = none := by rw [h.val, if_neg (by simp), off_none hn]; rfl
  refine ⟨?_, nd_putK _ h.nd hv, fun m => ?_⟩
  · obtain ⟨ks, hk⟩ := h.keys
    refine ⟨ks ++ [o.num], ?_⟩
    rw [putK_new _ hv, List.map_append, hk, List.map_append]
    rfl
  · rw [valV_put, h.val, off_append _ _ _ hn]
    simp only [List.not_mem_nil, if_false]
    by_cases q : m = o.num
    · rw [if_pos (by rw [q]), if_pos q]; rfl
    · rw [if_neg (fun z => q (Sum.inl.inj z)), if_neg q]
theorem swapN_left (a b : Int) : swapN a b a = b := by unfold swapN; rw [if_pos rfl]
theorem swapN_right (a b : Int) : swapN a b b = a := by
  unfold swapN
  by_cases h : b = a
  · rw [if_pos h, h]
  · rw [if_neg h, if_pos rfl]
theorem swapN_other {a b m : Int} (h1 : m ≠ a) (h2 : m ≠ b) : swapN a b m = m := by unfold swapN; rw [if_neg h1, if_neg h2]
theorem PlOk.exch (h : PlOk kvs all []) {a b : Int} {ka kb : Nat} (ha : off all a = some ka) (hb : off all b = some kb) :
    PlOk (putK (putK kvs (Sum.inl a) (.int (kb : Int))) (Sum.inl b) (.int (ka : Int))) (exch all a b) [] := by
  have na := off_some ha
  have nb := off_some hb
  have e1 := keys_put (kvs := kvs) (k := Sum.inl a) (v := .int (kb : Int)) (by rw [h.isSome]; simp [na])
  have e2 := keys_put (kvs := putK kvs (Sum.inl a) (.int (kb : Int))) (k := Sum.inl b) (v := .int (ka : Int)) (by
    rw [valV_put]
    split
    · rfl
    · rw [h.isSome]; simp [nb])
  refine ⟨by rw [e2, e1]; exact h.keys, by rw [e2, e1]; exact h.nd, fun m => ?_⟩
  rw [valV_put, valV_put, h.val, exch_off]
  simp only [List.not_mem_nil, if_false]
  by_cases q : m = b
  · rw [if_pos (by rw [q]), q, swapN_right, ha]; rfl
  · rw [if_neg (fun z => q (Sum.inl.inj z))]
    by_cases r : m = a
    · rw [if_pos (by rw [r]), r, swapN_left, hb]; rfl
    · rw [if_neg (fun z => r (Sum.inl.inj z)), swapN_other r q]
theorem exch_mem {l : List Ob} {a b m : Int} (ha : a ∈ nums l) (hb : b ∈ nums l) : m ∈ nums (exch l a b) ↔ m ∈ nums l := by
  rw [exch_nums, List.mem_map]
  constructor
  · rintro ⟨x, hx, rfl⟩
    unfold swapN
    split
    · exact hb
    · split
      · exact ha
      · exact hx
  · intro hm
    refine ⟨swapN a b m, ?_, swapN_swapN a b m⟩
    unfold swapN
    split
    · exact hb
    · split
      · exact ha
      · exact hm
theorem exch_self (l : List Ob) (a : Int) : exch l a a = l := by
  unfold exch
  refine (List.map_congr_left fun o _ => ?_).trans (List.map_id _)
  have e : swapN a a o.num = o.num := by
    unfold swapN
    split
    · next h => exact h.symm
    · rfl
  rw [e]; rfl
theorem StOk.exch {room entries : Int} (h : StOk room entries all) {a b : Int} (ha : a ∈ nums all) (hb : b ∈ nums all) : StOk room entries (exch all a b) :=
  ⟨exch_nodup a b h.nd, fun m hm => h.rng m ((exch_mem ha hb).mp hm), by rw [exch_tot]; exact h.fit, h.room, h.ent⟩
theorem LeastOk.exch {least : Int} (h : LeastOk least all []) {a b : Int} (ha : a ∈ nums all) (hb : b ∈ nums all) : LeastOk least (exch all a b) [] :=
  ⟨h.1, fun m h0 hm => ⟨(exch_mem ha hb).mpr (h.2 m h0 hm).1, by simp⟩⟩
theorem off_lt {l : List Ob} {n : Int} {k : Nat} (h : off l n = some k) : k < tot l := by
  obtain ⟨o, ho⟩ := ob_of_nums (off_some h)
  have := off_bound ho h
  unfold Ob.len at this
  omega
theorem length_putF (f : Str) (v : V) : ∀ fs : List (Str × V), (putF f v fs).length ≤ fs.length + 1
  | [] => Nat.le_refl _
  | (g, x) :: r => by
    have := length_putF f v r
    show (if g = f then (g, v) :: r else (g, x) :: putF f v r).length ≤ _
    split
    · simp
    · simp; omega
theorem stF_init {r e : Int} {wd pl : Addr} : putF "_least" (.int 0) (putF "_places" (.ref pl) (putF "words" (.ref wd) (putF "entries" (.int e) (putF "room" (.int r) [])))) = stF r e wd pl 0 := by
  rw [show ([] : List (Str × V)) = ([] : List Str).zip ([] : List V) from rfl, K9.put_new (by decide +kernel) rfl, K9.put_new (by decide +kernel) rfl, K9.put_new (by decide +kernel) rfl, K9.put_new (by decide +kernel) rfl, K9.put_new (by decide +kernel) rfl]
  rfl
end
section
variable {P : Program} {w : World} {K : PySem.W.Frag} {mg : Str → Option Value} {base : Heap} {A : Ads}
def spExch (A : Ads) : Sp := fun vs H Q _ => ∃ (s : Addr) (a b room entries : Int) (all : List Ob) (cs : List Cell), vs = [.ref s, .int a, .int b] ∧ StR A.CT s room entries all [] cs ∧ Own A.T (adr cs) H cs H ∧ a ∈ nums all ∧ b ∈ nums all ∧
  ∀ (H' : Hp) (cs' : List Cell), StR A.CT s room entries (exch all a b) [] cs' → Own A.T (adr cs) H cs' H' → Q .non H'
theorem ok_s_exch (T : Txt P K mg A) : Okd P w K mg base 1 A.s_exch (spExch A) := by
  refine okN T.f_s_exch sc_s_exch bh_s_exch (fun vs H Q E h => ?_) (fun cdv Ar outer s H vs Q E hr h => ?_)
  · obtain ⟨_, _, _, _, _, _, _, rfl, _⟩ := h
    rfl
  · obtain ⟨s, a, b, room, entries, all, cs, rfl, hS, W, ha, hb, k⟩ := h
    obtain ⟨dx, wd, pl, kvs, least, rfl, hP, hO, hL, h1, h2, h3⟩ := hS.open W.has
    obtain ⟨oa, ea⟩ := ob_of_nums ha
    obtain ⟨qa, hqa⟩ := off_of_ob ea
    obtain ⟨o2, eb⟩ := ob_of_nums hb
    obtain ⟨qb, hqb⟩ := off_of_ob eb
    have hu := hu_of hr
    refine ⟨_, pss_cons (ps_set (i := 3) sc_s_exch.nd rfl (.inl rfl) (pe_dget hu (pe_fld (pv 0) rfl) (pv 1) (fun _ _ => rfl)))
      (pss_cons (ps_set (i := 4) sc_s_exch.nd rfl (.inl rfl) (pe_dget hu (pe_fld (pv 0) rfl) (pv 2) (fun _ _ => rfl)))
      (pss_cons (ps_dput hu (pe_fld (pv 0) rfl) (pv 1) (pv 4) rfl)
      (pss_cons (ps_dput hu (pe_fld (pv 0) rfl) (pv 2) (pv 3) rfl)
      (pss_cons (ps_asg (pv 2) (pg_sub (pe_fld (pv 0) rfl) (pv 3) set_list))
      (pss_one (ps_asg (pv 1) (pg_sub (pe_fld (pv 0) rfl) (pv 4) set_list))))))), ?_⟩
    refine ⟨_, rfl, s, _, dx, _, _, rfl, h1, T.clT, T.nT_places, stF_places, _, rfl, pl, _, rfl, hP.sm hqa (by simp) ▸ DGet.k (k := Sum.inl a) h3, ?_⟩
    refine ⟨_, rfl, s, _, dx, _, _, rfl, h1, T.clT, T.nT_places, stF_places, _, rfl, pl, _, rfl, hP.sm hqb (by simp) ▸ DGet.k (k := Sum.inl b) h3, ?_⟩
    have l0 : kvs.length < sizeLine := line1000 (by have := hP.len hO.nd; have := hO.lenle; omega)
    have W1 := W.put 2 rfl rfl (b := pl) (o' := .dK (putK kvs (Sum.inl a) (.int (qb : Int))))
    have W2 := W1.put 2 rfl rfl (b := pl) (o' := .dK (putK (putK kvs (Sum.inl a) (.int (qb : Int))) (Sum.inl b) (.int (qa : Int))))
    have W3 := W2.put 1 rfl rfl (b := wd) (o' := .lst (((flat all).map V.int).set qa (.int b)))
    have W4 := W3.put 1 rfl rfl (b := wd) (o' := .lst ((((flat all).map V.int).set qa (.int b)).set qb (.int a)))
    refine ⟨_, rfl, _, rfl, s, _, dx, _, _, rfl, h1, T.clT, T.nT_places, stF_places, _, rfl, pl, _, rfl, DPut.k (k := Sum.inl a) h3 l0, ?_⟩
    refine ⟨_, rfl, _, rfl, s, _, dx, _, _, rfl, W1.get 0 rfl, T.clT, T.nT_places, stF_places, _, rfl, pl, _, rfl, DPut.k (k := Sum.inl b) (W1.get 2 rfl) ?_, ?_⟩
    · refine line1000 ?_
      have := length_putK kvs (Sum.inl a) (.int (qb : Int))
      have := hP.len hO.nd
      have := hO.lenle
      omega
    have la := off_lt hqa
    have lb := off_lt hqb
    refine ⟨_, rfl, _, rfl, s, _, dx, _, _, rfl, W2.get 0 rfl, T.clT, T.nT_words, stF_words, _, rfl, wd, _, _, qa, rfl, rfl, W2.get 1 rfl, ixN_nat (by rw [flat_len]; exact la), ?_⟩
    refine ⟨_, rfl, _, rfl, s, _, dx, _, _, rfl, W3.get 0 rfl, T.clT, T.nT_words, stF_words, _, rfl, wd, _, _, qb, rfl, rfl, W3.get 1 rfl, ixN_nat (by rw [List.length_set, flat_len]; exact lb), ?_⟩
    refine k _ _ ⟨dx, wd, pl, _, least, ?_, hP.exch hqa hqb, hO.exch ha hb, hL.exch ha hb⟩ W4
    have ef : ((((flat all).map V.int).set qa (.int b)).set qb (.int a)) = (flat (exch all a b)).map V.int := by
      rw [← List.map_set (f := V.int), ← List.map_set (f := V.int), exch_flat hO.nd hqa hqb]
    rw [← ef]
    rfl
def spSInit (A : Ads) : Sp := fun vs H Q _ => ∃ (s dx : Addr) (room entries : Int), vs = [.ref s, .int room, .int entries] ∧ Own A.T [s] H [(s, .ins A.CT dx [])] H ∧ 0 ≤ room ∧ room ≤ 1000 ∧ 0 ≤ entries ∧ entries ≤ 1000000 ∧
  ∀ (H' : Hp) (cs' : List Cell), StR A.CT s room entries [] [] cs' → Own A.T [s] H cs' H' → Q .non H'
theorem ok_s_init (T : Txt P K mg A) : Okd P w K mg base 1 A.s_init (spSInit A) := by
  refine okN T.f_s_init sc_s_init bh_s_init (fun vs H Q E h => ?_) (fun cdv Ar outer s H vs Q E hr h => ?_)
  · obtain ⟨_, _, _, _, rfl, _⟩ := h
    rfl
  · obtain ⟨s, dx, room, entries, rfl, W, r0, r1, e0, e1, k⟩ := h
    refine ⟨_, pss_cons (ps_fld (pv 0) (pv 1) rfl) (pss_cons (ps_fld (pv 0) (pv 2) rfl) (pss_cons (ps_fld (pv 0) (pe_lst pa_nil) rfl) (pss_cons (ps_fld (pv 0) pe_dnewK rfl) (pss_one (ps_fld (pv 0) pe_int rfl))))), ?_⟩
    refine ⟨_, rfl, _, rfl, s, _, dx, _, rfl, W.get 0 rfl, T.clT, T.nT_room, (by show 0 < 1000; decide), ?_⟩
    have W1 := W.put 0 rfl rfl (b := s) (o' := .ins A.CT dx (putF "room" (.int room) []))
    refine ⟨_, rfl, _, rfl, s, _, dx, _, rfl, W1.get 0 rfl, T.clT, T.nT_entries, (Nat.lt_of_le_of_lt (length_putF _ _ _) (by decide)), ?_⟩
    have W2 := W1.put 0 rfl rfl (b := s) (o' := .ins A.CT dx (putF "entries" (.int entries) (putF "room" (.int room) [])))
    refine ⟨(by show 0 ≤ sizeLine; exact Nat.zero_le _), fun l hl => ?_⟩
    have W3 := W2.new (o := .lst []) hl
    have l2 : (putF "entries" (.int entries) (putF "room" (.int room) [])).length ≤ 2 := Nat.le_trans (length_putF _ _ _) (Nat.succ_le_succ (length_putF _ _ _))
    refine ⟨_, rfl, s, _, dx, _, rfl, W3.get 1 rfl, T.clT, T.nT_words, Nat.lt_of_le_of_lt l2 (by decide), ?_⟩
    have W4 := W3.put 1 rfl rfl (b := s) (o' := .ins A.CT dx (putF "words" (.ref l) (putF "entries" (.int entries) (putF "room" (.int room) []))))
    intro d hd
    have W5 := W4.new (o := .dK []) hd
    have l3 : (putF "words" (.ref l) (putF "entries" (.int entries) (putF "room" (.int room) []))).length ≤ 3 := Nat.le_trans (length_putF _ _ _) (Nat.succ_le_succ l2)
    refine ⟨_, rfl, s, _, dx, _, rfl, W5.get 2 rfl, T.clT, T.nT_places, Nat.lt_of_le_of_lt l3 (by decide), ?_⟩
    have W6 := W5.put 2 rfl rfl (b := s) (o' := .ins A.CT dx (putF "_places" (.ref d) (putF "words" (.ref l) (putF "entries" (.int entries) (putF "room" (.int room) [])))))
    have l4 : (putF "_places" (.ref d) (putF "words" (.ref l) (putF "entries" (.int entries) (putF "room" (.int room) [])))).length ≤ 4 := Nat.le_trans (length_putF _ _ _) (Nat.succ_le_succ l3)
    refine ⟨_, rfl, s, _, dx, _, rfl, W6.get 2 rfl, T.clT, T.nT_least, Nat.lt_of_le_of_lt l4 (by decide), ?_⟩
    rw [stF_init]
    have W7 := W6.put 2 rfl rfl (b := s) (o' := .ins A.CT dx (stF room entries l d 0))
    refine k _ _ ⟨dx, l, d, [], 0, rfl, ⟨⟨[], rfl⟩, List.nodup_nil, fun n => by rw [if_neg (by simp)]; rfl⟩, ⟨List.nodup_nil, fun n hn => absurd hn List.not_mem_nil, (by show (0 : Int) ≤ room; exact r0), ⟨r0, r1⟩, ⟨e0, e1⟩⟩, Int.le_refl _, fun m h0 hm => by omega⟩ (W7.perm ?_)
    show List.Perm [_, _, _] [_, _, _]
    exact (List.reverse_perm [(s, HO.ins A.CT dx (stF room entries l d 0)), (l, HO.lst []), (d, HO.dK [])])
end
end K9
end
section
set_option Elab.async false
set_option linter.all false
set_option maxRecDepth 100000
set_option maxHeartbeats 4000000
/-! A store's methods, the fourth part: free_number, allocate. -/
namespace K9
open PySem PySem.Spec PyProof.Rows L2 LamX
theorem psNox {X : Cx} {st : Stmt} {t : TS} (h : PS X.nox st t) : PS X st t := ⟨fun pins s σ H D I hw =>
  wpAny_mono (h.run pins s σ H D (I.wish _) hw) (fun _ _ q => q.unwish) fun _ _ z => False.elim z⟩
/-! ### the smallest free number -/
section
variable {all : List Ob} {room entries n : Int}
theorem range_nodup (k : Nat) : ((List.range k).map fun i : Nat => (i : Int)).Nodup := by
  refine List.pairwise_map.mpr (List.nodup_range.imp fun h e => h (by omega))
theorem free_lt (h : StOk room entries all) (hf : n ∉ nums all) (h0 : 0 ≤ n) (hn : n < entries) : (all.length : Int) < entries := by
  have q : (n :: nums all).length ≤ ((List.range entries.toNat).map fun i : Nat => (i : Int)).length := by
    refine nodup_sub (List.nodup_cons.mpr ⟨hf, h.nd⟩) (range_nodup _) fun x hx => ?_
    have hx' : 0 ≤ x ∧ x < entries := by
      rcases List.mem_cons.mp hx with rfl | hx
      · exact ⟨h0, hn⟩
      · exact h.rng x hx
    exact List.mem_map.mpr ⟨x.toNat, List.mem_range.mpr (by omega), by omega⟩
  rw [List.length_cons, nums_length, List.length_map, List.length_range] at q
  omega
theorem free_ge (h : StOk room entries all) (hL : LeastOk n all []) (hn : entries ≤ n) : entries ≤ (all.length : Int) := by
  have q : ((List.range entries.toNat).map fun i : Nat => (i : Int)).length ≤ (nums all).length := by
    refine nodup_sub (range_nodup _) h.nd fun x hx => ?_
    obtain ⟨i, hi, rfl⟩ := List.mem_map.mp hx
    have := List.mem_range.mp hi
    exact (hL.2 i (by omega) (by omega)).1
  rw [nums_length, List.length_map, List.length_range] at q
  omega
end
section
variable {P : Program} {w : World} {K : PySem.W.Frag} {mg : Str → Option Value} {base : Heap} {A : Ads}
/-- the same cells, with another least number -/
def spFree (A : Ads) : Sp := fun vs H Q E => ∃ (s dx wd pl : Addr) (room entries least : Int) (all : List Ob) (kvs : List (Key × V)), vs = [.ref s] ∧
  Own A.T [s, wd, pl] H [(s, .ins A.CT dx (stF room entries wd pl least)), (wd, .lst ((flat all).map V.int)), (pl, .dK kvs)] H ∧ PlOk kvs all [] ∧ StOk room entries all ∧ LeastOk least all [] ∧
  (∀ (n : Int) (H' : Hp), n ∉ nums all → 0 ≤ n → n < entries → LeastOk n all [] → Own A.T [s, wd, pl] H [(s, .ins A.CT dx (stF room entries wd pl n)), (wd, .lst ((flat all).map V.int)), (pl, .dK kvs)] H' → Q (.int n) H') ∧
  (entries ≤ (all.length : Int) → ∀ (n : Int) (d : Addr) (H' : Hp), LeastOk n all [] → Own A.T [s, wd, pl] H [(d, .xd [("limit", .int entries)]), (s, .ins A.CT dx (stF room entries wd pl n)), (wd, .lst ((flat all).map V.int)), (pl, .dK kvs)] H' → E (.ref A.cN) (some d) H')
theorem log_small {n : Int} (h0 : 0 ≤ n) (h : n ≤ 1000000) : n.natAbs.log2 < 1920 := by
  have h1 : n.natAbs < 2 ^ 20 := by
    have : n.natAbs ≤ 1000000 := by omega
    exact Nat.lt_of_le_of_lt this (by decide)
  by_cases z : n.natAbs = 0
  · rw [z]; decide
  · have := (Nat.log2_lt z).mpr h1
    omega
theorem ok_s_free (T : Txt P K mg A) : Okd P w K mg base 3 A.s_free (spFree A) := by
  refine okR T.f_s_free sc_s_free bh_s_free (fun vs H Q E h => ?_) (fun cdv Ar outer s0 H vs Q E hr h => ?_)
  · obtain ⟨_, _, _, _, _, _, _, _, _, rfl, _⟩ := h
    rfl
  · obtain ⟨s, dx, wd, pl, room, entries, least, all, kvs, rfl, W, hP, hO, hL, kq, ke⟩ := h
    have hu := hu_of hr
    refine ⟨_, pss_cons (psNox (ps_while PassesOwn.never (pt_cmp (pc_din hu (pe_fld (pv 0) rfl) (pe_fld (pv 0) rfl))) (pss_one (ps_fld (pv 0) (pe_op op_add (pe_fld (pv 0) rfl) pe_int) rfl))))
      (pss_cons (ps_if (pt_cmpR op_ge (pe_fld (pv 0) rfl) (pe_fld (pv 0) rfl) (nomark _)) (pss_one (L2N.ps_raise rfl (L2N.takes_of rfl rfl rfl rfl) (pmk_limit T.xN T.htop hr (pa_cons (pe_fld (pv 0) rfl) pa_nil)))) pss_nil)
      (pss_one (ps_ret (pe_fld (pv 0) rfl)))), ?_⟩
    refine while_by (fun σ H' => ∃ n, σ = [some (.ref s)] ∧ LeastOk n all [] ∧ Own A.T [s, wd, pl] H [(s, .ins A.CT dx (stF room entries wd pl n)), (wd, .lst ((flat all).map V.int)), (pl, .dK kvs)] H')
      (fun σ H' => match H' s with | some (.ins _ _ fs) => (match fs.lookup ("_least" : Str) with | some (.int n) => (entries + 1 - n).toNat | _ => 0) | _ => 0) ⟨least, rfl, hL, W⟩ ?_ ?_
    · rintro σ H1 ⟨n, rfl, hn, W1⟩
      refine ⟨_, rfl, s, _, dx, _, _, rfl, W1.get 0 rfl, T.clT, T.nT_least, stF_least, _, rfl, s, _, dx, _, _, rfl, W1.get 0 rfl, T.clT, T.nT_places, stF_places, pl, _, rfl, DGet.k (k := Sum.inl n) (W1.get 2 rfl), _, rfl, ?_⟩
      rw [hP.isSome]
      by_cases hm : n ∈ nums all
      · refine itT (by simp [hm]) ?_
        refine ⟨_, rfl, s, _, dx, _, _, rfl, W1.get 0 rfl, T.clT, T.nT_least, stF_least, _, _, rfl, rfl, _, rfl, s, _, dx, _, rfl, W1.get 0 rfl, T.clT, T.nT_least, stF_small, ?_⟩
        rw [stF_pleast]
        have W2 := W1.put 0 rfl rfl (b := s) (o' := .ins A.CT dx (stF room entries wd pl (n + 1)))
        refine ⟨⟨n + 1, rfl, ⟨by have := hn.1; omega, fun m h0 hm' => ⟨?_, by simp⟩⟩, W2⟩, ?_⟩
        · by_cases e : m = n
          · rw [e]; exact hm
          · exact (hn.2 m h0 (by omega)).1
        · have q1 := W2.get 0 rfl
          have q2 := W1.get 0 rfl
          simp only at q1 q2
          rw [q1, q2]
          show (match (stF room entries wd pl (n + 1)).lookup ("_least" : Str) with | some (.int n) => (entries + 1 - n).toNat | _ => 0) < (match (stF room entries wd pl n).lookup ("_least" : Str) with | some (.int n) => (entries + 1 - n).toNat | _ => 0)
          rw [stF_least, stF_least]
          have := (hO.rng n hm).2
          show (entries + 1 - (n + 1)).toNat < (entries + 1 - n).toNat
          omega
      · refine itF (by simp [hm]) ?_
        refine ⟨_, rfl, s, _, dx, _, _, rfl, W1.get 0 rfl, T.clT, T.nT_least, stF_least, _, rfl, s, _, dx, _, _, rfl, W1.get 0 rfl, T.clT, T.nT_entries, stF_entries, _, _, rfl, rfl, _, rfl, ?_⟩
        refine ite2 (fun c => ?_) (fun c => ?_)
        · have c : entries ≤ n := by simpa using c
          refine ⟨_, rfl, s, _, dx, _, _, rfl, W1.get 0 rfl, T.clT, T.nT_entries, stF_entries, _, rfl, log_small hO.ent.1 hO.ent.2, fun d hd => ?_⟩
          exact ke (free_ge hO hn c) n d _ hn (W1.new hd)
        · have c : n < entries := by simpa using c
          refine ⟨_, rfl, s, _, dx, _, _, rfl, W1.get 0 rfl, T.clT, T.nT_least, stF_least, ?_⟩
          exact kq n _ hm hn.1 c hn W1
    · rintro σ H1 Q1 Q2 hq ⟨v, e1, p, C, d1, fs, v2, e2, e3, e4, e5, e6, v3, e7, p2, C2, d2, fs2, v4, f2, f3, f4, f5, f6, a, o, g1, g2, c, g3, g4⟩
      exact ⟨v, e1, p, C, d1, fs, v2, e2, e3, e4, e5, e6, v3, e7, p2, C2, d2, fs2, v4, f2, f3, f4, f5, f6, a, o, g1, g2, c, g3, hq _ _ g4⟩
end
end K9
end
section
set_option Elab.async false
set_option linter.all false
set_option maxRecDepth 100000
set_option maxHeartbeats 4000000
/-! A store's methods, the fifth part: allocate. -/
namespace K9
open PySem PySem.Spec PyProof.Rows L2 LamX
def newOb (n kind : Int) (size : Nat) : Ob := ⟨n, kind, List.replicate size 0⟩
theorem flat_new (all : List Ob) (n kind : Int) (size : Nat) : (flat all).map V.int ++ [V.int n, .int (size : Int), .int kind] ++ (List.replicate size (V.int 0)) = (flat (all ++ [newOb n kind size])).map V.int := by
  rw [flat_append, List.map_append, List.append_assoc]
  congr 1
  show _ = (((newOb n kind size).words) ++ []).map V.int
  rw [List.append_nil]
  unfold newOb Ob.words
  simp
theorem tot_new (all : List Ob) (n kind : Int) (size : Nat) : tot (all ++ [newOb n kind size]) = tot all + (3 + size) := by
  rw [tot_append]
  show _ + ((newOb n kind size).len + 0) = _
  unfold newOb Ob.len
  simp
theorem nums_new (all : List Ob) (n kind : Int) (size : Nat) : nums (all ++ [newOb n kind size]) = nums all ++ [n] := by
  rw [nums_append]; rfl
theorem repeat_one (v : V) : ∀ k : Nat, (List.replicate k [v]).flatten = List.replicate k v
  | 0 => rfl
  | k + 1 => by rw [List.replicate_succ, List.flatten_cons, repeat_one v k, List.replicate_succ]; rfl
section
variable {P : Program} {w : World} {K : PySem.W.Frag} {mg : Str → Option Value} {base : Heap} {A : Ads}
def spAlloc (A : Ads) : Sp := fun vs H Q E => ∃ (s : Addr) (kind room entries : Int) (size : Nat) (all : List Ob) (cs : List Cell), vs = [.ref s, .int kind, .int (size : Int)] ∧ StR A.CT s room entries all [] cs ∧ Own A.T (adr cs) H cs H ∧ size ≤ 1000 ∧
  ((tot all : Int) + 3 + (size : Int) ≤ room → (all.length : Int) < entries → ∀ (n : Int) (H' : Hp) (cs' : List Cell), (n ∉ nums all ∧ (all = [] → n = 0)) → StR A.CT s room entries (all ++ [newOb n kind size]) [] cs' → Own A.T (adr cs) H cs' H' → Q (.int n) H') ∧
  (room < (tot all : Int) + 3 + (size : Int) → ∀ (d : Addr) (H' : Hp), Own A.T (adr cs) H ((d, .xd [("need", .int (3 + (size : Int)))]) :: cs) H' → E (.ref A.cR) (some d) H') ∧
  ((tot all : Int) + 3 + (size : Int) ≤ room → entries ≤ (all.length : Int) → ∀ (d : Addr) (H' : Hp) (cs' : List Cell), StR A.CT s room entries all [] cs' → Own A.T (adr cs) H ((d, .xd [("limit", .int entries)]) :: cs') H' → E (.ref A.cN) (some d) H')
theorem ok_s_alloc (T : Txt P K mg A) : Okd P w K mg base 4 A.s_alloc (spAlloc A) := by
  refine okR T.f_s_alloc sc_s_alloc bh_s_alloc (fun vs H Q E h => ?_) (fun cdv Ar outer s0 H vs Q E hr h => ?_)
  · obtain ⟨_, _, _, _, _, _, _, rfl, _⟩ := h
    rfl
  · obtain ⟨s, kind, room, entries, size, all, cs, rfl, hS, W, hz, kq, kr, kn⟩ := h
    obtain ⟨dx, wd, pl, kvs, least, rfl, hP, hO, hL, h1, h2, h3⟩ := hS.open W.has
    have hu := hu_of hr
    obtain ⟨tH, gH⟩ := T.g_HEADER
    obtain ⟨tN, gN⟩ := T.g_NIL
    refine ⟨_, pss_cons (ps_if (pt_cmpR op_gt (pe_op op_add (pe_op op_add (pe_callB call_len_seq (by rfl) T.b_len PySem.boot_len (pa_cons (pe_fld (pv 0) rfl) pa_nil)) (pe_glob (v := .int 3) rfl gH ⟨_, rfl⟩)) (pv 2)) (pe_fld (pv 0) rfl) (nomark _))
        (pss_one (L2N.ps_raise rfl (L2N.takes_of rfl rfl rfl rfl) (pmk_need T.xR T.htop hr (pa_cons (pe_op op_add (pe_glob (v := .int 3) rfl gH ⟨_, rfl⟩) (pv 2)) pa_nil)))) pss_nil)
      (pss_cons (ps_set (i := 3) sc_s_alloc.nd rfl (.inl rfl) (pe_mrun0 (pv 0) T.clT T.m_s_free ((ok_s_free T).runs hr (fun σ => L2N.passAt (L2N.takes_of rfl rfl rfl rfl) σ))))
      (pss_cons (ps_dput hu (pe_fld (pv 0) rfl) (pv 3) (pe_callB call_len_seq (by rfl) T.b_len PySem.boot_len (pa_cons (pe_fld (pv 0) rfl) pa_nil)) rfl)
      (pss_cons (ps_expr (pe_bm PySem.F.plainAttrs_list PySem.F.slot_list_extend PySem.F.type_list_extend mt_extend (pe_fld (pv 0) rfl) (pa_cons (pe_lst (pa_cons (pv 3) (pa_cons (pv 2) (pa_cons (pv 1) pa_nil)))) pa_nil)))
      (pss_cons (ps_expr (pe_bm PySem.F.plainAttrs_list PySem.F.slot_list_extend PySem.F.type_list_extend mt_extend (pe_fld (pv 0) rfl) (pa_cons (pe_op op_rep (pe_lst (pa_cons (pe_glob (v := .int 0) rfl gN ⟨_, rfl⟩) pa_nil)) (pv 2)) pa_nil)))
      (pss_one (ps_ret (pv 3))))))), ?_⟩
    have ht := hO.totle
    refine ⟨_, rfl, s, _, dx, _, _, rfl, h1, T.clT, T.nT_words, stF_words, wd, _, rfl, .inl (SqL.of h2), _, _, rfl, rfl, _, rfl, _, _, rfl, rfl, _, rfl, s, _, dx, _, _, rfl, h1, T.clT, T.nT_room, stF_room, _, _, rfl, rfl, _, rfl, ?_⟩
    rw [flat_len]
    refine ite2 (fun c => ?_) (fun c => ?_)
    · have c : room < (tot all : Int) + 3 + (size : Int) := by simpa using c
      refine ⟨_, rfl, _, _, rfl, rfl, _, rfl, log_small (by omega) (by omega), fun d hd => ?_⟩
      exact kr c d _ (W.new hd)
    have c : (tot all : Int) + 3 + (size : Int) ≤ room := by simpa using c
    refine ⟨_, rfl, s, dx, _, rfl, h1, stF_none (by decide +kernel), s, dx, wd, pl, room, entries, least, all, kvs, rfl, W, hP, hO, hL, fun n H1 hf n0 n1 hn W1 => ?_, fun he n d H1 hn W1 => ?_⟩
    · have l0 : kvs.length < sizeLine := line1000 (by have := hP.len hO.nd; have := hO.lenle; omega)
      refine ⟨_, rfl, s, _, dx, _, _, rfl, W1.get 0 rfl, T.clT, T.nT_words, stF_words, wd, _, rfl, .inl (SqL.of (W1.get 1 rfl)), _, rfl, s, _, dx, _, _, rfl, W1.get 0 rfl, T.clT, T.nT_places, stF_places, _, rfl, pl, _, rfl, DPut.k (k := Sum.inl n) (W1.get 2 rfl) l0, ?_⟩
      rw [flat_len]
      have W2 := W1.put 2 rfl rfl (b := pl) (o' := .dK (putK kvs (Sum.inl n) (.int (tot all : Int))))
      refine ⟨_, rfl, s, _, dx, _, _, rfl, W2.get 0 rfl, T.clT, T.nT_words, stF_words, .inl ⟨rfl, _, SqL.of (W2.get 1 rfl)⟩, _, rfl, _, rfl, _, rfl, (by show 3 ≤ sizeLine; rw [sizeLine_eq]; decide), fun l hl => ?_⟩
      have W3 := W2.new (o := .lst [.int n, .int (size : Int), .int kind]) hl
      refine ⟨wd, l, _, _, rfl, rfl, W3.get 2 rfl, W3.get 0 rfl, ?_, ?_⟩
      · refine Nat.le_of_lt (line1000 ?_)
        rw [flat_len]
        show tot all + 3 ≤ 5000
        omega
      have W4 := W3.put 2 rfl rfl (b := wd) (o' := .lst ((flat all).map V.int ++ [.int n, .int (size : Int), .int kind]))
      refine ⟨_, rfl, s, _, dx, _, _, rfl, W4.get 1 rfl, T.clT, T.nT_words, stF_words, .inl ⟨rfl, _, SqL.of (W4.get 2 rfl)⟩, (by show 1 ≤ sizeLine; rw [sizeLine_eq]; decide), fun m hm => ?_⟩
      have W5 := W4.new (o := .lst [.int 0]) hm
      refine ⟨_, rfl, m, _, _, rfl, rfl, W5.get 0 rfl, by omega, by omega, ?_, fun r hrr => ?_⟩
      · refine Nat.le_of_lt (line1000 ?_)
        show 1 * ((size : Int).toNat) ≤ 5000
        omega
      have W6 := W5.new (o := .lst (List.replicate (size : Int).toNat [V.int 0]).flatten) hrr
      have er : (List.replicate (size : Int).toNat [V.int 0]).flatten = List.replicate size (V.int 0) := by rw [Int.toNat_natCast, repeat_one]
      have e2 : ((flat all).map V.int ++ [V.int n, .int (size : Int), .int kind]) ++ (List.replicate (size : Int).toNat [V.int 0]).flatten = (flat (all ++ [newOb n kind size])).map V.int := by rw [er, flat_new]
      refine ⟨wd, r, _, _, rfl, rfl, W6.get 4 rfl, W6.get 0 rfl, ?_, ?_⟩
      · refine Nat.le_of_lt (line1000 ?_)
        have el : ((flat all).map V.int ++ [V.int n, .int (size : Int), .int kind]).length = tot all + 3 := by rw [List.length_append, flat_len]; rfl
        rw [er, el, List.length_replicate]
        omega
      have W7 := W6.put 4 rfl rfl (b := wd) (o' := .lst (((flat all).map V.int ++ [V.int n, .int (size : Int), .int kind]) ++ (List.replicate (size : Int).toNat [V.int 0]).flatten))
      rw [e2] at W7 ⊢
      refine ⟨_, rfl, ?_⟩
      refine kq c (free_lt hO hf n0 n1) n _ _ ⟨hf, fun e => by
        by_cases hz : n = 0
        · exact hz
        · have h9 := (hn.2 0 (Int.le_refl 0) (by omega)).1
          rw [e] at h9
          cases h9⟩ ⟨dx, wd, pl, _, n, rfl, hP.put_new (o := newOb n kind size) hf, ⟨?_, ?_, ?_, hO.room, hO.ent⟩, hn.1, fun m h0 hm => ⟨?_, by simp⟩⟩ (W7.sub ?_)
      · rw [nums_new]
        exact nd_snoc hO.nd hf
      · intro m hm
        rw [nums_new] at hm
        rcases List.mem_append.mp hm with z | z
        · exact hO.rng m z
        · rw [List.mem_singleton.mp z]; exact ⟨n0, n1⟩
      · rw [tot_new]; omega
      · rw [nums_new]
        exact List.mem_append_left _ (hn.2 m h0 hm).1
      · exact (((List.Sublist.refl _).cons _).cons _).cons _
    · exact kn c he d H1 _ ⟨dx, wd, pl, kvs, n, rfl, hP, hO, hn⟩ W1
end
end K9
end
section
set_option Elab.async false
set_option linter.all false
set_option maxRecDepth 100000
set_option maxHeartbeats 4000000
/-! A store's methods, the sixth part: close_up. -/
namespace K9
open PySem PySem.Spec PyProof.Rows L2 LamX
/-- okW for a def whose code object is known by its address -/
theorem okWc {P : Program} {w : World} {K : PySem.W.Frag} {mg : Str → Option Value} {base : Heap} {x qual : Str} {st : Stmt} {f c0 : Addr} {N ps : List Str} {k : Nat} {sp : Sp}
    (F : ∃ (oc : Value) (od : Option Addr) (kV doc pm : Value) (an : Option Addr) (ct : Value) (osl : Array (Option Value)), K.lookup f = some ⟨oc, od, .func (PySem.W.fnOf x qual (defArgs st) (defBody st) (defScope st) .none kV doc pm an (.ref c0) ct), osl⟩ ∧ PySem.W.codeIn K (.ref c0) qual = true)
    (kp : PySem.W.keepIn K (.ref f) = true) (S : FnScope N ps (defScope st)) (hb : BindH x qual st ps) (len : ∀ vs H Q E, sp vs H Q E → vs.length = ps.length)
    (hbody : ∀ (A : Around) (outer : List Env) (s : Shared) (H : Hp) (vs : List V) (Q : VK) (E : XK) (c : Bool) (pn : List (Addr × Obj)), L2H.RoomH k (A.deeper (envOfC qual (defScope st) s.heap.objs.size f (.ref c0))) →
      Warm (cxW P w K mg base N qual (defScope st) f (.ref c0) A outer s H c pn) → sp vs H Q E →
      ∃ t, PSs (cxW P w K mg base N qual (defScope st) f (.ref c0) A outer s H c pn) (defBody st) t ∧ t { nx := fun _ H' => Q .non H', rt := Q } (start N vs) H) : OkW P w K mg base (k + 1) f sp := by
  obtain ⟨oc, od, kV, doc, pm, an, ct, osl, lk, hcd⟩ := F
  have F' : Fun K x qual st f (PySem.W.fnOf x qual (defArgs st) (defBody st) (defScope st) .none kV doc pm an (.ref c0) ct) := ⟨⟨oc, od, kV, doc, pm, an, _, ct, osl, rfl, lk, hcd⟩, kp⟩
  refine ⟨_, ps, ?_, ?_, F'.binds hb⟩
  · refine fn_of lk hcd S len fun A outer s H vs Q E hr hsp => ?_
    obtain ⟨t, h, q⟩ := hbody A outer s H vs Q E true [] (L2H.roomH_of hr) (.inl rfl) hsp
    have h' : PSs (cxOf CX0 P w K mg base N qual (defScope st) f (.ref c0) A outer s H E).nox (defBody st) t := h
    exact ⟨t, h'.nox, q⟩
  · refine L2H.fn_ofH lk hcd S len fun A outer s H vs Q E p hot hr hsp => ?_
    obtain ⟨t, h, q⟩ := hbody A outer s H vs Q E false [p] hr (.inr ⟨p, ⟨hot.1, hot.2⟩, List.mem_cons_self⟩) hsp
    have h' : PSs (L2H.cxH CX0 P w K mg base N qual (defScope st) f (.ref c0) A outer s H E p).nox (defBody st) t := h
    exact ⟨t, h'.nox, q⟩
/-! ### the order of the places -/
theorem sort_unique {v : Int → Int} : ∀ {ys zs : List Int}, ys.Perm zs → ys.Pairwise (fun a b => v a ≤ v b) → zs.Pairwise (fun a b => v a < v b) → ys = zs
  | [], zs, hp, _, _ => hp.nil_eq
  | y :: ys, [], hp, _, _ => by
    have := hp.length_eq
    cases this
  | y :: ys, z :: zs, hp, h1, h2 => by
    obtain ⟨a1, a2⟩ := List.pairwise_cons.mp h1
    obtain ⟨b1, b2⟩ := List.pairwise_cons.mp h2
    have e : y = z := Classical.byContradiction fun ne => by
      have m1 : y ∈ zs := by
        rcases List.mem_cons.mp (hp.mem_iff.mp List.mem_cons_self) with q | q
        · exact (ne q).elim
        · exact q
      have m2 : z ∈ ys := by
        rcases List.mem_cons.mp (hp.mem_iff.mpr List.mem_cons_self) with q | q
        · exact (ne q.symm).elim
        · exact q
      have := a1 z m2
      have := b1 y m1
      omega
    subst e
    rw [sort_unique hp.cons_inv a2 b2]
def offv (l : List Ob) (n : Int) : Int := ((off l n).getD 0 : Nat)
theorem off_rise : ∀ {l : List Ob}, (nums l).Nodup → (nums l).Pairwise (fun a b => offv l a < offv l b)
  | [], _ => List.Pairwise.nil
  | o :: l, h => by
    obtain ⟨h1, h2⟩ := List.nodup_cons.mp (show (o.num :: nums l).Nodup from h)
    have ih := off_rise h2
    have own : off (o :: l) o.num = some 0 := by unfold off; rw [if_pos rfl]
    have other : ∀ n ∈ nums l, ∃ k, off l n = some k ∧ off (o :: l) n = some (k + o.len) := fun n hn => by
      obtain ⟨q, hq⟩ := ob_of_nums hn
      obtain ⟨k, hk⟩ := off_of_ob hq
      refine ⟨k, hk, ?_⟩
      unfold off
      rw [if_neg (fun e => h1 (by rw [e]; exact hn)), hk]
      simp [Nat.add_comm]
    refine List.pairwise_cons.mpr ⟨fun n hn => ?_, ?_⟩
    · obtain ⟨k, hk, e⟩ := other n hn
      unfold offv
      rw [own, e]
      show ((0 : Nat) : Int) < ((k + o.len : Nat) : Int)
      unfold Ob.len
      omega
    · refine List.Pairwise.imp_of_mem (fun {a b} ha hb r => ?_) ih
      obtain ⟨ka, ea, fa⟩ := other a ha
      obtain ⟨kb, eb, fb⟩ := other b hb
      unfold offv at r ⊢
      rw [ea, eb] at r
      rw [fa, fb]
      have r : ((ka : Nat) : Int) < ((kb : Nat) : Int) := r
      show ((ka + o.len : Nat) : Int) < ((kb + o.len : Nat) : Int)
      omega
theorem whole_cut {all : List Ob} {n : Int} {o : Ob} {k : Nat} (h : ob? all n = some o) (hk : off all n = some k) : cutV ((flat all).map V.int) (some (k : Int)) (some ((k : Int) + 3 + (o.slots.length : Int))) = o.words.map V.int := by
  obtain ⟨a, b, rfl, e, _⟩ := ob_split h
  rw [hk] at e
  cases e
  have hl : ((flat (a ++ o :: b)).map V.int).length = tot a + (o.len + tot b) := by rw [flat_len, tot_append]; rfl
  unfold cutV
  rw [hl]
  have s1 : HT.sIx (tot a + (o.len + tot b)) 0 (some (tot a : Int)) = tot a := by
    rw [HT.sIx_nat]
    omega
  have s2 : HT.sIx (tot a + (o.len + tot b)) (tot a + (o.len + tot b)) (some ((tot a : Int) + 3 + (o.slots.length : Int))) = tot a + o.len := by
    rw [show ((tot a : Int) + 3 + (o.slots.length : Int)) = ((tot a + 3 + o.slots.length : Nat) : Int) by omega, HT.sIx_nat]
    unfold Ob.len
    omega
  rw [s1, s2, flat_append, List.map_append]
  have l1 : ((flat a).map V.int).length = tot a := flat_len a
  rw [← l1, List.drop_left]
  have e3 : flat (o :: b) = o.words ++ flat b := rfl
  rw [e3, List.map_append]
  have l2 : (((flat a).map V.int).length + o.len - ((flat a).map V.int).length) = (o.words.map V.int).length := by simp only [List.length_map, Ob.words_length]; omega
  rw [l2, List.take_left]
/-- what is left -/
def left (all : List Ob) (gone : List Int) : List Ob := all.filter fun o => decide (o.num ∉ gone)
theorem left_nums (all : List Ob) (gone : List Int) : nums (left all gone) = (nums all).filter fun n => decide (n ∉ gone) := filter_nums all fun n => decide (n ∉ gone)
theorem left_ob (all : List Ob) (gone : List Int) {n : Int} (h : n ∉ gone) : ob? (left all gone) n = ob? all n := by
  have := filter_ob all (fun n => decide (n ∉ gone)) n
  rw [show left all gone = all.filter fun o => (fun n => decide (n ∉ gone)) o.num from rfl, this]
  simp [h]
theorem left_nil (all : List Ob) : left all [] = all := by unfold left; simp
theorem take_snoc {α : Type} {l : List α} {i : Nat} {x : α} (h : l[i]? = some x) : l.take (i + 1) = l.take i ++ [x] := by
  rw [List.take_add_one, h]; rfl
theorem StOk.left {room entries : Int} {all : List Ob} (h : StOk room entries all) (gone : List Int) : StOk room entries (left all gone) :=
  ⟨by rw [left_nums]; exact h.nd.sublist List.filter_sublist, fun n hn => h.rng n (by rw [left_nums] at hn; exact (List.mem_filter.mp hn).1), by have := tot_filter all fun o => decide (o.num ∉ gone); have := h.fit; unfold K9.left; omega, h.room, h.ent⟩
section
variable {P : Program} {w : World} {K : PySem.W.Frag} {mg : Str → Option Value} {base : Heap} {A : Ads}
def spClose (A : Ads) : Sp := fun vs H Q _ => ∃ (s : Addr) (room entries : Int) (all : List Ob) (gone : List Int) (cs : List Cell), vs = [.ref s] ∧ StR A.CT s room entries all gone cs ∧ Own A.T (adr cs) H cs H ∧
  ∀ (H' : Hp) (cs' : List Cell), StR A.CT s room entries (left all gone) [] cs' → Own A.T (adr cs) H cs' H' → Q .non H'
theorem ok_s_close (T : Txt P K mg A) (TB : TabB base mg A.cc A.tb) : OkW P w K mg base 4 A.s_close (spClose A) := by
  refine okWc T.c_s_close T.m_s_close.kp sc_s_close bh_s_close (fun vs H Q E h => ?_) (fun Ar outer s0 H vs Q E c pn hr hw h => ?_)
  · obtain ⟨_, _, _, _, _, _, rfl, _⟩ := h
    rfl
  · obtain ⟨s, room, entries, all, gone, cs, rfl, hS, W, k⟩ := h
    obtain ⟨dx, wd, pl, kvs, least, rfl, hP, hO, hL, h1, h2, h3⟩ := hS.open W.has
    have hu := huH hr
    obtain ⟨tH, gH⟩ := T.g_HEADER
    obtain ⟨ks, hks, nd, hm⟩ := hP.ks
    refine ⟨_, pss_cons (ps_set (i := 1) sc_s_close.nd rfl (.inl rfl) (pe_lst pa_nil)) (pss_cons (ps_set (i := 2) sc_s_close.nd rfl (.inl rfl) pe_dnewK)
      (pss_cons (ps_set (i := 5) sc_s_close.nd rfl (.inr rfl) (pe_fld (pv 0) rfl))
      (pss_cons (ps_forW PassesOwn.never hw (pi_listW (pe_sortBy (i := 5) hw (hr.mono (by decide)) TB rfl rfl rfl rfl T.b_sorted (by first | rfl | with_unfolding_all rfl | kernel_rfl))) (pg_name (i := 3) sc_s_close.nd rfl (.inl rfl))
        (pss_cons (ps_set (i := 4) sc_s_close.nd rfl (.inl rfl) (pe_dget hu (pv 5) (pv 3) (fun _ _ => rfl)))
        (pss_cons (ps_dput hu (pv 2) (pv 3) (pe_callB call_len_seq (by rfl) T.b_len PySem.boot_len (pa_cons (pv 1) pa_nil)) rfl)
        (pss_one (ps_expr (pe_bm PySem.F.plainAttrs_list PySem.F.slot_list_extend PySem.F.type_list_extend mt_extend (pv 1) (pa_cons (pe_slice sl_list (pe_fld (pv 0) rfl) (po_some (pv 4)) (po_some (pe_op op_add (pe_op op_add (pv 4) (pe_glob (v := .int 3) rfl gH ⟨_, rfl⟩)) (pe_ix ix_list (pe_fld (pv 0) rfl) (pe_op op_add (pv 4) pe_int) (fun _ _ => rfl))))) pa_nil)))))))
      (pss_cons (ps_fld (pv 0) (pv 1) rfl) (pss_one (ps_fld (pv 0) (pv 2) rfl)))))), ?_⟩
    refine ⟨(by show 0 ≤ sizeLine; exact Nat.zero_le _), fun wn hwn => ?_⟩
    have W1 := W.new (o := .lst []) hwn
    intro pn hpn
    have W2 := W1.new (o := .dK []) hpn
    refine ⟨_, rfl, s, _, dx, _, _, rfl, W2.get 2 rfl, T.clT, T.nT_places, stF_places, ?_⟩
    refine ⟨pl, kvs, ks, offv all, rfl, W2.get 4 rfl, hks, fun n hn => ?_, W2.tb, fun ys yl H3 x3 t3 f3 hp hs e3 => ?_⟩
    · have q := (hm n).mp hn
      obtain ⟨o, ho⟩ := ob_of_nums q.1
      obtain ⟨j, hj⟩ := off_of_ob ho
      rw [hP.sm hj q.2]
      unfold offv
      rw [hj]; rfl
    have W3 := W2.ext (o := .lst (ys.map V.int)) x3 t3 f3 e3
    have hOl := hO.left gone
    have eys : ys = nums (left all gone) := by
      refine sort_unique (hp.trans (perm_of_same nd hOl.nd fun x => ?_)) hs ?_
      · rw [hm, left_nums]; simp
      · rw [left_nums]; exact (off_rise hO.nd).sublist List.filter_sublist
    subst eys
    refine ⟨yl, rfl, ⟨_, SqL.of e3⟩, for_list (K := K) (a := yl) (xs := (nums (left all gone)).map V.int) (fun i σ H' => ∃ (v3 v4 : Option V) (kvs' : List (Key × V)), σ = [some (.ref s), some (.ref wn), some (.ref pn), v3, v4, some (.ref pl)] ∧
      PlOk kvs' ((left all gone).take i) [] ∧ Own A.T (adr [(s, .ins A.CT dx (stF room entries wd pl least)), (wd, .lst ((flat all).map V.int)), (pl, .dK kvs)]) H
        [(yl, .lst ((nums (left all gone)).map V.int)), (pn, .dK kvs'), (wn, .lst ((flat ((left all gone).take i)).map V.int)), (s, .ins A.CT dx (stF room entries wd pl least)), (wd, .lst ((flat all).map V.int)), (pl, .dK kvs)] H')
      ⟨none, none, [], rfl, ⟨⟨[], rfl⟩, List.nodup_nil, fun n => by simp [valV_nil, off]⟩, W3⟩ (fun i σ H' _ ⟨_, _, _, _, _, W4⟩ => SqL.of (W4.get 0 rfl)) ?_ ?_⟩
    · rintro i y σ H4 hi ⟨v3, v4, kvs', rfl, hP4, W4⟩
      rw [List.getElem?_map] at hi
      obtain ⟨o, ho, rfl⟩ : ∃ o, (left all gone)[i]? = some o ∧ y = V.int o.num := by
        cases e : (left all gone)[i]? with
        | none => unfold nums at hi; rw [List.getElem?_map, e] at hi; cases hi
        | some o => unfold nums at hi; rw [List.getElem?_map, e] at hi; exact ⟨o, rfl, (Option.some.inj hi).symm⟩
      have hol : o ∈ left all gone := List.mem_of_getElem? ho
      have hoa : o ∈ all ∧ o.num ∉ gone := by unfold left at hol; simpa using hol
      have hob := ob_of_mem hO.nd hoa.1
      obtain ⟨q, hq⟩ := off_of_ob hob
      have hb := off_bound hob hq
      have hll : tot ((left all gone).take (i + 1)) ≤ 1000 := by
        have e : tot (left all gone) ≤ 1000 := hOl.totle
        have := congrArg tot (List.take_append_drop (i + 1) (left all gone))
        rw [tot_append] at this
        omega
      have et : (left all gone).take (i + 1) = (left all gone).take i ++ [o] := take_snoc ho
      have e4 : tot ((left all gone).take (i + 1)) = tot ((left all gone).take i) + o.len := by
        rw [et, tot_append]; rfl
      have hnt : o.num ∉ nums ((left all gone).take i) := by
        have nd2 : (nums ((left all gone).take (i + 1))).Nodup := hOl.nd.sublist ((List.take_sublist _ _).map _)
        rw [et, nums_append] at nd2
        obtain ⟨_, _, d⟩ := List.nodup_append.mp nd2
        exact fun z => d _ z o.num (by simp [nums]) rfl
      have l0 : kvs'.length < sizeLine := by
        refine line1000 ?_
        have nd2 : (nums ((left all gone).take i)).Nodup := hOl.nd.sublist ((List.take_sublist _ _).map _)
        have := hP4.len nd2
        have := length_tot ((left all gone).take i)
        omega
      -- place = old[number]; places[number] = len(words)
      refine ⟨_, rfl, _, rfl, pl, _, rfl, hP.sm hq hoa.2 ▸ DGet.k (k := Sum.inl o.num) (W4.get 5 rfl), ?_⟩
      refine ⟨_, rfl, wn, _, rfl, .inl (SqL.of (W4.get 2 rfl)), _, rfl, _, rfl, pn, _, rfl, DPut.k (k := Sum.inl o.num) (W4.get 1 rfl) l0, ?_⟩
      rw [flat_len]
      have W5 := W4.put 1 rfl rfl (b := pn) (o' := .dK (putK kvs' (Sum.inl o.num) (.int (tot ((left all gone).take i) : Int))))
      -- words.extend(..)
      refine ⟨_, rfl, .inl ⟨rfl, _, SqL.of (W5.get 2 rfl)⟩, _, rfl, s, _, dx, _, _, rfl, W5.get 3 rfl, T.clT, T.nT_words, stF_words, _, rfl, _, rfl, _, rfl, _, _, rfl, rfl, _, rfl, s, _, dx, _, _, rfl, W5.get 3 rfl, T.clT, T.nT_words, stF_words, _, rfl, _, _, rfl, rfl, wd, _, _, _, rfl, rfl, SqL.of (W5.get 4 rfl), atI_nat (flat_atI hob hq 1 (by unfold Ob.len; omega) rfl), _, _, rfl, rfl, _, rfl, wd, _, rfl, SqL.of (W5.get 4 rfl), fun tl htl => ?_⟩
      rw [whole_cut hob hq] at *
      have W6 := W5.new (o := .lst (o.words.map V.int)) htl
      refine ⟨wn, tl, _, _, rfl, rfl, W6.get 3 rfl, W6.get 0 rfl, ?_, ?_⟩
      · refine Nat.le_of_lt (line1000 ?_)
        rw [flat_len, List.length_map, Ob.words_length]
        omega
      have W7 := W6.put 3 rfl rfl (b := wn) (o' := .lst ((flat ((left all gone).take i)).map V.int ++ o.words.map V.int))
      have ef : (flat ((left all gone).take i)).map V.int ++ o.words.map V.int = (flat ((left all gone).take (i + 1))).map V.int := by
        rw [et, flat_append, List.map_append]
        show _ = _ ++ (o.words ++ []).map V.int
        rw [List.append_nil]
      rw [ef] at W7 ⊢
      refine ⟨_, _, _, rfl, ?_, W7.sub (List.sublist_cons_self _ _)⟩
      rw [et]
      exact hP4.put_new hnt
    · rintro σ H4 ⟨v3, v4, kvs', rfl, hP4, W4⟩
      rw [List.length_map, nums_length] at hP4 W4
      rw [List.take_length] at hP4 W4
      refine ⟨_, rfl, _, rfl, s, _, dx, _, rfl, W4.get 3 rfl, T.clT, T.nT_words, stF_small, ?_⟩
      rw [stF_pwords]
      have W5 := W4.put 3 rfl rfl (b := s) (o' := .ins A.CT dx (stF room entries wn pl least))
      refine ⟨_, rfl, _, rfl, s, _, dx, _, rfl, W5.get 3 rfl, T.clT, T.nT_places, stF_small, ?_⟩
      rw [stF_pplaces]
      have W6 := W5.put 3 rfl rfl (b := s) (o' := .ins A.CT dx (stF room entries wn pn least))
      refine k _ _ ⟨dx, wn, pn, kvs', least, rfl, hP4, hOl, hL.1, fun m h0 hm => ⟨?_, by simp⟩⟩ (W6.mem_of (fun c hc => ?_) ?_)
      · rw [left_nums]
        exact List.mem_filter.mpr ⟨(hL.2 m h0 hm).1, by simpa using (hL.2 m h0 hm).2⟩
      · simp only [List.mem_cons, List.not_mem_nil, or_false] at hc
        rcases hc with rfl | rfl | rfl <;> simp
      · have := W6.nd
        simp [adr] at this ⊢
        obtain ⟨_, ⟨a1, a2, _⟩, ⟨a3, _⟩, _⟩ := this
        exact ⟨⟨Ne.symm a3, Ne.symm a2⟩, Ne.symm a1⟩
end
end K9
end
section
set_option Elab.async false
set_option linter.all false
set_option maxRecDepth 100000
set_option maxHeartbeats 4000000
/-! is_ref, ref_of, reached. -/
namespace K9
open PySem PySem.Spec PyProof.Rows L2 LamX
/-! ### the search, plain -/
structure RInv (all : List Ob) (ws fs wl : List Int) : Prop where
  nd : fs.Nodup
  sound : ∀ n ∈ fs, Reach all ws n
  cand : ∀ n ∈ wl, n ∈ nums all → Reach all ws n
  rootC : ∀ w ∈ ws, w % 2 = 0 → w / 2 ∈ nums all → w / 2 ∈ fs ∨ w / 2 ∈ wl
  stepC : ∀ n ∈ fs, ∀ o, ob? all n = some o → ∀ w ∈ o.kind :: o.slots, w % 2 = 0 → w / 2 ∈ nums all → w / 2 ∈ fs ∨ w / 2 ∈ wl
def evens (l : List Int) : List Int := (l.filter fun w => decide (w % 2 = 0)).map (· / 2)
theorem mem_evens {l : List Int} {n : Int} : n ∈ evens l ↔ ∃ w ∈ l, w % 2 = 0 ∧ w / 2 = n := by
  unfold evens
  rw [List.mem_map]
  constructor
  · rintro ⟨w, hw, e⟩
    have := List.mem_filter.mp hw
    exact ⟨w, this.1, of_decide_eq_true this.2, e⟩
  · rintro ⟨w, hw, h, e⟩
    exact ⟨w, List.mem_filter.mpr ⟨hw, decide_eq_true h⟩, e⟩
theorem evens_len (l : List Int) : (evens l).length ≤ l.length := by
  unfold evens
  rw [List.length_map]
  exact List.length_filter_le _ _
section
variable {all : List Ob} {ws fs wl : List Int} {n : Int} {o : Ob}
theorem RInv.init : RInv all ws [] (evens ws) :=
  ⟨List.nodup_nil, fun _ h => absurd h List.not_mem_nil, fun n hn hm => by
    obtain ⟨w, hw, e, rfl⟩ := mem_evens.mp hn
    exact .root hw e hm, fun w hw e hm => .inr (mem_evens.mpr ⟨w, hw, e, rfl⟩), fun _ h => absurd h List.not_mem_nil⟩
theorem RInv.skip (h : RInv all ws fs (wl ++ [n])) (hn : n ∈ fs ∨ n ∉ nums all) : RInv all ws fs wl := by
  have key : ∀ m, m ∈ nums all → (m ∈ fs ∨ m ∈ wl ++ [n]) → m ∈ fs ∨ m ∈ wl := fun m hm q => by
    rcases q with q | q
    · exact .inl q
    · rcases List.mem_append.mp q with q | q
      · exact .inr q
      · rw [List.mem_singleton.mp q] at hm ⊢
        exact .inl (hn.resolve_right fun z => z hm)
  exact ⟨h.nd, h.sound, fun m hm => h.cand m (List.mem_append_left _ hm), fun w hw e hm => key _ hm (h.rootC w hw e hm), fun m hm o ho w hw e hx => key _ hx (h.stepC m hm o ho w hw e hx)⟩
def news (fs : List Int) (l : List Int) : List Int := (l.filter fun w => decide (w % 2 = 0) && decide (w / 2 ∉ fs)).map (· / 2)
theorem RInv.add (h : RInv all ws fs (wl ++ [n])) (hn : n ∉ fs) (ho : ob? all n = some o) : RInv all ws (fs ++ [n]) (wl ++ news (fs ++ [n]) (o.kind :: o.slots)) := by
  have hm := mem_nums_of_ob ho
  have rn : Reach all ws n := h.cand n (by simp) hm
  have keep : ∀ m, (m ∈ fs ∨ m ∈ wl ++ [n]) → m ∈ fs ++ [n] ∨ m ∈ wl ++ news (fs ++ [n]) (o.kind :: o.slots) := fun m q => by
    rcases q with q | q
    · exact .inl (List.mem_append_left _ q)
    · rcases List.mem_append.mp q with q | q
      · exact .inr (List.mem_append_left _ q)
      · exact .inl (List.mem_append_right _ q)
  refine ⟨nd_snoc h.nd hn, fun m hm' => ?_, fun m hm' hx => ?_, fun w hw e hx => keep _ (h.rootC w hw e hx), fun m hm' o' ho' w hw e hx => ?_⟩
  · rcases List.mem_append.mp hm' with q | q
    · exact h.sound m q
    · rw [List.mem_singleton.mp q]; exact rn
  · rcases List.mem_append.mp hm' with q | q
    · exact h.cand m (List.mem_append_left _ q) hx
    · obtain ⟨w, hw, rfl⟩ := List.mem_map.mp q
      have := List.mem_filter.mp hw
      have e : w % 2 = 0 := by have := this.2; simp at this; exact this.1
      exact .step rn ho this.1 e hx
  · rcases List.mem_append.mp hm' with q | q
    · exact keep _ (h.stepC m q o' ho' w hw e hx)
    · rw [List.mem_singleton.mp q, ho] at ho'
      cases ho'
      by_cases z : w / 2 ∈ fs ++ [n]
      · exact .inl z
      · exact .inr (List.mem_append_right _ (List.mem_map.mpr ⟨w, List.mem_filter.mpr ⟨hw, by simp only [e, decide_true, Bool.true_and]; exact decide_eq_true z⟩, rfl⟩))
theorem RInv.done (h : RInv all ws fs []) (n : Int) : n ∈ fs ↔ Reach all ws n := by
  refine ⟨h.sound n, fun r => ?_⟩
  induction r with
  | root hw e hm => exact (h.rootC _ hw e hm).resolve_right List.not_mem_nil
  | step r ho hw e hm ih => exact (h.stepC _ ih _ ho _ hw e hm).resolve_right List.not_mem_nil
theorem left_more (hnd : (nums all).Nodup) (ho : ob? all n = some o) (hn : n ∉ fs) : tot (left all (fs ++ [n])) + o.len = tot (left all fs) := by
  obtain ⟨a, b, rfl, _, ha⟩ := ob_split ho
  have e : o.num = n := ob_num ho
  rw [nums_append] at hnd
  obtain ⟨_, h2, _⟩ := List.nodup_append.mp hnd
  have hb : n ∉ nums b := by rw [← e]; exact (List.nodup_cons.mp (show (o.num :: nums b).Nodup from h2)).1
  have same : ∀ l : List Ob, n ∉ nums l → left l (fs ++ [n]) = left l fs := fun l hl => by
    unfold left
    refine List.filter_congr fun q hq => ?_
    have : q.num ≠ n := fun z => hl (by rw [← z]; exact List.mem_map.mpr ⟨q, hq, rfl⟩)
    simp [this]
  have app : ∀ (l : List Int), left (a ++ o :: b) l = left a l ++ left (o :: b) l := fun l => by unfold left; exact List.filter_append ..
  have c1 : left (o :: b) (fs ++ [n]) = left b (fs ++ [n]) := by unfold left; exact List.filter_cons_of_neg (by simp [e])
  have c2 : left (o :: b) fs = o :: left b fs := by unfold left; exact List.filter_cons_of_pos (by simp [e, hn])
  rw [app, app, c1, c2, same a ha, same b hb, tot_append, tot_append]
  show tot (left a fs) + tot (left b fs) + o.len = tot (left a fs) + (o.len + tot (left b fs))
  omega
theorem news_len (fs l : List Int) : (news fs l).length ≤ l.length := by
  unfold news
  rw [List.length_map]
  exact List.length_filter_le _ _
end
/-! ### the defs -/
theorem while_m {c : TT} {tb : TS} {D : Ends} {σ : L2.St} {H : Hp} (Pv : Nat → L2.St → Hp → Prop) (m0 : Nat) (h0 : Pv m0 σ H)
    (hs : ∀ m σ H, Pv m σ H → c σ H fun b H1 => if b = true then ∃ N : L2.St → Hp → Prop, (∀ σ' H', N σ' H' → ∃ m', m' < m ∧ Pv m' σ' H') ∧ tb { D with nx := N, ct := N, bk := D.nx } σ H1 else D.nx σ H1) : tWhile c tb D σ H := ⟨Pv, ⟨m0, h0⟩, hs⟩
section
variable {P : Program} {w : World} {K : PySem.W.Frag} {mg : Str → Option Value} {base : Heap} {A : Ads}
def spIsRef : Sp := fun vs H Q _ => ∃ x : Int, vs = [.int x] ∧ Q (.bl (decide (x % 2 = 0))) H
theorem dec_int (a b : Int) : decide (V.int a = V.int b) = decide (a = b) := by simp
theorem ok_is_ref (T : Txt P K mg A) : OkW P w K mg base 1 A.is_ref spIsRef := by
  refine okW T.f_is_ref sc_is_ref bh_is_ref (fun vs H Q E h => ?_) (fun cdv Ar outer s H vs Q E c pn hr hw h => ?_)
  · obtain ⟨_, rfl, _⟩ := h
    rfl
  · obtain ⟨x, rfl, k⟩ := h
    refine ⟨_, pss_one (ps_ret (pe_cmpR op_eq (pe_op op_mod (pv 0) pe_int) pe_int (nomark _))), ?_⟩
    refine ⟨_, rfl, _, _, rfl, rfl, (by show (0 : Int) < 2; decide), rfl, ?_⟩
    rw [dec_int]
    exact k
def spRefOf : Sp := fun vs H Q _ => ∃ x : Int, vs = [.int x] ∧ x % 2 = 0 ∧ Q (.int (x / 2)) H
theorem ok_ref_of (T : Txt P K mg A) : OkW P w K mg base 2 A.ref_of spRefOf := by
  refine okW T.f_ref_of sc_ref_of bh_ref_of (fun vs H Q E h => ?_) (fun cdv Ar outer s H vs Q E c pn hr hw h => ?_)
  · obtain ⟨_, rfl, _⟩ := h
    rfl
  · obtain ⟨x, rfl, e, k⟩ := h
    refine ⟨_, pss_cons (ps_if (pt_not (pt_val (pe_run ((ok_is_ref T).runs hr hw) T.g_is_ref T.k_is_ref (pa_cons (pv 0) pa_nil)))) (pss_one ps_never) pss_nil) (pss_one (ps_ret (pe_op op_fdiv (pv 0) pe_int))), ?_⟩
    refine ⟨_, rfl, x, rfl, _, rfl, ?_⟩
    refine itF (by simp [e]) ?_
    exact ⟨_, rfl, _, _, rfl, rfl, ⟨by decide, by decide⟩, k⟩
end
end K9
end
section
set_option Elab.async false
set_option linter.all false
set_option maxRecDepth 100000
set_option maxHeartbeats 4000000
/-! reached. -/
namespace K9
open PySem PySem.Spec PyProof.Rows L2 LamX
theorem StR.plain {CT s : Addr} {room entries : Int} {all : List Ob} {gone : List Int} {cs : List Cell} (h : StR CT s room entries all gone cs) : ∀ c ∈ cs, Plain c.2 := by
  obtain ⟨dx, wd, pl, kvs, least, rfl, _⟩ := h
  intro c hc
  simp only [List.mem_cons, List.not_mem_nil, or_false] at hc
  rcases hc with rfl | rfl | rfl <;> trivial
theorem Has.keep {T : List (Addr × Str)} {cs ds : List Cell} {H H' : Hp} (h : Has cs H) (hp : ∀ c ∈ cs, Plain c.2) (W : Own T [] H ds H') : Has cs H' := fun c hc => W.fr _ _ (h c hc) List.not_mem_nil (hp c hc).tbl
/-- the reached numbers, as a dict's keys -/
structure FoundOk (kvs : List (Key × V)) (all : List Ob) (ws fs : List Int) : Prop where
  keys : kvs.map (·.1) = fs.map Sum.inl
  nd : fs.Nodup
  mem : ∀ n, n ∈ fs ↔ Reach all ws n
theorem keys_isSome {kvs : List (Key × V)} {fs : List Int} (h : kvs.map (·.1) = fs.map Sum.inl) (n : Int) : (valV kvs (Sum.inl n)).isSome = decide (n ∈ fs) := by
  by_cases hn : n ∈ fs
  · rw [decide_eq_true hn]
    exact valV_mem (by rw [h]; exact List.mem_map.mpr ⟨n, hn, rfl⟩)
  · rw [decide_eq_false hn]
    cases q : valV kvs (Sum.inl n) with
    | none => rfl
    | some v =>
      have := valV_in q
      rw [h] at this
      obtain ⟨m, hm, e⟩ := List.mem_map.mp this
      cases e
      exact (hn hm).elim
theorem keys_snoc {kvs : List (Key × V)} {fs : List Int} (h : kvs.map (·.1) = fs.map Sum.inl) {n : Int} (hn : n ∉ fs) (v : V) : (putK kvs (Sum.inl n) v).map (·.1) = (fs ++ [n]).map Sum.inl := by
  have q : valV kvs (Sum.inl n) = none := by
    have := keys_isSome h n
    rw [decide_eq_false hn] at this
    cases e : valV kvs (Sum.inl n) with
    | none => rfl
    | some v => rw [e] at this; cases this
  rw [putK_new v q, List.map_append, h, List.map_append]; rfl
theorem keys_len {kvs : List (Key × V)} {fs : List Int} (h : kvs.map (·.1) = fs.map Sum.inl) : kvs.length = fs.length := by
  have := congrArg List.length h
  rwa [List.length_map, List.length_map] at this
section
variable {P : Program} {w : World} {K : PySem.W.Frag} {mg : Str → Option Value} {base : Heap} {A : Ads}
def spReached (A : Ads) : Sp := fun vs H Q _ => ∃ (s r : Addr) (room entries : Int) (all : List Ob) (cs : List Cell) (ws : List Int), vs = [.ref s, .ref r] ∧ StR A.CT s room entries all [] cs ∧ Has cs H ∧ H r = some (.lst (ws.map V.int)) ∧ ws.length ≤ 2000 ∧ Tabs A.T H ∧
  ∀ (H' : Hp) (p : Addr) (kvs : List (Key × V)) (fs : List Int), FoundOk kvs all ws fs → Own A.T [] H [(p, .dK kvs)] H' → Q (.ref p) H'
theorem ok_reached (T : Txt P K mg A) : OkW P w K mg base 4 A.reached (spReached A) := by
  refine okW T.f_reached sc_reached bh_reached (fun vs H Q E h => ?_) (fun cdv Ar outer s0 H vs Q E c pn hr hw h => ?_)
  · obtain ⟨_, _, _, _, _, _, _, rfl, _⟩ := h
    rfl
  · obtain ⟨s, r, room, entries, all, cs, ws, rfl, hS, hh, hR, hwl, ht, k⟩ := h
    have hu := huH hr
    obtain ⟨dx, wd, pl, kvs0, least, ecs, hP, hO, hL, _, _, _⟩ := hS.open hh
    have nd := sc_reached.nd
    have hr2 := hr.mono (j := 2) (by decide)
    have hr1 := hr.mono (j := 1) (by decide)
    refine ⟨_, pss_cons (ps_set (i := 2) nd rfl (.inl rfl) pe_dnewK)
      (pss_cons (ps_setLcW (i := 4) (own := [("word", 3)]) (g := gName 3) hw nd rfl rfl (sw_true rfl rfl rfl (by decide +kernel)) (pi_listW (pv 1)) (blkOk_by (N := ["store", "roots", "found", "word", "waiting", "number"]) (sc := defScope st_reached) (by decide +kernel)) (fun _ _ _ _ _ => pg_name (i := 3) nd rfl (.inl rfl))
        (fun _ _ _ _ _ => pts_one (pt_val (pe_run ((ok_is_ref T).runs hr1 (blkW_warm hw)) T.g_is_ref T.k_is_ref (pa_cons (pv 3) pa_nil))))
        (fun _ _ _ _ _ => pe_run ((ok_ref_of T).runs hr2 (blkW_warm hw)) T.g_ref_of T.k_ref_of (pa_cons (pv 3) pa_nil)))
      (pss_cons (ps_while PassesOwn.never (pt_truth (pv 4) (by intro _; rfl))
        (pss_cons (ps_set (i := 5) nd rfl (.inl rfl) (pe_bm0 PySem.F.plainAttrs_list PySem.F.slot_list_pop PySem.F.type_list_pop mt_pop (pv 4)))
        (pss_one (ps_if (PW.pt (pw_and (pt_cmp (pc_dnotin hu (pv 5) (pv 2))) (pw_and1 (pt_val (pe_mrun (pv 0) T.clT T.m_s_exists ((ok_s_exists T).runs hr1 hw) (pa_cons (pv 5) pa_nil))))))
          (pss_cons (ps_dput hu (pv 2) (pv 5) pe_bl rfl)
          (pss_one (ps_forW PassesOwn.never hw (pi_listW (pe_op op_cat (pe_lst (pa_cons (pe_mrun (pv 0) T.clT T.m_s_kind ((ok_s_kind T).runs hr1 hw) (pa_cons (pv 5) pa_nil)) pa_nil)) (pe_mrun (pv 0) T.clT T.m_s_slots ((ok_s_slots T).runs hr2 hw) (pa_cons (pv 5) pa_nil)))) (pg_name (i := 3) nd rfl (.inl rfl))
            (pss_one (ps_if (PW.pt (pw_and (pt_val (pe_run ((ok_is_ref T).runs hr1 hw) T.g_is_ref T.k_is_ref (pa_cons (pv 3) pa_nil))) (pw_and1 (pt_cmp (pc_dnotin hu (pe_run ((ok_ref_of T).runs hr2 hw) T.g_ref_of T.k_ref_of (pa_cons (pv 3) pa_nil)) (pv 2))))))
              (pss_one (ps_expr (pe_bm PySem.F.plainAttrs_list PySem.F.slot_list_append PySem.F.type_list_append mt_append (pv 4) (pa_cons (pe_run ((ok_ref_of T).runs hr2 hw) T.g_ref_of T.k_ref_of (pa_cons (pv 3) pa_nil)) pa_nil))))
              pss_nil)))))
          pss_nil))))
      (pss_one (ps_ret (pv 2))))), ?_⟩
    intro fd hfd
    have W1 := (Own.nil ht).new (o := .dK []) hfd
    have e1 : upd H fd (.dK []) r = some (.lst (ws.map V.int)) := W1.fr _ _ hR List.not_mem_nil (fun _ z => by cases z)
    refine ⟨_, rfl, r, rfl, ⟨_, SqL.of e1⟩, fun D hD => ?_⟩
    have W2 := W1.new (o := .lst []) hD
    refine lc_list (K := K) (a := r) (xs := ws.map V.int) (fun i H' => Own A.T [] H [(D, .lst ((evens (ws.take i)).map V.int)), (fd, .dK [])] H') W2 (fun i H' _ W3 => SqL.of (W3.fr _ _ hR List.not_mem_nil (fun _ z => by cases z))) ?_ ?_
    · intro i y H3 hi W3
      rw [List.getElem?_map] at hi
      obtain ⟨x, hx, rfl⟩ : ∃ x, ws[i]? = some x ∧ y = V.int x := by
        cases e : ws[i]? with
        | none => rw [e] at hi; cases hi
        | some x => rw [e] at hi; exact ⟨x, rfl, (Option.some.inj hi).symm⟩
      have et : ws.take (i + 1) = ws.take i ++ [x] := take_snoc hx
      have ee : evens (ws.take (i + 1)) = evens (ws.take i) ++ evens [x] := by rw [et]; unfold evens; rw [List.filter_append, List.map_append]
      refine ⟨rfl, _, rfl, x, rfl, _, rfl, ?_⟩
      refine ite2 (fun hc => ?_) (fun hc => ?_)
      · have hc : x % 2 = 0 := of_decide_eq_true hc
        refine ⟨_, rfl, x, rfl, hc, _, W3.get 0 rfl, ?_, ?_⟩
        · refine line1000 ?_
          rw [List.length_map]
          have := evens_len (ws.take i)
          rw [List.length_take] at this
          omega
        · have W4 := W3.put 0 rfl rfl (b := D) (o' := .lst ((evens (ws.take i)).map V.int ++ [.int (x / 2)]))
          have e5 : (evens (ws.take i)).map V.int ++ [.int (x / 2)] = (evens (ws.take (i + 1))).map V.int := by
            rw [ee, List.map_append]
            unfold evens
            simp [hc]
          rw [e5] at W4 ⊢
          exact W4
      · have hc : ¬ x % 2 = 0 := fun z => hc (decide_eq_true z)
        have e5 : evens (ws.take (i + 1)) = evens (ws.take i) := by
          rw [ee]
          unfold evens
          simp [hc]
        rw [e5]
        exact W3
    intro H3 W3
    rw [List.length_map, List.take_length] at W3
    -- while waiting
    dsimp only [gName]
    refine while_m (fun m σ H' => ∃ (v3 v5 : Option V) (kvs : List (Key × V)) (fs wl : List Int), σ = [some (.ref s), some (.ref r), some (.ref fd), v3, some (.ref D), v5] ∧ kvs.map (·.1) = fs.map Sum.inl ∧ RInv all ws fs wl ∧ m = wl.length + tot (left all fs) ∧
      wl.length + tot (left all fs) ≤ ws.length + tot all ∧ Own A.T [] H [(D, .lst (wl.map V.int)), (fd, .dK kvs)] H') (((evens ws).length + tot (left all []))) ⟨none, none, [], [], evens ws, rfl, rfl, RInv.init, rfl, by rw [left_nil]; have := evens_len ws; omega, W3⟩ ?_
    rintro m σ H4 ⟨v3, v5, kvs, fs, wl, rfl, hk, hI, rfl, hB, W4⟩
    have hh4 := hh.keep hS.plain W4
    have hsz := hO.totle
    refine ⟨_, rfl, !(wl.map V.int).isEmpty, .inl ⟨_, SqL.of (W4.get 0 rfl), rfl⟩, ?_⟩
    refine ite2 (fun hne => ?_) (fun hne => ?_)
    · obtain ⟨wl', n, rfl⟩ : ∃ wl' n, wl = wl' ++ [n] := by
        have hne : wl ≠ [] := fun z => by rw [z] at hne; simp at hne
        exact ⟨wl.dropLast, wl.getLast hne, (List.dropLast_concat_getLast hne).symm⟩
      refine ⟨fun σ' H' => ∃ m', m' < (wl' ++ [n]).length + tot (left all fs) ∧ _, fun σ' H' z => z, ?_⟩
      rw [List.map_append] at W4
      refine ⟨_, rfl, .inl ⟨rfl, _, SqL.of (W4.get 0 rfl)⟩, D, _, V.int n, rfl, rfl, W4.get 0 rfl, by simp, ?_⟩
      have W5 := W4.put 0 rfl rfl (b := D) (o' := .lst (wl'.map V.int))
      have ed : (List.map V.int wl' ++ List.map V.int [n]).dropLast = wl'.map V.int := by simp
      rw [ed]
      refine ⟨_, rfl, _, rfl, fd, _, rfl, DGet.k (k := Sum.inl n) (W5.get 1 rfl), _, rfl, ?_⟩
      rw [keys_isSome hk]
      have hB' : wl'.length + 1 + tot (left all fs) ≤ ws.length + tot all := by rw [List.length_append] at hB; exact hB
      have hS1 := hS
      rw [ecs] at hS1
      obtain ⟨_, _, _, _, _, ecs', _, _, _, h1, _, _⟩ := hS.open (hh.keep hS.plain W5)
      by_cases hn : n ∈ fs
      · refine itF (by simp [hn]) ?_
        refine itF rfl ?_
        exact ⟨wl'.length + tot (left all fs), by rw [List.length_append]; simp, v3, _, kvs, fs, wl', rfl, hk, hI.skip (.inl hn), rfl, by omega, W5⟩
      refine itT (by simp [hn]) ?_
      refine ⟨_, rfl, s, _, _, rfl, h1, stF_none (by decide +kernel), _, rfl, s, n, room, entries, all, cs, rfl, hS, hh.keep hS.plain W5, _, rfl, ?_⟩
      by_cases hm : n ∈ nums all
      rotate_left
      · refine itF (by simp [hm]) ?_
        exact ⟨wl'.length + tot (left all fs), by rw [List.length_append]; simp, v3, _, kvs, fs, wl', rfl, hk, hI.skip (.inr hm), rfl, by omega, W5⟩
      refine itT (by simp [hm]) ?_
      obtain ⟨o, ho⟩ := ob_of_nums hm
      have hfl : fs.length ≤ all.length := by rw [← nums_length all]; exact nodup_sub hI.nd hO.nd fun x hx => (hI.sound x hx).mem
      have hal := hO.lenle
      have hlm := left_more hO.nd ho hn
      -- found[number] = True
      refine ⟨_, rfl, _, rfl, fd, _, rfl, DPut.k (k := Sum.inl n) (W5.get 1 rfl) (line1000 (by rw [keys_len hk]; omega)), ?_⟩
      have W6 := W5.put 1 rfl rfl (b := fd) (o' := .dK (putK kvs (Sum.inl n) (.bl true)))
      have hk6 := keys_snoc hk hn (.bl true)
      -- [store.kind(number)] + store.slots(number)
      obtain ⟨_, _, _, _, _, _, _, _, _, h6, _, _⟩ := hS.open (hh.keep hS.plain W6)
      refine ⟨_, rfl, s, _, _, rfl, h6, stF_none (by decide +kernel), _, rfl, s, n, room, entries, all, cs, o, rfl, hS, hh.keep hS.plain W6, ho, (by show 1 ≤ sizeLine; rw [sizeLine_eq]; decide), fun l1 hl1 => ?_⟩
      have W7 := W6.new (o := .lst [.int o.kind]) hl1
      obtain ⟨_, _, _, _, _, _, _, _, _, h7, _, _⟩ := hS.open (hh.keep hS.plain W7)
      refine ⟨_, rfl, s, _, _, rfl, h7, stF_none (by decide +kernel), _, rfl, s, n, room, entries, all, cs, o, rfl, hS, hh.keep hS.plain W7, W7.tb, ho, fun H8 l2 R8 => ?_⟩
      have W8 := W7.call0 R8
      have hosz : o.slots.length ≤ 1000 := by
        obtain ⟨q, hq⟩ := off_of_ob ho
        have := off_bound ho hq
        unfold Ob.len at this
        omega
      refine ⟨l1, l2, _, _, rfl, rfl, W8.get 1 rfl, W8.get 0 rfl, ?_, fun l3 hl3 => ?_⟩
      · refine Nat.le_of_lt (line1000 ?_)
        rw [List.length_map]
        show 1 + o.slots.length ≤ 5000
        omega
      have W9 := W8.new (o := .lst ((o.kind :: o.slots).map V.int)) hl3
      refine ⟨l3, rfl, ⟨_, SqL.of (W9.get 0 rfl)⟩, for_list (K := K) (a := l3) (xs := (o.kind :: o.slots).map V.int) (fun i σ H' => ∃ v3 : Option V, σ = [some (.ref s), some (.ref r), some (.ref fd), v3, some (.ref D), some (.int n)] ∧
        Own A.T [] H [(l3, .lst ((o.kind :: o.slots).map V.int)), (D, .lst ((wl' ++ news (fs ++ [n]) ((o.kind :: o.slots).take i)).map V.int)), (fd, .dK (putK kvs (Sum.inl n) (.bl true)))] H') ⟨v3, rfl, ?_⟩ (fun i σ H' _ ⟨_, _, Wx⟩ => SqL.of (Wx.get 0 rfl)) ?_ ?_⟩
      · have e0 : wl' ++ news (fs ++ [n]) ((o.kind :: o.slots).take 0) = wl' := by simp [news]
        rw [e0]
        refine W9.sub ?_
        exact (((List.Sublist.refl _).cons _).cons _).cons_cons _
      · rintro i y σ Hx hi ⟨v3, rfl, Wx⟩
        rw [List.getElem?_map] at hi
        obtain ⟨x, hx, rfl⟩ : ∃ x, (o.kind :: o.slots)[i]? = some x ∧ y = V.int x := by
          cases e : (o.kind :: o.slots)[i]? with
          | none => rw [e] at hi; cases hi
          | some x => rw [e] at hi; exact ⟨x, rfl, (Option.some.inj hi).symm⟩
        have et : (o.kind :: o.slots).take (i + 1) = (o.kind :: o.slots).take i ++ [x] := take_snoc hx
        have en : news (fs ++ [n]) ((o.kind :: o.slots).take (i + 1)) = news (fs ++ [n]) ((o.kind :: o.slots).take i) ++ news (fs ++ [n]) [x] := by rw [et]; unfold news; rw [List.filter_append, List.map_append]
        have hnl : (news (fs ++ [n]) ((o.kind :: o.slots).take i)).length ≤ 1 + o.slots.length := by
          have h1 := news_len (fs ++ [n]) ((o.kind :: o.slots).take i)
          have h2 := List.length_take_le i (o.kind :: o.slots)
          rw [List.length_take] at h1
          rw [List.length_cons] at h1
          omega
        refine ⟨_, rfl, x, rfl, _, rfl, ?_⟩
        by_cases hx2 : x % 2 = 0
        rotate_left
        · refine itF (decide_eq_false hx2) ?_
          refine itF rfl ?_
          refine ⟨_, rfl, ?_⟩
          have e5 : news (fs ++ [n]) [x] = [] := by simp [news, hx2]
          rw [en, e5, List.append_nil]
          exact Wx
        refine itT (decide_eq_true hx2) ?_
        refine ⟨_, rfl, x, rfl, hx2, _, rfl, fd, _, rfl, DGet.k (k := Sum.inl (x / 2)) (Wx.get 2 rfl), _, rfl, ?_⟩
        rw [keys_isSome hk6]
        by_cases hm2 : x / 2 ∈ fs ++ [n]
        · refine itF (by rw [decide_eq_true hm2]; rfl) ?_
          refine ⟨_, rfl, ?_⟩
          have e5 : news (fs ++ [n]) [x] = [] := by
            unfold news
            rw [List.filter_cons_of_neg (by rw [decide_eq_true hx2, decide_eq_false (fun z => z hm2)]; simp)]
            rfl
          rw [en, e5, List.append_nil]
          exact Wx
        refine itT (by rw [decide_eq_false hm2]; rfl) ?_
        refine ⟨_, rfl, .inl ⟨rfl, _, SqL.of (Wx.get 1 rfl)⟩, _, rfl, x, rfl, hx2, D, _, _, rfl, rfl, Wx.get 1 rfl, ?_, ?_⟩
        · refine line1000 ?_
          rw [List.length_map, List.length_append]
          omega
        have Wy := Wx.put 1 rfl rfl (b := D) (o' := .lst ((wl' ++ news (fs ++ [n]) ((o.kind :: o.slots).take i)).map V.int ++ [.int (x / 2)]))
        have e5 : news (fs ++ [n]) [x] = [x / 2] := by
          unfold news
          rw [List.filter_cons_of_pos (by rw [decide_eq_true hx2, decide_eq_true hm2]; rfl)]
          rfl
        have e6 : (wl' ++ news (fs ++ [n]) ((o.kind :: o.slots).take i)).map V.int ++ [.int (x / 2)] = (wl' ++ news (fs ++ [n]) ((o.kind :: o.slots).take (i + 1))).map V.int := by
          rw [en, e5, ← List.append_assoc, List.map_append (l₂ := [x / 2])]
          rfl
        rw [e6] at Wy ⊢
        exact ⟨_, rfl, Wy⟩
      · rintro σ Hx ⟨v3, rfl, Wx⟩
        rw [List.length_map, List.take_length] at Wx
        have hnl := news_len (fs ++ [n]) (o.kind :: o.slots)
        rw [List.length_cons] at hnl
        unfold Ob.len at hlm
        refine ⟨(wl' ++ news (fs ++ [n]) (o.kind :: o.slots)).length + tot (left all (fs ++ [n])), ?_, v3, _, _, fs ++ [n], _, rfl, hk6, hI.add hn ho, rfl, ?_, Wx.sub (List.sublist_cons_self _ _)⟩
        · rw [List.length_append, List.length_append, List.length_singleton]
          omega
        · rw [List.length_append]
          omega
    · have hne : wl = [] := by
        cases wl with
        | nil => rfl
        | cons a b => simp at hne
      subst hne
      refine ⟨_, rfl, ?_⟩
      exact k _ fd kvs fs ⟨hk, hI.nd, hI.done⟩ (W4.sub (List.sublist_cons_self _ _))
end
end K9
end
section
set_option Elab.async false
set_option linter.all false
set_option maxRecDepth 100000
set_option maxHeartbeats 4000000
/-! collect, words_of. -/
namespace K9
open PySem PySem.Spec PyProof.Rows L2 LamX
theorem left_kept {all : List Ob} {ws gone : List Int} (h : ∀ n, n ∈ nums all → (n ∈ gone ↔ ¬ Reach all ws n)) : left all gone = kept all ws := by
  classical
  unfold left kept
  refine List.filter_congr fun o ho => ?_
  have hm : o.num ∈ nums all := List.mem_map.mpr ⟨o, ho, rfl⟩
  have := h o.num hm
  by_cases r : Reach all ws o.num
  · have : o.num ∉ gone := fun z => (this.mp z) r
    simp [r, this]
  · have : o.num ∈ gone := this.mpr r
    simp [r, this]
def goneOf (ys fs : List Int) : List Int := ys.filter fun n => decide (n ∉ fs)
section
variable {P : Program} {w : World} {K : PySem.W.Frag} {mg : Str → Option Value} {base : Heap} {A : Ads}
def spCollect (A : Ads) : Sp := fun vs H Q _ => ∃ (s r : Addr) (room entries : Int) (all : List Ob) (cs : List Cell) (ws : List Int), vs = [.ref s, .ref r] ∧ StR A.CT s room entries all [] cs ∧ Own A.T (adr cs) H cs H ∧ H r = some (.lst (ws.map V.int)) ∧ ws.length ≤ 2000 ∧
  ∀ (m : Int) (H' : Hp) (cs' : List Cell), StR A.CT s room entries (kept all ws) [] cs' → Own A.T (adr cs) H cs' H' → Q (.int m) H'
theorem ok_collect (T : Txt P K mg A) (TB : TabB base mg A.cc A.tb) : OkW P w K mg base 5 A.collect (spCollect A) := by
  refine okW T.f_collect sc_collect bh_collect (fun vs H Q E h => ?_) (fun cdv Ar outer s0 H vs Q E c pn hr hw h => ?_)
  · obtain ⟨_, _, _, _, _, _, _, rfl, _⟩ := h
    rfl
  · obtain ⟨s, r, room, entries, all, cs, ws, rfl, hS, W, hR, hwl, k⟩ := h
    have hu := huH hr
    obtain ⟨_, _, _, _, _, _, hP, hO, hL, h1, _, _⟩ := hS.open W.has
    have nd := sc_collect.nd
    have hr1 := hr.mono (j := 1) (by decide)
    have hsz := hO.totle
    refine ⟨_, pss_cons (ps_set (i := 2) nd rfl (.inr rfl) (pe_run ((ok_reached T).runs hr hw) T.g_reached T.k_reached (pa_cons (pv 0) (pa_cons (pv 1) pa_nil))))
      (pss_cons (ps_setLcW (i := 4) (own := [("number", 3)]) (g := gName 3) hw nd rfl rfl (sw_true rfl rfl rfl (by decide +kernel)) (pi_listW (pe_mrun0 (pv 0) T.clT T.m_s_numbers ((ok_s_numbers T).runs hr1 hw))) (blkOk_by (N := ["store", "roots", "found", "number", "gone"]) (sc := defScope st_collect) (by decide +kernel)) (fun _ _ _ _ _ => pg_name (i := 3) nd rfl (.inl rfl))
        (fun _ _ _ _ _ => pts_one (pt_cmp (pc_dnotin hu (pv 3) (pv 2))))
        (fun _ _ _ _ _ => pv 3))
      (pss_cons (ps_forW PassesOwn.never hw (pi_listW (pv 4)) (pg_name (i := 3) nd rfl (.inl rfl)) (pss_one (ps_expr (pe_mrun (pv 0) T.clT T.m_s_drop ((ok_s_drop T).runs hr1 hw) (pa_cons (pv 3) pa_nil)))))
      (pss_cons (ps_expr (pe_mrun0 (pv 0) T.clT T.m_s_close ((ok_s_close T TB).runs hr hw)))
      (pss_one (ps_ret (pe_callB call_len_seq (by rfl) T.b_len PySem.boot_len (pa_cons (pv 4) pa_nil))))))), ?_⟩
    refine ⟨_, rfl, _, rfl, s, r, room, entries, all, cs, ws, rfl, hS, W.has, hR, hwl, W.tb, fun H1 fd kvs fs hF R1 => ?_⟩
    have W1 := W.call0 R1
    obtain ⟨_, _, _, _, _, _, _, _, _, h2, _, _⟩ := hS.open (W1.sub (List.sublist_cons_self _ _)).has
    refine ⟨_, rfl, s, _, _, rfl, h2, stF_none (by decide +kernel), s, room, entries, all, cs, rfl, hS, (W1.sub (List.sublist_cons_self _ _)).has, W1.tb, fun H2 yl ys hp hs R2 => ?_⟩
    have W2 := W1.call0 R2
    have hyl : ys.length ≤ 1000 := by rw [hp.length_eq, nums_length]; exact hO.lenle
    refine ⟨yl, rfl, ⟨_, SqL.of (W2.get 0 rfl)⟩, fun D hD => ?_⟩
    have W3 := W2.new (o := .lst []) hD
    refine lc_list (K := K) (a := yl) (xs := ys.map V.int) (fun i H' => Own A.T (adr cs) H ([(D, .lst ((goneOf (ys.take i) fs).map V.int)), (yl, .lst (ys.map V.int)), (fd, .dK kvs)] ++ cs) H') W3 (fun i H' _ W3 => SqL.of (W3.get 1 rfl)) ?_ ?_
    · intro i y H3 hi W3
      rw [List.getElem?_map] at hi
      obtain ⟨x, hx, rfl⟩ : ∃ x, ys[i]? = some x ∧ y = V.int x := by
        cases e : ys[i]? with
        | none => rw [e] at hi; cases hi
        | some x => rw [e] at hi; exact ⟨x, rfl, (Option.some.inj hi).symm⟩
      have et : ys.take (i + 1) = ys.take i ++ [x] := take_snoc hx
      have ee : goneOf (ys.take (i + 1)) fs = goneOf (ys.take i) fs ++ goneOf [x] fs := by rw [et]; unfold goneOf; rw [List.filter_append]
      refine ⟨rfl, _, rfl, _, rfl, fd, _, rfl, DGet.k (k := Sum.inl x) (W3.get 2 rfl), _, rfl, ?_⟩
      rw [keys_isSome hF.keys]
      by_cases hx2 : x ∈ fs
      · refine itF (by simp [hx2]) ?_
        have e5 : goneOf [x] fs = [] := by unfold goneOf; rw [List.filter_cons_of_neg (by simp [hx2])]; rfl
        rw [ee, e5, List.append_nil]
        exact W3
      · refine itT (by simp [hx2]) ?_
        refine ⟨_, rfl, _, W3.get 0 rfl, ?_, ?_⟩
        · refine line1000 ?_
          rw [List.length_map]
          have h1 : (goneOf (ys.take i) fs).length ≤ (ys.take i).length := List.length_filter_le _ _
          rw [List.length_take] at h1
          omega
        · have W4 := W3.put 0 rfl rfl (b := D) (o' := .lst ((goneOf (ys.take i) fs).map V.int ++ [.int x]))
          have e5 : (goneOf (ys.take i) fs).map V.int ++ [.int x] = (goneOf (ys.take (i + 1)) fs).map V.int := by
            rw [ee, List.map_append]
            congr 1
            unfold goneOf
            rw [List.filter_cons_of_pos (by simp [hx2])]
            rfl
          rw [e5] at W4 ⊢
          exact W4
    intro H3 W3
    rw [List.length_map, List.take_length] at W3
    have gnd : (goneOf ys fs).Nodup := (hp.nodup_iff.mpr hO.nd).sublist List.filter_sublist
    have gmem : ∀ n, n ∈ goneOf ys fs ↔ n ∈ nums all ∧ n ∉ fs := fun n => by
      unfold goneOf
      rw [List.mem_filter, hp.mem_iff]; simp
    have glen : (goneOf ys fs).length ≤ 1000 := Nat.le_trans (List.length_filter_le _ _) hyl
    dsimp only [gName]
    -- for number in gone: store.drop(number)
    refine ⟨_, rfl, D, rfl, ⟨_, SqL.of (W3.get 0 rfl)⟩, for_list (K := K) (a := D) (xs := (goneOf ys fs).map V.int) (fun i σ H' => ∃ (v3 : Option V) (cs' : List Cell), σ = [some (.ref s), some (.ref r), some (.ref fd), v3, some (.ref D)] ∧ StR A.CT s room entries all ((goneOf ys fs).take i).reverse cs' ∧
      Own A.T (adr cs) H ([(D, .lst ((goneOf ys fs).map V.int))] ++ cs') H') ⟨none, cs, rfl, by simpa using hS, ?_⟩ (fun i σ H' _ ⟨_, _, _, _, W4⟩ => SqL.of (W4.get 0 rfl)) ?_ ?_⟩
    · exact W3.sub (((List.Sublist.refl _).cons _).cons _ |>.cons_cons _)
    · rintro i y σ H4 hi ⟨v3, cs', rfl, hS4, W4⟩
      rw [List.getElem?_map] at hi
      obtain ⟨x, hx, rfl⟩ : ∃ x, (goneOf ys fs)[i]? = some x ∧ y = V.int x := by
        cases e : (goneOf ys fs)[i]? with
        | none => rw [e] at hi; cases hi
        | some x => rw [e] at hi; exact ⟨x, rfl, (Option.some.inj hi).symm⟩
      have et : (goneOf ys fs).take (i + 1) = (goneOf ys fs).take i ++ [x] := take_snoc hx
      have hxm : x ∈ goneOf ys fs := List.mem_of_getElem? hx
      have hxn : x ∉ (goneOf ys fs).take i := by
        have nd2 : ((goneOf ys fs).take (i + 1)).Nodup := gnd.sublist (List.take_sublist _ _)
        rw [et] at nd2
        obtain ⟨_, _, d⟩ := List.nodup_append.mp nd2
        exact fun z => d _ z x (by simp) rfl
      obtain ⟨_, _, _, _, _, _, _, _, _, h4, _, _⟩ := hS4.open W4.right.has
      refine ⟨_, rfl, s, _, _, rfl, h4, stF_none (by decide +kernel), _, rfl, s, x, room, entries, all, _, cs', rfl, hS4, W4.right.start, ((gmem x).mp hxm).1, by simpa using hxn, fun H5 cs5 hS5 R5 => ?_⟩
      refine ⟨_, cs5, rfl, ?_, (W4.comm.call R5).comm⟩
      rw [et, List.reverse_append]
      exact hS5
    · rintro σ H4 ⟨v3, cs', rfl, hS4, W4⟩
      rw [List.length_map, List.take_length] at hS4
      obtain ⟨_, _, _, _, _, _, _, _, _, h4, _, _⟩ := hS4.open W4.right.has
      refine ⟨_, rfl, s, _, _, rfl, h4, stF_none (by decide +kernel), s, room, entries, all, _, cs', rfl, hS4, W4.right.start, fun H5 cs5 hS5 R5 => ?_⟩
      have W5 := (W4.comm.call R5).comm
      refine ⟨_, rfl, D, _, rfl, .inl (SqL.of (W5.get 0 rfl)), ?_⟩
      refine k _ _ cs5 ?_ (W5.sub (List.sublist_cons_self _ _))
      have e : left all (goneOf ys fs).reverse = kept all ws := left_kept fun n hn => by
        rw [List.mem_reverse, gmem, hF.mem]
        exact ⟨fun z => z.2, fun z => ⟨hn, z⟩⟩
      rw [← e]
      exact hS5
/-- 3 and the size of each, added up -/
def spWords (A : Ads) : Sp := fun vs H Q _ => ∃ (s d : Addr) (room entries : Int) (all : List Ob) (cs : List Cell) (kvs : List (Key × V)) (fs : List Int), vs = [.ref s, .ref d] ∧ StR A.CT s room entries all [] cs ∧ Own A.T (d :: adr cs) H ((d, .dK kvs) :: cs) H ∧ kvs.map (·.1) = fs.map Sum.inl ∧ (∀ n ∈ fs, n ∈ nums all) ∧ fs.length ≤ 2000 ∧
  ∀ H' : Hp, Own A.T (d :: adr cs) H ((d, .dK kvs) :: cs) H' → Q (.int (((fs.map (lenN all)).sum : Nat) : Int)) H'
theorem sum_cast (l : List Nat) : ((l.map fun n : Nat => (n : Int)).sum) = ((l.sum : Nat) : Int) := by
  induction l with
  | nil => rfl
  | cons a l ih => rw [List.map_cons, List.sum_cons, List.sum_cons, ih]; omega
theorem lenN_of {all : List Ob} {n : Int} {o : Ob} (h : ob? all n = some o) : lenN all n = 3 + o.slots.length := by unfold lenN; rw [h]; rfl
theorem ok_words_of (T : Txt P K mg A) : Okd P w K mg base 2 A.words_of (spWords A) := by
  refine okN T.f_words_of sc_words_of bh_words_of (fun vs H Q E h => ?_) (fun cdv Ar outer s0 H vs Q E hr h => ?_)
  · obtain ⟨_, _, _, _, _, _, _, _, rfl, _⟩ := h
    rfl
  · obtain ⟨s, d, room, entries, all, cs, kvs, fs, rfl, hS, W, hk, hm, hl, k⟩ := h
    have nd := sc_words_of.nd
    refine ⟨_, pss_one (ps_ret (pe_callB (cr_sum rfl) (by rfl) T.b_sum (by decide +kernel) (pa_cons (pe_lock (pe_lc (own := [("number", 2)]) (g := gName 2) (by rfl) nd (pi_keys (pv 1)) (blkOk_by (N := ["store", "numbers", "number"]) (sc := defScope st_words_of) (by decide +kernel)) (fun _ _ _ _ _ => pg_name (i := 2) nd rfl (.inl rfl)) (fun _ _ _ _ _ => pts_nil)
      (fun _ _ _ _ _ => pe_op op_add pe_int (pe_mrun (pv 0) T.clT T.m_s_size ((ok_s_size T).runs (L2H.roomH_of hr) (.inl rfl)) (pa_cons (pv 2) pa_nil))))) pa_nil))), ?_⟩
    refine ⟨d, _, W.get 0 rfl, trivial, fun od => ?_⟩
    have W1 := W.put 0 rfl rfl (b := d) (o' := .frz od (.dK kvs))
    refine ⟨_, rfl, d, od, rfl, .inl ⟨kvs, W1.get 0 rfl, fun D hD => ?_⟩⟩
    have W2 := W1.new (o := .lst []) hD
    refine lc_it walk_keys (fun i H' => Own A.T (d :: adr cs) H ((D, .lst (((fs.take i).map fun n => V.int (lenN all n : Int)))) :: (d, .frz od (.dK kvs)) :: cs) H') W2 (fun i H' _ W3 => W3.get 1 rfl) ?_ ?_
    · rintro i x H3 H3' hi W3 ⟨rfl, ky, v, e1, rfl⟩
      have e2 : (kvs.map (·.1))[i]? = some ky := by rw [List.getElem?_map, e1]; rfl
      rw [hk, List.getElem?_map] at e2
      obtain ⟨n, hn, rfl⟩ : ∃ n, fs[i]? = some n ∧ ky = Sum.inl n := by
        cases e : fs[i]? with
        | none => rw [e] at e2; cases e2
        | some n => rw [e] at e2; exact ⟨n, rfl, (Option.some.inj e2).symm⟩
      obtain ⟨o, ho⟩ := ob_of_nums (hm n (List.mem_of_getElem? hn))
      obtain ⟨_, _, _, _, _, _, _, _, _, h3, _, _⟩ := hS.open (W3.sub ((List.sublist_cons_self _ _).trans (List.sublist_cons_self _ _))).has
      refine ⟨rfl, ?_⟩
      dsimp only [tYes]
      rw [if_pos rfl]
      refine ⟨_, rfl, s, _, _, rfl, h3, stF_none (by decide +kernel), _, rfl, s, n, room, entries, all, cs, o, rfl, hS, (W3.sub ((List.sublist_cons_self _ _).trans (List.sublist_cons_self _ _))).has, ho, _, _, rfl, rfl, _, W3.get 0 rfl, ?_, ?_⟩
      · refine line1000 ?_
        rw [List.length_map, List.length_take]
        omega
      · have W4 := W3.put 0 rfl rfl (b := D) (o' := .lst (((fs.take i).map fun n => V.int (lenN all n : Int)) ++ [.int (3 + (o.slots.length : Int))]))
        have e5 : ((fs.take i).map fun n => V.int (lenN all n : Int)) ++ [.int (3 + (o.slots.length : Int))] = (fs.take (i + 1)).map fun n => V.int (lenN all n : Int) := by
          rw [take_snoc hn, List.map_append]
          show _ = _ ++ [V.int (lenN all n : Int)]
          rw [lenN_of ho]
          simp
        rw [e5] at W4 ⊢
        exact W4
    · intro H3 W3
      have W4 := W3.put 1 rfl rfl (b := d) (o' := .dK kvs)
      refine ⟨W3.get 1 rfl, D, (fs.map (lenN all)).map fun n : Nat => (n : Int), rfl, ?_, ?_⟩
      · have e : (((fs.map (lenN all)).map fun n : Nat => (n : Int)).map V.int) = (fs.take kvs.length).map fun n => V.int (lenN all n : Int) := by
          rw [keys_len hk, List.take_length, List.map_map, List.map_map]; rfl
        rw [e]
        exact SqL.of (W4.get 0 rfl)
      · rw [sum_cast]
        exact k _ (W4.sub (List.sublist_cons_self _ _))
end
end K9
end
section
set_option Elab.async false
set_option linter.all false
set_option maxRecDepth 100000
set_option maxHeartbeats 4000000
/-! A space's methods, the first part. -/
namespace K9
open PySem PySem.Spec PyProof.Rows L2 LamX
theorem SpR.plain {CT CS a : Addr} {D : SpD} {cs : List Cell} (h : SpR CT CS a D cs) : ∀ c ∈ cs, Plain c.2 := by
  obtain ⟨s, dx, pr, rt, hd, sv, c1, c2, rfl, hS, hV, _⟩ := h
  intro c hc
  rcases List.mem_append.mp hc with h | h
  · simp only [List.mem_cons, List.not_mem_nil, or_false] at h
    rcases h with rfl | rfl | rfl | rfl <;> trivial
  · rcases List.mem_append.mp h with h | h
    · exact hS.plain c h
    · unfold SavR at hV
      split at hV
      · rw [hV.2] at h; cases h
      · obtain ⟨t, t2, w2, p2, r2, h2, kvs, _, rfl, _⟩ := hV
        simp only [List.mem_cons, List.not_mem_nil, or_false] at h
        rcases h with rfl | rfl | rfl | rfl | rfl | rfl <;> trivial
/-- the parts of a space -/
theorem SpR.open {CT CS a : Addr} {D : SpD} {cs : List Cell} {H : Hp} (h : SpR CT CS a D cs) (hh : Has cs H) : ∃ (s dx pr rt hd : Addr) (sv : V) (c1 c2 : List Cell),
    cs = [(a, .ins CS dx (spF s pr D.always D.allocs D.colls rt hd sv)), (pr, .lst (D.press.map V.int)), (rt, .lst (D.roots.map V.int)), (hd, .lst (D.held.map V.int))] ++ (c1 ++ c2) ∧
    StR CT s D.room D.entries D.objs [] c1 ∧ SavR D.room D.entries D.saved sv c2 ∧ (D.roots.length = 16 ∧ D.held.length ≤ 1000 ∧ D.press.length ≤ 100) ∧
    H a = some (.ins CS dx (spF s pr D.always D.allocs D.colls rt hd sv)) ∧ H pr = some (.lst (D.press.map V.int)) ∧ H rt = some (.lst (D.roots.map V.int)) ∧ H hd = some (.lst (D.held.map V.int)) ∧ Has c1 H ∧ Has c2 H := by
  obtain ⟨s, dx, pr, rt, hd, sv, c1, c2, rfl, hS, hV, hB⟩ := h
  refine ⟨s, dx, pr, rt, hd, sv, c1, c2, rfl, hS, hV, hB, hh (a, _) (by simp), hh (pr, _) (by simp), hh (rt, _) (by simp), hh (hd, _) (by simp), fun c hc => hh c ?_, fun c hc => hh c ?_⟩
  · simp [hc]
  · simp [hc]
theorem Own.one {T : List (Addr × Str)} {F : List Addr} {H0 H : Hp} {c : Cell} {cs : List Cell} (W : Own T F H0 (c :: cs) H) : Own T F H0 [c] H := W.sub ((List.nil_sublist cs).cons_cons c)
theorem Own.tail {T : List (Addr × Str)} {F : List Addr} {H0 H : Hp} {c : Cell} {cs : List Cell} (W : Own T F H0 (c :: cs) H) : Own T F H0 cs H := W.sub (List.sublist_cons_self _ _)
section
variable {P : Program} {w : World} {K : PySem.W.Frag} {mg : Str → Option Value} {base : Heap} {A : Ads}
/-! ### what is read -/
def spRoot (A : Ads) : Sp := fun vs H Q _ => ∃ (a : Addr) (i : Nat) (z : Int) (D : SpD) (cs : List Cell), vs = [.ref a, .int (i : Int)] ∧ SpR A.CT A.CS a D cs ∧ Has cs H ∧ D.roots[i]? = some z ∧ Q (.int z) H
theorem ok_p_root (T : Txt P K mg A) : Okd P w K mg base 1 A.p_root (spRoot A) := by
  refine okN T.f_p_root sc_p_root bh_p_root (fun vs H Q E h => ?_) (fun cdv Ar outer s0 H vs Q E hr h => ?_)
  · obtain ⟨_, _, _, _, _, rfl, _⟩ := h
    rfl
  · obtain ⟨a, i, z, D, cs, rfl, hS, hh, hz, k⟩ := h
    obtain ⟨s, dx, pr, rt, hd, sv, c1, c2, rfl, hSt, hV, hB, h1, h2, h3, h4, h5, h6⟩ := hS.open hh
    refine ⟨_, pss_one (ps_ret (pe_ix ix_list (pe_fld (pv 0) rfl) (pv 1) (fun _ _ => rfl))), ?_⟩
    exact ⟨_, rfl, a, _, dx, _, _, rfl, h1, T.clS, T.nS_roots, spF_roots, _, rfl, rt, _, _, _, rfl, rfl, SqL.of h3, atI_nat (by rw [List.getElem?_map, hz]; rfl), k⟩
def spHeld (A : Ads) : Sp := fun vs H Q _ => ∃ (a : Addr) (D : SpD) (cs : List Cell), vs = [.ref a] ∧ SpR A.CT A.CS a D cs ∧ Has cs H ∧ Q (.int (D.held.length : Int)) H
theorem ok_p_held (T : Txt P K mg A) : Okd P w K mg base 1 A.p_held (spHeld A) := by
  refine okN T.f_p_held sc_p_held bh_p_held (fun vs H Q E h => ?_) (fun cdv Ar outer s0 H vs Q E hr h => ?_)
  · obtain ⟨_, _, _, rfl, _⟩ := h
    rfl
  · obtain ⟨a, D, cs, rfl, hS, hh, k⟩ := h
    obtain ⟨s, dx, pr, rt, hd, sv, c1, c2, rfl, hSt, hV, hB, h1, h2, h3, h4, h5, h6⟩ := hS.open hh
    refine ⟨_, pss_one (ps_ret (pe_callB call_len_seq (by rfl) T.b_len PySem.boot_len (pa_cons (pe_fld (pv 0) rfl) pa_nil))), ?_⟩
    refine ⟨_, rfl, a, _, dx, _, _, rfl, h1, T.clS, T.nS_held, spF_held, hd, _, rfl, .inl (SqL.of h4), ?_⟩
    rw [List.length_map]
    exact k
/-- 0, the roots, what is held -/
def allW (D : SpD) : List Int := 0 :: (D.roots ++ D.held)
def spAll (A : Ads) : Sp := fun vs H Q _ => ∃ (a : Addr) (D : SpD) (cs : List Cell), vs = [.ref a] ∧ SpR A.CT A.CS a D cs ∧ Has cs H ∧ Tabs A.T H ∧ ∀ (H' : Hp) (p : Addr), Own A.T [] H [(p, .lst ((allW D).map V.int))] H' → Q (.ref p) H'
theorem ok_p_all (T : Txt P K mg A) : OkW P w K mg base 1 A.p_all (spAll A) := by
  refine okW T.f_p_all sc_p_all bh_p_all (fun vs H Q E h => ?_) (fun cdv Ar outer s0 H vs Q E c pn hr hw h => ?_)
  · obtain ⟨_, _, _, rfl, _⟩ := h
    rfl
  · obtain ⟨a, D, cs, rfl, hS, hh, ht, k⟩ := h
    obtain ⟨s, dx, pr, rt, hd, sv, c1, c2, rfl, hSt, hV, ⟨b1, b2, b3⟩, h1, h2, h3, h4, h5, h6⟩ := hS.open hh
    obtain ⟨tN, gN⟩ := T.g_NIL
    refine ⟨_, pss_one (ps_ret (pe_op op_cat (pe_op op_cat (pe_lst (pa_cons (pe_glob (v := .int 0) rfl gN ⟨_, rfl⟩) pa_nil)) (pe_fld (pv 0) rfl)) (pe_fld (pv 0) rfl))), ?_⟩
    refine ⟨(by show 1 ≤ sizeLine; rw [sizeLine_eq]; decide), fun l hl => ?_⟩
    have W1 := (Own.nil ht).new (o := .lst [.int 0]) hl
    have e1 := W1.fr _ _ h1 List.not_mem_nil (fun _ z => by cases z)
    have e3 := W1.fr _ _ h3 List.not_mem_nil (fun _ z => by cases z)
    refine ⟨_, rfl, a, _, dx, _, _, rfl, e1, T.clS, T.nS_roots, spF_roots, l, rt, _, _, rfl, rfl, W1.get 0 rfl, e3, ?_, fun m hm => ?_⟩
    · refine Nat.le_of_lt (line1000 ?_)
      rw [List.length_map, b1]
      decide
    have W2 := W1.new (o := .lst ([V.int 0] ++ D.roots.map V.int)) hm
    have e1 := W2.fr _ _ h1 List.not_mem_nil (fun _ z => by cases z)
    have e4 := W2.fr _ _ h4 List.not_mem_nil (fun _ z => by cases z)
    refine ⟨_, rfl, a, _, dx, _, _, rfl, e1, T.clS, T.nS_held, spF_held, m, hd, _, _, rfl, rfl, W2.get 0 rfl, e4, ?_, fun p hp => ?_⟩
    · refine Nat.le_of_lt (line1000 ?_)
      rw [List.length_append, List.length_map, List.length_map, b1]
      show 1 + 16 + D.held.length ≤ 5000
      omega
    have W3 := W2.new (o := .lst (([V.int 0] ++ D.roots.map V.int) ++ D.held.map V.int)) hp
    refine k _ p ?_
    have e : ([V.int 0] ++ D.roots.map V.int) ++ D.held.map V.int = (allW D).map V.int := by unfold allW; simp
    rw [e] at W3 ⊢
    exact W3.one
/-! ### roots, what is held -/
def spSetRoot (A : Ads) : Sp := fun vs H Q _ => ∃ (a : Addr) (i : Nat) (z : Int) (D : SpD) (cs : List Cell), vs = [.ref a, .int (i : Int), .int z] ∧ SpR A.CT A.CS a D cs ∧ Own A.T (adr cs) H cs H ∧ i < 16 ∧
  ∀ (H' : Hp) (cs' : List Cell), SpR A.CT A.CS a { D with roots := D.roots.set i z } cs' → Own A.T (adr cs) H cs' H' → Q .non H'
theorem ok_p_set_root (T : Txt P K mg A) : Okd P w K mg base 1 A.p_set_root (spSetRoot A) := by
  refine okN T.f_p_set_root sc_p_set_root bh_p_set_root (fun vs H Q E h => ?_) (fun cdv Ar outer s0 H vs Q E hr h => ?_)
  · obtain ⟨_, _, _, _, _, rfl, _⟩ := h
    rfl
  · obtain ⟨a, i, z, D, cs, rfl, hS, W, hi, k⟩ := h
    obtain ⟨s, dx, pr, rt, hd, sv, c1, c2, rfl, hSt, hV, ⟨b1, b2, b3⟩, h1, h2, h3, h4, h5, h6⟩ := hS.open W.has
    refine ⟨_, pss_one (ps_asg (pv 2) (pg_sub (pe_fld (pv 0) rfl) (pv 1) set_list)), ?_⟩
    refine ⟨_, rfl, _, rfl, a, _, dx, _, _, rfl, h1, T.clS, T.nS_roots, spF_roots, _, rfl, rt, _, _, i, rfl, rfl, h3, ixN_nat (by rw [List.length_map, b1]; exact hi), ?_⟩
    have W1 := W.put 2 rfl rfl (b := rt) (o' := .lst ((D.roots.map V.int).set i (.int z)))
    refine k _ _ ⟨s, dx, pr, rt, hd, sv, c1, c2, rfl, hSt, hV, by rw [List.length_set]; exact b1, b2, b3⟩ ?_
    show Own _ _ _ ([_, _, (rt, .lst ((D.roots.set i z).map V.int)), _] ++ (c1 ++ c2)) _
    rw [List.map_set]
    exact W1
def spHold (A : Ads) : Sp := fun vs H Q _ => ∃ (a : Addr) (z : Int) (D : SpD) (cs : List Cell), vs = [.ref a, .int z] ∧ SpR A.CT A.CS a D cs ∧ Own A.T (adr cs) H cs H ∧ D.held.length < 1000 ∧
  ∀ (H' : Hp) (cs' : List Cell), SpR A.CT A.CS a { D with held := D.held ++ [z] } cs' → Own A.T (adr cs) H cs' H' → Q (.int z) H'
theorem ok_p_hold (T : Txt P K mg A) : Okd P w K mg base 1 A.p_hold (spHold A) := by
  refine okN T.f_p_hold sc_p_hold bh_p_hold (fun vs H Q E h => ?_) (fun cdv Ar outer s0 H vs Q E hr h => ?_)
  · obtain ⟨_, _, _, _, rfl, _⟩ := h
    rfl
  · obtain ⟨a, z, D, cs, rfl, hS, W, hl, k⟩ := h
    obtain ⟨s, dx, pr, rt, hd, sv, c1, c2, rfl, hSt, hV, ⟨b1, b2, b3⟩, h1, h2, h3, h4, h5, h6⟩ := hS.open W.has
    refine ⟨_, pss_cons (ps_expr (pe_bm PySem.F.plainAttrs_list PySem.F.slot_list_append PySem.F.type_list_append mt_append (pe_fld (pv 0) rfl) (pa_cons (pv 1) pa_nil))) (pss_one (ps_ret (pv 1))), ?_⟩
    refine ⟨_, rfl, a, _, dx, _, _, rfl, h1, T.clS, T.nS_held, spF_held, .inl ⟨rfl, _, SqL.of h4⟩, _, rfl, hd, _, _, rfl, rfl, h4, (line1000 (by rw [List.length_map]; omega)), ?_⟩
    have W1 := W.put 3 rfl rfl (b := hd) (o' := .lst (D.held.map V.int ++ [.int z]))
    refine ⟨_, rfl, k _ _ ⟨s, dx, pr, rt, hd, sv, c1, c2, rfl, hSt, hV, b1, by rw [List.length_append]; show D.held.length + 1 ≤ 1000; omega, b3⟩ ?_⟩
    show Own _ _ _ ([_, _, _, (hd, .lst ((D.held ++ [z]).map V.int))] ++ (c1 ++ c2)) _
    rw [List.map_append]
    exact W1
end
end K9
end
section
set_option Elab.async false
set_option linter.all false
set_option maxRecDepth 100000
set_option maxHeartbeats 4000000
/-! del xs[k:] of a list. -/
namespace K9
open PySem PySem.Spec PyProof.Rows L2
theorem cut_tail {α : Type} (k : Nat) (f : Nat → Bool) : ∀ (l : List α) (j : Nat), (∀ i, i < l.length → f (j + i) = decide (k ≤ j + i)) → ((l.zipIdx j).filterMap fun (x : α × Nat) => if f x.2 = true then none else some x.1) = l.take (k - j)
  | [], j, _ => by simp
  | a :: l, j, h => by
    have ih := cut_tail k f l (j + 1) (fun i hi => by rw [show j + 1 + i = j + (1 + i) by omega]; exact h _ (by rw [List.length_cons]; omega))
    rw [List.zipIdx_cons, List.filterMap_cons]
    have e := h 0 (by simp)
    rw [Nat.add_zero] at e
    simp only [e]
    by_cases q : k ≤ j
    · have e1 : k - j = 0 := by omega
      have e2 : k - (j + 1) = 0 := by omega
      rw [e2] at ih
      simp only [decide_eq_true q, if_true, e1]
      rw [ih]; simp
    · have e1 : k - j = (k - (j + 1)) + 1 := by omega
      simp only [decide_eq_false q, Bool.false_eq_true, if_false, e1]
      rw [ih]; rfl
theorem sel_is {k n j : Nat} (hj : j < n) : (if (1 : Int) > 0 then (decide ((k : Int) ≤ (j : Int)) && decide ((j : Int) < (n : Int)) && (((j : Int) - (k : Int)) % 1 == 0)) else (decide ((n : Int) < (j : Int)) && decide ((j : Int) ≤ (k : Int)) && (((k : Int) - (j : Int)) % (-1) == 0))) = decide (k ≤ j) := by
  rw [if_pos (by decide), decide_eq_true (show (j : Int) < (n : Int) by omega), show ((j : Int) - (k : Int)) % 1 = 0 by omega]
  by_cases q : k ≤ j
  · rw [decide_eq_true q, decide_eq_true (show (k : Int) ≤ (j : Int) by omega)]; rfl
  · rw [decide_eq_false q, decide_eq_false (show ¬ (k : Int) ≤ (j : Int) by omega)]; rfl
section
variable {prog : Program} {w : World} {A : Around} {E : Value → Shared → Prop} {s : Shared}
set_option maxRecDepth 100000 in
theorem delItem_tail {l sl : Addr} {items : Array Value} {n k : Nat} {vl : Value} {Q : Unit → Shared → Prop}
    (e : s.heap.get? l = some { cls := .type "list", data := .seq items n }) (hs : s.heap.IsSliceOf sl vl .none .none) (pl : IsPart vl (some (k : Int))) (hk : k ≤ items.size) (hsz : items.size ≤ sizeLine)
    (h : ∀ f : Array Value → Array Value, f items = (items.toList.take k).toArray → Q () { s with heap := s.heap.update l (Obj.mapSeq f) }) :
    wpAny (model prog w) A (delItem (.ref l) (.ref sl)) Q E s := by
  have hl : s.heap.IsList l items := PySem.IsL.isList e
  obtain ⟨os, hos, hcs, hds⟩ := id hs
  have hTs : s.TypeIs (.ref sl) "slice" := ⟨os, hos, hcs⟩
  have hstep : ¬ ((rawPart none == rawInt 0) = true) := Bool.false_ne_true
  refine wpAny_delItem_slot hl.typeIs (by decide) PySem.F.slot_list_delitem (wpAny_call_entry PySem.F.slot_list_delitem hl.typeIs PySem.F.entry_list_delitem ?_ (PySem.F.args_list_delitem_2 _ _))
  show wpAny _ _ (Builtin.List.listSubscript? (.ref sl) >>= _) _ _ s
  refine wpAny_bind ?_
  unfold Builtin.List.listSubscript?
  refine wpAny_bind (wpAny_specialOf hTs slice_no_index ?_)
  simp only [Option.isNone_none, if_true]
  refine wpAny_pure ?_
  show wpAny _ _ (typeOf (.ref sl) >>= _) _ _ s
  refine wpAny_bind (wpAny_typeOf hTs ?_)
  first
    | rw [if_neg (by decide)]
    | refine PySem.W.KFB.if_not (by decide) ?_
  rw [listSliceParts_eq]
  refine wpAny_bind (wpAny_bind (wpAny_field hos hds (x := .none) rfl (wpAny_bind (wpAny_listPart .none ?_))))
  rw [if_neg hstep]
  refine wpAny_bind (wpAny_field hos hds (x := vl) rfl (wpAny_bind (wpAny_listPart pl ?_)))
  refine wpAny_bind (wpAny_field hos hds (x := .none) rfl (wpAny_bind (wpAny_listPart .none (wpAny_pure ?_))))
  unfold Builtin.List.listItems
  refine wpAny_bind (wpAny_bind (wpAny_seqItems e rfl (wpAny_pure ?_)))
  have hb : sliceBounds (some (k : Int)) none none items.size = ((k : Int), (items.size : Int), (1 : Int)) := by
    simp only [sliceBounds, Option.getD_none]
    have h1 : ¬ ((k : Int) < 0) := by omega
    simp only [h1, if_false, show (1 : Int) > 0 by decide, if_true]
    congr 1
    omega
  refine wpAny_bind (wpAny_of_eq ((sliceIndices_raw (some (k : Int)) none none items.size (by simp)).trans (congrArg (pure : Int × Int × Int → Sem (Int × Int × Int)) hb)) ?_)
  refine wpAny_bind (wpAny_rule ?_)
  have hsel : ∀ f : Nat → Bool, (∀ j, j < items.size → f j = decide (k ≤ j)) → (items.toList.zipIdx.filterMap fun (x : Value × Nat) => if f x.2 = true then none else some x.1) = items.toList.take k := fun f hf => by
    have := cut_tail k f items.toList 0 (fun i hi => by rw [Nat.zero_add]; exact hf i (by simpa using hi))
    rw [Nat.sub_zero] at this
    exact this
  refine wpAny_bind (m := updateSeq l _) (wpAny_updateSeq (hz := hsz) (_hz' := ?z) e rfl ?w)
  case z =>
    show ((items.toList.zipIdx.filterMap _).toArray).size ≤ sizeLine + 1
    rw [List.size_toArray]
    refine Nat.le_trans (List.length_filterMap_le _ _) ?_
    rw [List.length_zipIdx, Array.length_toList]
    exact Nat.le_succ_of_le hsz
  refine wpAny_bind (wpAny_letGo ?_)
  refine wpAny_pure ⟨.none, rfl, h _ ?_⟩
  exact congrArg List.toArray (hsel _ fun j hj => sel_is hj)
end
/-- del o[lo:] -/
def tDelTail (to ti : TE) : TS := fun D σ H => to σ H fun x H1 => tPart ti σ H1 fun y H2 => ∃ (l : Addr) (xs : List V) (k : Nat), x = .ref l ∧ y = some (k : Int) ∧ H2 l = some (.lst xs) ∧ k ≤ xs.length ∧ D.nx σ (upd H2 l (.lst (xs.take k)))
section
variable {X : Cx}
theorem ps_delTail {o lo : Expr} {to ti : TE} {tpos p2 pos : Pos} (ho : PE X o to) (hi : PE X lo ti) : PS X (.Delete [.Subscript o (.Slice (some lo) none none p2) tpos] pos) (tDelTail to ti) := by
  refine ⟨fun pins s σ H D I h => ?_⟩
  refine wpAny_Delete (wpAny_deleteEach_cons (wpAny_delete_Subscript (thn (ho.run pins s σ H _ I h) fun u s1 ⟨x, H1, I1, rx, q1⟩ => ?_)))
  refine wpAny_Slice (thn ((po_some hi).run pins s1 σ H1 _ I1 q1) fun vl s2 ⟨y, H2, I2, pl, l, xs, k, ex, ey, hH, hk, q2⟩ => ?_)
  subst ex
  subst ey
  cases (show u = Value.ref l from rx)
  rw [evalPart_none]
  refine wpAny_pure (wpAny_pure ?_)
  have I4 : Inv X pins σ H2 { s2 with heap := s2.heap.push { cls := .type "slice", data := .fields #[vl, .none, .none] } } := I2.kept (t' := s2.toks) fun b ob q => Heap.get?_push_of_some _ q
  obtain ⟨z, its, n, r, hl, e⟩ := I4.lstM hH
  have hlen := r.length
  refine delItem_tail (k := k) e (Heap.IsSliceOf.new ..) pl (by rw [List.size_toArray]; omega) (by rw [List.size_toArray]; omega) fun f hf => ?_
  refine wpAny_deleteEach_nil ⟨σ, _, I4.lset (its' := its.take k) (t' := s2.toks) hH e (by rw [hf]) (r.take k) ?_, q2⟩
  rw [List.length_take]
  omega
end
end K9
end
section
set_option Elab.async false
set_option linter.all false
set_option maxRecDepth 100000
set_option maxHeartbeats 4000000
/-! A space's methods, the second part. -/
namespace K9
open PySem PySem.Spec PyProof.Rows L2 LamX
/-! ### o.m(e, .., k = v, ..) -/
def tMethN (C : Addr) (m : Str) (n j : Nat) (sp : Sp) (gV : List V → List V → List V) (E : XK) (ta : TE) (t tk : TA) : TE := fun σ H Q => ta σ H fun x H1 => ∃ a dx fs, x = .ref a ∧ H1 a = some (.ins C dx fs) ∧ fs.lookup m = none ∧ t σ H1 fun vs H2 => tk σ H2 fun zs H3 => vs.length + 1 = n ∧ zs.length = j ∧ sp (gV (x :: vs) zs) H3 Q E
theorem pe_methN {X : Cx} {CX : CXT} {k n : Nat} {C f : Addr} {m : Str} {fd : FuncData} {ps ks : List Str} {sp : Sp} {E : XK} {apos pos : Pos} {o e : Expr} {es : List Expr} {kws : List Keyword} {ta : TE} {t tk : TA} {g : List Value → List Value → List Value} {gV : List V → List V → List V} {pl : Sem Bool}
    (he : PE X o ta) (c : Cls X.K C) (hm : Meth X.K C m f) (F : FnOk X.prog X.w X.K X.mg X.base CX k f fd ps sp) (hr : Room k X.A) (hb : KBn X.K fd ps n ks g gV) (hx : Passes CX X E)
    (ha : PA X (e :: es) t) (hkw : PK X kws tk) (hall : (backToKw pos (keywordEach kws X.env)).all (·.1.isSome) = true := by rfl) (hks : (backToKw pos (keywordEach kws X.env)).filterMap (·.1) = ks := by rfl)
    (hst : starEach (e :: es) X.env = (false, eval e X.env) :: starEach es X.env := by rfl)
    (hpl : ((backTo pos (starEach (e :: es) X.env)).any (·.1) || (backToKw pos (keywordEach kws X.env)).any (·.1.isNone)) = false := by rfl)
    (ht : eval (.Call (.Attribute o m apos) (e :: es) kws pos) X.env = (do
      let ov ← eval o X.env
      standAt apos.atName
      let (f, first) ← holding [ov] (getMethod ov m pl)
      callWith pos f first (backTo pos (starEach (e :: es) X.env)) (backToKw pos (keywordEach kws X.env))) := by rfl) :
    PE X (.Call (.Attribute o m apos) (e :: es) kws pos) (tMethN C m n ks.length sp gV E ta t tk) := by
  refine ⟨fun pins s σ H Q I h => ?_⟩
  refine PySem.W.methodCall_KW (pl := pl) (thn (he.run pins s σ H _ I h) fun u s1 ⟨x, H1, I1, rx, a, dx, fs, ex, ea, l, q⟩ => ?_) ht
  subst ex
  obtain rfl : u = Value.ref a := rx
  refine getmeth_ok I1 ea c hm l ?_
  refine PySem.W.callWith_KW (first := [.ref a]) (h₀ := X.base) I.ok.mod.kin hm.kp hall (thn (ha.run pos pins s1 σ H1 _ I1 q) fun us s2 ⟨vs, H2, I2, r, q2⟩ => ?_) hpl hst
  refine thn (hkw.run pos pins s2 σ H2 _ I2 q2) fun ws s3 ⟨zs, H3, I3, rz, l1, l2, q3⟩ => ⟨I3.kIn, ?_⟩
  rw [hks]
  exact run_fnN (us := Value.ref a :: us) (vs := V.ref a :: vs) F hr hb hx I3 (.cons rfl r) rz l1 l2 q3
theorem Own.mid {T : List (Addr × Str)} {F : List Addr} {H0 H H' : Hp} {a b b' c : List Cell} (W : Own T F H0 (a ++ (b ++ c)) H) (R : Own T (adr b) H b' H') : Own T F H0 (a ++ (b' ++ c)) H' := by
  have W1 : Own T F H0 (b ++ (a ++ c)) H := W.perm (List.perm_append_comm_assoc a b c)
  exact (W1.call R).perm (List.perm_append_comm_assoc b' a c)
/-- with new cells ahead -/
theorem Own.mid0 {T : List (Addr × Str)} {F : List Addr} {H0 H H' : Hp} {b b' c : List Cell} (W : Own T F H0 (b ++ c) H) (R : Own T (adr b) H b' H') : Own T F H0 (b' ++ c) H' := W.call R
section
variable {P : Program} {w : World} {K : PySem.W.Frag} {mg : Str → Option Value} {base : Heap} {A : Ads}
def spPDrop (A : Ads) : Sp := fun vs H Q _ => ∃ (a : Addr) (c : Nat) (D : SpD) (cs : List Cell), vs = [.ref a, .int (c : Int)] ∧ SpR A.CT A.CS a D cs ∧ Own A.T (adr cs) H cs H ∧ c ≤ D.held.length ∧
  ∀ (H' : Hp) (cs' : List Cell), SpR A.CT A.CS a { D with held := D.held.take (D.held.length - c) } cs' → Own A.T (adr cs) H cs' H' → Q .non H'
theorem ok_p_drop (T : Txt P K mg A) : Okd P w K mg base 1 A.p_drop (spPDrop A) := by
  refine okN T.f_p_drop sc_p_drop bh_p_drop (fun vs H Q E h => ?_) (fun cdv Ar outer s0 H vs Q E hr h => ?_)
  · obtain ⟨_, _, _, _, rfl, _⟩ := h
    rfl
  · obtain ⟨a, c, D, cs, rfl, hS, W, hl, k⟩ := h
    obtain ⟨s, dx, pr, rt, hd, sv, c1, c2, rfl, hSt, hV, ⟨b1, b2, b3⟩, h1, h2, h3, h4, h5, h6⟩ := hS.open W.has
    refine ⟨_, pss_one (ps_delTail (pe_fld (pv 0) rfl) (pe_op op_sub (pe_callB call_len_seq (by rfl) T.b_len PySem.boot_len (pa_cons (pe_fld (pv 0) rfl) pa_nil)) (pv 1))), ?_⟩
    refine ⟨_, rfl, a, _, dx, _, _, rfl, h1, T.clS, T.nS_held, spF_held, _, rfl, a, _, dx, _, _, rfl, h1, T.clS, T.nS_held, spF_held, hd, _, rfl, .inl (SqL.of h4), _, rfl, _, _, rfl, rfl, _, rfl, hd, _, D.held.length - c, rfl, ?_, h4, ?_, ?_⟩
    · rw [List.length_map]
      congr 1
      omega
    · rw [List.length_map]; omega
    have W1 := W.put 3 rfl rfl (b := hd) (o' := .lst ((D.held.map V.int).take (D.held.length - c)))
    refine k _ _ ⟨s, dx, pr, rt, hd, sv, c1, c2, rfl, hSt, hV, b1, by rw [List.length_take]; omega, b3⟩ ?_
    show Own _ _ _ ([_, _, _, (hd, .lst ((D.held.take (D.held.length - c)).map V.int))] ++ (c1 ++ c2)) _
    rw [List.map_take]
    exact W1
def spPress (A : Ads) : Sp := fun vs H Q _ => ∃ (a q : Addr) (b : Bool) (ms : List Int) (D : SpD) (cs : List Cell), vs = [.ref a, .ref q, .bl b] ∧ SpR A.CT A.CS a D cs ∧ Own A.T (adr cs) H cs H ∧ H q = some (.lst (ms.map V.int)) ∧ ms.length ≤ 100 ∧
  ∀ (H' : Hp) (cs' : List Cell), SpR A.CT A.CS a { D with press := ms, always := b } cs' → Own A.T (adr cs) H cs' H' → Q .non H'
theorem ok_p_press (T : Txt P K mg A) : ∃ fd, FnOk P w K mg base CX0 1 A.p_press fd ["self", "moments", "always"] (spPress A) ∧ (∃ ds, Vals [.bl false] ds ∧ Binds K fd ["self", "moments", "always"] ds) ∧ KBn K fd ["self", "moments", "always"] 2 ["always"] (fun us ws => us ++ ws) (fun us ws => us ++ ws) := by
  obtain ⟨fd, F⟩ := T.f_p_press
  refine ⟨fd, ?_, F.binds0 2 (by simp) rfl fun D doc pm an cdv ct us ks hu hk => ?_, ⟨fun s us ws X h1 h2 => ?_, fun r1 r2 => r1.append r2⟩⟩
  · refine F.ok sc_p_press (fun vs H Q E h => ?_) (fun cdv Ar outer s0 H vs Q E hr h => ?_)
    · obtain ⟨_, _, _, _, _, _, rfl, _⟩ := h
      rfl
    · obtain ⟨a, q, b, ms, D, cs, rfl, hS, W, hq, hl, k⟩ := h
      obtain ⟨s, dx, pr, rt, hd, sv, c1, c2, rfl, hSt, hV, ⟨b1, b2, b3⟩, h1, h2, h3, h4, h5, h6⟩ := hS.open W.has
      refine ⟨_, pss_cons (ps_fld (pv 0) (pe_callTy call_list_of (by rfl) T.b_list (by decide +kernel) (pa_cons (pv 1) pa_nil)) rfl) (pss_one (ps_fld (pv 0) (pv 2) rfl)), ?_⟩
      refine ⟨_, rfl, q, _, rfl, .inl (SqL.of hq), fun l hl' => ?_⟩
      have W1 := W.new (o := .lst (ms.map V.int)) hl'
      refine ⟨_, rfl, a, _, dx, _, rfl, W1.get 1 rfl, T.clS, T.nS_pressure, spF_small, ?_⟩
      rw [spF_ppressure]
      have W2 := W1.put 1 rfl rfl (b := a) (o' := .ins A.CS dx (spF s l D.always D.allocs D.colls rt hd sv))
      refine ⟨_, rfl, _, rfl, a, _, dx, _, rfl, W2.get 1 rfl, T.clS, T.nS_always, spF_small, ?_⟩
      rw [spF_palways]
      have W3 := W2.put 1 rfl rfl (b := a) (o' := .ins A.CS dx (spF s l b D.allocs D.colls rt hd sv))
      refine k _ _ ⟨s, dx, l, rt, hd, sv, c1, c2, rfl, hSt, hV, b1, b2, hl⟩ ((W3.mem_of (ds := [(l, .lst (ms.map V.int)), (a, .ins A.CS dx (spF s l b D.allocs D.colls rt hd sv)), (rt, .lst (D.roots.map V.int)), (hd, .lst (D.held.map V.int))] ++ (c1 ++ c2)) ?_ ?_).perm ?_)
      · intro c hc
        simp only [List.mem_append, List.mem_cons, List.not_mem_nil, or_false] at hc
        show c ∈ [_, _, _, _, _] ++ (c1 ++ c2)
        simp only [List.mem_append, List.mem_cons, List.not_mem_nil, or_false]
        rcases hc with (rfl | rfl | rfl | rfl) | hc <;> simp_all
      · have nd := W3.nd
        refine nd.sublist (List.Sublist.map _ ?_)
        exact List.Sublist.cons_cons _ (List.Sublist.cons_cons _ (List.Sublist.cons _ (List.Sublist.refl _)))
      · exact List.Perm.swap _ _ _
  · match us, ks, hu, hk with
    | [x, y], [z], _, _ => exact ⟨_, _, _, _, _, _, rfl, rfl, rfl⟩
  · obtain ⟨oc, od, dV, kV, doc, pm, an, cdv, ct, osl, rfl, lk, hcd, hD, hK⟩ := F.ex
    rcases hD with ⟨_, rfl⟩ | ⟨e, _⟩
    · match us, ws, h1, h2 with
      | [x, y], [z], _, _ => exact .of_eq (by first | rfl | with_unfolding_all rfl)
    · exact absurd rfl e
end
end K9
end
section
set_option Elab.async false
set_option linter.all false
set_option maxRecDepth 100000
set_option maxHeartbeats 4000000
/-! A space's methods, the third part: __init__, collect_with, live_words, collect. -/
namespace K9
open PySem PySem.Spec PyProof.Rows L2 LamX
theorem spF_init {s pr rt hd : Addr} {al : Bool} {n m : Int} {sv : V} :
    putF "_saved" sv (putF "_held" (.ref hd) (putF "_roots" (.ref rt) (putF "collections" (.int m) (putF "allocations" (.int n) (putF "always" (.bl al) (putF "pressure" (.ref pr) (putF "store" (.ref s) []))))))) = spF s pr al n m rt hd sv := by
  rw [show ([] : List (Str × V)) = ([] : List Str).zip ([] : List V) from rfl, K9.put_new (by decide +kernel) rfl, K9.put_new (by decide +kernel) rfl, K9.put_new (by decide +kernel) rfl, K9.put_new (by decide +kernel) rfl, K9.put_new (by decide +kernel) rfl,
    K9.put_new (by decide +kernel) rfl, K9.put_new (by decide +kernel) rfl, K9.put_new (by decide +kernel) rfl]
  rfl
abbrev spH (CS a dx s pr rt hd : Addr) (sv : V) (D : SpD) : List Cell := [(a, .ins CS dx (spF s pr D.always D.allocs D.colls rt hd sv)), (pr, .lst (D.press.map V.int)), (rt, .lst (D.roots.map V.int)), (hd, .lst (D.held.map V.int))]
def newSp (room entries : Int) : SpD := ⟨room, entries, [], [], false, 0, 0, List.replicate 16 0, [], none⟩
theorem put_small {f : Str} {v : V} {fs : List (Str × V)} {n : Nat} (h : fs.length ≤ n) : (putF f v fs).length ≤ n + 1 := Nat.le_trans (length_putF _ _ _) (Nat.succ_le_succ h)
theorem live_tot {all : List Ob} {ws fs : List Int} (nd : (nums all).Nodup) (hn : fs.Nodup) (hm : ∀ n, n ∈ fs ↔ Reach all ws n) : (fs.map (lenN all)).sum = tot (kept all ws) := by
  have d := kept_nodup (ws := ws) nd
  have P := perm_of_same hn d fun n => by rw [hm, mem_kept]
  rw [tot_nums d, (P.map (lenN all)).sum_nat]
  refine sum_map_congr fun n h => ?_
  unfold lenN
  rw [kept_ob (mem_kept.mp h)]
section
variable {P : Program} {w : World} {K : PySem.W.Frag} {mg : Str → Option Value} {base : Heap} {A : Ads}
def spPInit (A : Ads) : Sp := fun vs H Q _ => ∃ (a dx : Addr) (room entries : Int), vs = [.ref a, .int room, .int entries] ∧ Own A.T [a] H [(a, .ins A.CS dx [])] H ∧ 0 ≤ room ∧ room ≤ 1000 ∧ 0 ≤ entries ∧ entries ≤ 1000000 ∧
  ∀ (H' : Hp) (cs' : List Cell), SpR A.CT A.CS a (newSp room entries) cs' → Own A.T [a] H cs' H' → Q .non H'
theorem ok_p_init (T : Txt P K mg A) : Okd P w K mg base 3 A.p_init (spPInit A) := by
  refine okN T.f_p_init sc_p_init bh_p_init (fun vs H Q E h => ?_) (fun cdv Ar outer s0 H vs Q E hr h => ?_)
  · obtain ⟨_, _, _, _, rfl, _⟩ := h
    rfl
  · obtain ⟨a, dx, room, entries, rfl, W, r0, r1, e0, e1, k⟩ := h
    obtain ⟨fdI, psI, FI, bI⟩ := (ok_s_init (P := P) (w := w) (base := base) T).ex
    obtain ⟨tN, gN⟩ := T.g_NIL
    obtain ⟨tR, gR⟩ := T.g_ROOTS
    refine ⟨_, pss_cons (ps_fld (pv 0) (pe_make T.mkT FI hr rfl T.g_CT bI .nil (E := E0) (fun _ _ _ _ _ _ _ z => by obtain ⟨_, _, _, _, _, _, _, _, _, _, _, _, z⟩ := z; exact z.elim) (pa_cons (pv 1) (pa_cons (pv 2) pa_nil))) rfl)
      (pss_cons (ps_fld (pv 0) (pe_lst pa_nil) rfl) (pss_cons (ps_fld (pv 0) pe_bl rfl) (pss_cons (ps_fld (pv 0) pe_int rfl) (pss_cons (ps_fld (pv 0) pe_int rfl)
      (pss_cons (ps_fld (pv 0) (pe_op op_rep (pe_lst (pa_cons (pe_glob (v := .int 0) rfl gN ⟨_, rfl⟩) pa_nil)) (pe_glob (v := .int 16) rfl gR ⟨_, rfl⟩)) rfl) (pss_cons (ps_fld (pv 0) (pe_lst pa_nil) rfl) (pss_one (ps_fld (pv 0) pe_non rfl)))))))), ?_⟩
    refine ⟨_, rfl, _, rfl, fun x dx2 hx hdx ne => ?_⟩
    have s1 : Same H (upd (upd H dx2 (.own x)) x (.ins A.CT dx2 [])) := fun b o e => by
      rw [upd_ne (ne_of_none e hx), upd_ne (ne_of_none e hdx)]; exact e
    have W0 : Own A.T [a] H ((x, .ins A.CT dx2 []) :: [(a, .ins A.CS dx [])]) (upd (upd H dx2 (.own x)) x (.ins A.CT dx2 [])) := W.made s1 hx upd_same
    refine ⟨x, dx2, room, entries, rfl, W0.one.start, r0, r1, e0, e1, fun H1 c1 hS R1 => ?_⟩
    refine ⟨rfl, ?_⟩
    have W1 : Own A.T [a] H (c1 ++ [(a, .ins A.CS dx [])]) H1 := Own.call (cs := [(x, .ins A.CT dx2 [])]) W0 R1
    have W2 : Own A.T [a] H ([(a, .ins A.CS dx [])] ++ c1) H1 := W1.comm
    have l0 : ([] : List (Str × V)).length ≤ 0 := Nat.le_refl _
    refine ⟨_, rfl, a, _, dx, _, rfl, W2.get 0 rfl, T.clS, T.nS_store, (by show 0 < 1000; decide), ?_⟩
    have W3 := W2.put 0 rfl rfl (b := a) (o' := .ins A.CS dx (putF "store" (.ref x) []))
    have l1 := put_small (f := "store") (v := .ref x) l0
    refine ⟨(by show 0 ≤ sizeLine; exact Nat.zero_le _), fun pr hpr => ?_⟩
    have W4 := W3.new (o := .lst []) hpr
    refine ⟨_, rfl, a, _, dx, _, rfl, W4.get 1 rfl, T.clS, T.nS_pressure, Nat.lt_of_le_of_lt l1 (by decide), ?_⟩
    have W5 := W4.put 1 rfl rfl (b := a) (o' := .ins A.CS dx (putF "pressure" (.ref pr) (putF "store" (.ref x) [])))
    have l2 := put_small (f := "pressure") (v := .ref pr) l1
    refine ⟨_, rfl, a, _, dx, _, rfl, W5.get 1 rfl, T.clS, T.nS_always, Nat.lt_of_le_of_lt l2 (by decide), ?_⟩
    have W6 := W5.put 1 rfl rfl (b := a) (o' := .ins A.CS dx (putF "always" (.bl false) (putF "pressure" (.ref pr) (putF "store" (.ref x) []))))
    have l3 := put_small (f := "always") (v := .bl false) l2
    refine ⟨_, rfl, a, _, dx, _, rfl, W6.get 1 rfl, T.clS, T.nS_allocations, Nat.lt_of_le_of_lt l3 (by decide), ?_⟩
    have W7 := W6.put 1 rfl rfl (b := a) (o' := .ins A.CS dx (putF "allocations" (.int 0) (putF "always" (.bl false) (putF "pressure" (.ref pr) (putF "store" (.ref x) [])))))
    have l4 := put_small (f := "allocations") (v := .int 0) l3
    refine ⟨_, rfl, a, _, dx, _, rfl, W7.get 1 rfl, T.clS, T.nS_collections, Nat.lt_of_le_of_lt l4 (by decide), ?_⟩
    have W8 := W7.put 1 rfl rfl (b := a) (o' := .ins A.CS dx (putF "collections" (.int 0) (putF "allocations" (.int 0) (putF "always" (.bl false) (putF "pressure" (.ref pr) (putF "store" (.ref x) []))))))
    have l5 := put_small (f := "collections") (v := .int 0) l4
    refine ⟨(by show 1 ≤ sizeLine; rw [sizeLine_eq]; decide), fun z hz => ?_⟩
    have W9 := W8.new (o := .lst [.int 0]) hz
    refine ⟨z, _, _, rfl, rfl, W9.get 0 rfl, by decide, by decide, (by show 1 * 16 ≤ sizeLine; rw [sizeLine_eq]; decide), fun rt hrt => ?_⟩
    have W10 := W9.new (o := .lst (List.replicate (16 : Int).toNat [V.int 0]).flatten) hrt
    refine ⟨_, rfl, a, _, dx, _, rfl, W10.get 3 rfl, T.clS, T.nS_roots, Nat.lt_of_le_of_lt l5 (by decide), ?_⟩
    have W11 := W10.put 3 rfl rfl (b := a) (o' := .ins A.CS dx (putF "_roots" (.ref rt) (putF "collections" (.int 0) (putF "allocations" (.int 0) (putF "always" (.bl false) (putF "pressure" (.ref pr) (putF "store" (.ref x) [])))))))
    have l6 := put_small (f := "_roots") (v := .ref rt) l5
    refine ⟨(by show 0 ≤ sizeLine; exact Nat.zero_le _), fun hd hhd => ?_⟩
    have W12 := W11.new (o := .lst []) hhd
    refine ⟨_, rfl, a, _, dx, _, rfl, W12.get 4 rfl, T.clS, T.nS_held, Nat.lt_of_le_of_lt l6 (by decide), ?_⟩
    have W13 := W12.put 4 rfl rfl (b := a) (o' := .ins A.CS dx (putF "_held" (.ref hd) (putF "_roots" (.ref rt) (putF "collections" (.int 0) (putF "allocations" (.int 0) (putF "always" (.bl false) (putF "pressure" (.ref pr) (putF "store" (.ref x) []))))))))
    have l7 := put_small (f := "_held") (v := .ref hd) l6
    refine ⟨_, rfl, a, _, dx, _, rfl, W13.get 4 rfl, T.clS, T.nS_saved, Nat.lt_of_le_of_lt l7 (by decide), ?_⟩
    rw [spF_init]
    have W14 := W13.put 4 rfl rfl (b := a) (o' := .ins A.CS dx (spF x pr false 0 0 rt hd .non))
    have W15 : Own A.T [a] H ([(hd, .lst []), (rt, .lst (List.replicate (16 : Int).toNat [V.int 0]).flatten), (z, .lst [.int 0]), (pr, .lst []), (a, .ins A.CS dx (spF x pr false 0 0 rt hd .non))] ++ c1) _ := W14
    have er : (List.replicate (16 : Int).toNat [V.int 0]).flatten = (List.replicate 16 (0 : Int)).map V.int := by rw [repeat_one, List.map_replicate]; rfl
    rw [er] at W15
    refine k _ ([(a, .ins A.CS dx (spF x pr false 0 0 rt hd .non)), (pr, .lst []), (rt, .lst ((List.replicate 16 (0 : Int)).map V.int)), (hd, .lst [])] ++ (c1 ++ [])) ⟨x, dx, pr, rt, hd, .non, c1, [], rfl, hS, ⟨rfl, rfl⟩, by simp [newSp], by simp [newSp], by simp [newSp]⟩ ?_
    rw [List.append_nil]
    have W16 := W15.sub (ds := [(hd, .lst []), (rt, .lst ((List.replicate 16 (0 : Int)).map V.int)), (pr, .lst []), (a, .ins A.CS dx (spF x pr false 0 0 rt hd .non))] ++ c1) (List.Sublist.append (((((List.Sublist.refl _).cons_cons _).cons_cons _).cons _).cons_cons _ |>.cons_cons _) (List.Sublist.refl _))
    refine W16.perm (List.Perm.append ?_ (List.Perm.refl _))
    exact (List.reverse_perm [(hd, HO.lst []), (rt, .lst ((List.replicate 16 (0 : Int)).map V.int)), (pr, .lst []), (a, .ins A.CS dx (spF x pr false 0 0 rt hd .non))]).symm
noncomputable def collD (D : SpD) (z : Int) : SpD := { D with colls := D.colls + 1, objs := kept D.objs (allW D ++ [z]) }
def spWith (A : Ads) : Sp := fun vs H Q _ => ∃ (a : Addr) (z : Int) (D : SpD) (cs : List Cell), vs = [.ref a, .int z] ∧ SpR A.CT A.CS a D cs ∧ Own A.T (adr cs) H cs H ∧
  ∀ (m : Int) (H' : Hp) (cs' : List Cell), SpR A.CT A.CS a (collD D z) cs' → Own A.T (adr cs) H cs' H' → Q (.int m) H'
theorem ok_p_with (T : Txt P K mg A) (TB : TabB base mg A.cc A.tb) : OkW P w K mg base 6 A.p_with (spWith A) := by
  refine okW T.f_p_with sc_p_with bh_p_with (fun vs H Q E h => ?_) (fun cdv Ar outer s0 H vs Q E c pn hr hw h => ?_)
  · obtain ⟨_, _, _, _, rfl, _⟩ := h
    rfl
  · obtain ⟨a, z, D, cs, rfl, hS, W, k⟩ := h
    have hS0 := hS
    obtain ⟨s, dx, pr, rt, hd, sv, c1, c2, rfl, hSt, hV, ⟨b1, b2, b3⟩, h1, h2, h3, h4, h5, h6⟩ := hS.open W.has
    refine ⟨_, pss_cons (ps_fld (pv 0) (pe_op op_add (pe_fld (pv 0) rfl) pe_int) rfl)
      (pss_one (ps_ret (pe_run ((ok_collect T TB).runs hr hw) T.g_collect T.k_collect (pa_cons (pe_fld (pv 0) rfl) (pa_cons (pe_op op_cat (pe_mrun0 (pv 0) T.clS T.m_p_all ((ok_p_all T).runs (hr.mono (by decide)) hw)) (pe_lst (pa_cons (pv 1) pa_nil))) pa_nil))))), ?_⟩
    refine ⟨_, rfl, a, _, dx, _, _, rfl, h1, T.clS, T.nS_collections, spF_collections, _, _, rfl, rfl, _, rfl, a, _, dx, _, rfl, h1, T.clS, T.nS_collections, spF_small, ?_⟩
    rw [spF_pcollections]
    have W1 := W.put 0 rfl rfl (b := a) (o' := .ins A.CS dx (spF s pr D.always D.allocs (D.colls + 1) rt hd sv))
    have hS1 : SpR A.CT A.CS a { D with colls := D.colls + 1 } (spH A.CS a dx s pr rt hd sv { D with colls := D.colls + 1 } ++ (c1 ++ c2)) :=
      ⟨s, dx, pr, rt, hd, sv, c1, c2, rfl, hSt, hV, b1, b2, b3⟩
    refine ⟨_, rfl, a, _, dx, _, _, rfl, W1.get 0 rfl, T.clS, T.nS_store, spF_store, ?_⟩
    refine ⟨_, rfl, a, dx, _, rfl, W1.get 0 rfl, spF_none (by decide +kernel), a, _, _, rfl, hS1, W1.has, W1.tb, fun H2 p2 R2 => ?_⟩
    have W2 := W1.call0 R2
    refine ⟨_, rfl, (by show 1 ≤ sizeLine; rw [sizeLine_eq]; decide), fun l hl => ?_⟩
    have W3 := W2.new (o := .lst [.int z]) hl
    have la : (allW D).length = 17 + D.held.length := by unfold allW; simp [b1]; omega
    refine ⟨p2, l, _, _, rfl, rfl, W3.get 1 rfl, W3.get 0 rfl, ?_, fun l2 hl2 => ?_⟩
    · refine Nat.le_of_lt (line1000 ?_)
      show ((allW D).map V.int).length + 1 ≤ 5000
      rw [List.length_map]
      omega
    have e : ((allW D).map V.int) ++ [V.int z] = (allW D ++ [z]).map V.int := by simp
    have W4 := W3.new (o := .lst (((allW D).map V.int) ++ [V.int z])) hl2
    have ew : allW { D with colls := D.colls + 1 } = allW D := rfl
    rw [ew, e]
    rw [e] at W4
    have W5 : Own A.T _ H (spH A.CS a dx s pr rt hd sv { D with colls := D.colls + 1 } ++ (c1 ++ c2)) _ := W4.tail.tail.tail
    refine ⟨s, l2, D.room, D.entries, D.objs, c1, allW D ++ [z], rfl, hSt, W5.right.left.start, upd_same, ?_, fun m H6 c6 hS6 R6 => ?_⟩
    · rw [List.length_append, List.length_singleton]
      omega
    · exact k m _ _ ⟨s, dx, pr, rt, hd, sv, c6, c2, rfl, hS6, hV, b1, b2, b3⟩ (W5.mid R6)
def spLive (A : Ads) : Sp := fun vs H Q _ => ∃ (a : Addr) (D : SpD) (cs : List Cell), vs = [.ref a] ∧ SpR A.CT A.CS a D cs ∧ Own A.T (adr cs) H cs H ∧
  ∀ (H' : Hp), Own A.T (adr cs) H cs H' → Q (.int ((tot (kept D.objs (allW D)) : Nat) : Int)) H'
theorem ok_p_live (T : Txt P K mg A) : Okd P w K mg base 5 A.p_live (spLive A) := by
  refine okN T.f_p_live sc_p_live bh_p_live (fun vs H Q E h => ?_) (fun cdv Ar outer s0 H vs Q E hr h => ?_)
  · obtain ⟨_, _, _, rfl, _⟩ := h
    rfl
  · obtain ⟨a, D, cs, rfl, hS, W, k⟩ := h
    have hS0 := hS
    obtain ⟨s, dx, pr, rt, hd, sv, c1, c2, rfl, hSt, hV, ⟨b1, b2, b3⟩, h1, h2, h3, h4, h5, h6⟩ := hS.open W.has
    have hrH := L2H.roomH_of hr
    refine ⟨_, pss_one (ps_ret (pe_run ((ok_words_of T).runs (hr.mono (by decide)) passN0) T.g_words_of T.k_words_of (pa_cons (pe_fld (pv 0) rfl) (pa_cons (pe_run ((ok_reached T).runs hrH (.inl rfl)) T.g_reached T.k_reached (pa_cons (pe_fld (pv 0) rfl) (pa_cons (pe_mrun0 (pv 0) T.clS T.m_p_all ((ok_p_all T).runs (hrH.mono (by decide)) (.inl rfl))) pa_nil))) pa_nil)))), ?_⟩
    refine ⟨_, rfl, a, _, dx, _, _, rfl, h1, T.clS, T.nS_store, spF_store, ?_⟩
    refine ⟨_, rfl, a, _, dx, _, _, rfl, h1, T.clS, T.nS_store, spF_store, ?_⟩
    refine ⟨_, rfl, a, dx, _, rfl, h1, spF_none (by decide +kernel), a, D, _, rfl, hS0, W.has, W.tb, fun H2 p2 R2 => ?_⟩
    have W2 := W.call0 R2
    have W2t : Own A.T _ H (spH A.CS a dx s pr rt hd sv D ++ (c1 ++ c2)) H2 := W2.tail
    have la : (allW D).length = 17 + D.held.length := by unfold allW; simp [b1]; omega
    refine ⟨s, p2, D.room, D.entries, D.objs, c1, allW D, rfl, hSt, W2t.right.left.has, W2.get 0 rfl, by omega, W2.tb, fun H3 d kvs fs hF R3 => ?_⟩
    have W3 : Own A.T _ H ([(d, .dK kvs)] ++ (spH A.CS a dx s pr rt hd sv D ++ (c1 ++ c2))) H3 := W2t.call0 R3
    have W4 : Own A.T _ H (((d, .dK kvs) :: c1) ++ (spH A.CS a dx s pr rt hd sv D ++ c2)) H3 := W3.perm (show List.Perm ((d, HO.dK kvs) :: (spH A.CS a dx s pr rt hd sv D ++ (c1 ++ c2))) ((d, HO.dK kvs) :: (c1 ++ (spH A.CS a dx s pr rt hd sv D ++ c2))) from (List.perm_append_comm_assoc _ _ _).cons _)
    have hO : StOk D.room D.entries D.objs := by obtain ⟨_, _, _, _, _, _, _, hO, _⟩ := hSt.open h5; exact hO
    refine ⟨s, d, D.room, D.entries, D.objs, c1, kvs, fs, rfl, hSt, W4.left.start, hF.keys, fun n hn => ((hF.mem n).mp hn).mem, ?_, fun H5 R5 => ?_⟩
    · have : fs.length ≤ (nums D.objs).length := nodup_sub hF.nd hO.nd fun n hn => ((hF.mem n).mp hn).mem
      rw [nums_length] at this
      have := hO.lenle
      omega
    · rw [live_tot hO.nd hF.nd hF.mem]
      have W5 : Own A.T _ H ((d, .dK kvs) :: (c1 ++ (spH A.CS a dx s pr rt hd sv D ++ c2))) H5 := W4.call R5
      exact k _ (W5.tail.perm (List.perm_append_comm_assoc _ _ _))
end
end K9
end
section
set_option Elab.async false
set_option linter.all false
set_option maxRecDepth 100000
set_option maxHeartbeats 4000000
/-! A space's methods, the fourth part: collect, fitted, new. -/
namespace K9
open PySem PySem.Spec PyProof.Rows L2 LamX
theorem warm_suite {X : Cx} {a : Addr} {oe : Obj} {cls : Value} {d : Option Addr} {pn : List (Addr × Obj)} (hz : L2N.Zn cls d oe) (hf : ∃ vs, oe.data = .fields vs) : Warm (X.suite a ((a, oe) :: pn)) := by
  obtain ⟨vs, hv⟩ := hf
  exact .inr ⟨(a, oe), ⟨rfl, vs, hv, hz.2.2 vs hv⟩, List.mem_cons_self⟩
theorem room_mark {k : Nat} {A : Around} {v : Option Value} (h : L2H.RoomH k A) : L2H.RoomH k (A.mark v) := ⟨h.dp, h.un⟩
theorem takesNo {X : Cx} : L2N.Takes X (fun _ _ _ _ => False) := fun _ _ ⟨_, _, _, _, _, _, _, _, _, _, _, _, _, _, _, _, w⟩ => w.elim
/-! ### the outcomes of new -/
inductive Out
  | made (n : Int)
  | room
  | num
def AllocR (room entries : Int) (all : List Ob) (kind : Int) (size : Nat) : Out → List Ob → Prop
  | .made n, all' => (tot all : Int) + 3 + (size : Int) ≤ room ∧ (all.length : Int) < entries ∧ (n ∉ nums all ∧ (all = [] → n = 0)) ∧ all' = all ++ [newOb n kind size]
  | .room, all' => room < (tot all : Int) + 3 + (size : Int) ∧ all' = all
  | .num, all' => (tot all : Int) + 3 + (size : Int) ≤ room ∧ entries ≤ (all.length : Int) ∧ all' = all
def Fits (D : SpD) (size : Nat) : Prop := (tot D.objs : Int) + 3 + (size : Int) ≤ D.room ∧ (D.objs.length : Int) < D.entries
def FitR (D : SpD) (kind : Int) (size : Nat) (o : Out) (D' : SpD) : Prop :=
  (Fits D size ∧ ∃ all', AllocR D.room D.entries D.objs kind size o all' ∧ D' = { D with objs := all' }) ∨
  (¬ Fits D size ∧ ∃ all', AllocR D.room D.entries (kept D.objs (allW D ++ [kind])) kind size o all' ∧ D' = { collD D kind with objs := all' })
def NewR (D : SpD) (kind : Int) (size : Nat) (o : Out) (D' : SpD) : Prop :=
  (D.saved ≠ none ∧ ∃ all', AllocR D.room D.entries D.objs kind size o all' ∧ D' = { D with allocs := D.allocs + 1, objs := all' }) ∨
  (D.saved = none ∧ ((D.always = true ∨ D.allocs + 1 ∈ D.press) ∧ FitR (collD { D with allocs := D.allocs + 1 } kind) kind size o D' ∨ ¬ (D.always = true ∨ D.allocs + 1 ∈ D.press) ∧ FitR { D with allocs := D.allocs + 1 } kind size o D'))
def OutK (A : Ads) (a : Addr) (F : List Addr) (H : Hp) (D' : SpD) (size : Nat) (Q : VK) (E : XK) : Out → Prop
  | .made n => ∀ (H' : Hp) (cs' : List Cell), SpR A.CT A.CS a D' cs' → Own A.T F H cs' H' → Q (.int n) H'
  | .room => ∀ (d : Addr) (H' : Hp) (cs' : List Cell), SpR A.CT A.CS a D' cs' → Own A.T F H ((d, .xd [("need", .int (3 + (size : Int)))]) :: cs') H' → E (.ref A.cR) (some d) H'
  | .num => ∀ (d : Addr) (H' : Hp) (cs' : List Cell), SpR A.CT A.CS a D' cs' → Own A.T F H ((d, .xd [("limit", .int D'.entries)]) :: cs') H' → E (.ref A.cN) (some d) H'
theorem inV_int (n : Int) (ms : List Int) : inV (.int n) (ms.map V.int) = decide (n ∈ ms) := by
  induction ms with
  | nil => rfl
  | cons m ms ih =>
    unfold inV at ih ⊢
    rw [List.map_cons, List.any_cons, ih]
    show ((m == n) || decide (n ∈ ms)) = decide (n ∈ m :: ms)
    by_cases e : m = n
    · subst e; simp
    · have : (m == n) = false := by simpa using e
      rw [this]
      simp [Ne.symm e]
theorem flat_ints (ms : List Int) : (ms.map V.int).all flatV = true := by
  rw [List.all_map]
  exact List.all_eq_true.mpr fun _ _ => rfl
theorem sav_non {room entries : Int} {o : Option Sav} {sv : V} {cs : List Cell} (h : SavR room entries o sv cs) : decide (sv = .non) = decide (o = none) := by
  cases o with
  | none => rw [h.1]; rfl
  | some S =>
    obtain ⟨t, _, _, _, _, _, _, rfl, _⟩ := h
    simp
theorem Own.whole {T : List (Addr × Str)} {F : List Addr} {H0 H H' : Hp} {cs ds : List Cell} (W : Own T F H0 cs H) (R : Own T (adr cs) H ds H') : Own T F H0 ds H' := by
  have W1 : Own T F H0 (cs ++ []) H := by rw [List.append_nil]; exact W
  have W2 := W1.call R
  rw [List.append_nil] at W2
  exact W2
section
variable {P : Program} {w : World} {K : PySem.W.Frag} {mg : Str → Option Value} {base : Heap} {A : Ads}
/-- allocate of the store within a space -/
def AllocK (A : Ads) (a : Addr) (F : List Addr) (H : Hp) (D : SpD) (kind : Int) (size : Nat) (Q : VK) (E : XK) : Prop := ∀ (o : Out) (all' : List Ob), AllocR D.room D.entries D.objs kind size o all' → OutK A a F H { D with objs := all' } size Q E o
theorem alloc_in {a : Addr} {D : SpD} {kind : Int} {size : Nat} {F : List Addr} {H0 H : Hp} {s dx pr rt hd : Addr} {sv : V} {c1 c2 : List Cell} {Q : VK} {E : XK} (W : Own A.T F H0 (spH A.CS a dx s pr rt hd sv D ++ (c1 ++ c2)) H) (hSt : StR A.CT s D.room D.entries D.objs [] c1) (hV : SavR D.room D.entries D.saved sv c2)
    (hB : D.roots.length = 16 ∧ D.held.length ≤ 1000 ∧ D.press.length ≤ 100) (hz : size ≤ 1000) (k : AllocK A a F H0 D kind size Q E) : spAlloc A [.ref s, .int kind, .int (size : Int)] H Q E := by
  refine ⟨s, kind, D.room, D.entries, size, D.objs, c1, rfl, hSt, W.right.left.start, hz, fun h1 h2 n H1 c hn hS R => ?_, fun h1 d H1 R => ?_, fun h1 h2 d H1 c hS R => ?_⟩
  · exact k (.made n) _ ⟨h1, h2, hn, rfl⟩ _ _ ⟨s, dx, pr, rt, hd, sv, c, c2, rfl, hS, hV, hB⟩ (W.mid R)
  · have W1 : Own A.T F H0 (spH A.CS a dx s pr rt hd sv D ++ (((d, .xd [("need", .int (3 + (size : Int)))]) :: c1) ++ c2)) H1 := W.mid R
    exact k .room _ ⟨h1, rfl⟩ d _ _ ⟨s, dx, pr, rt, hd, sv, c1, c2, rfl, hSt, hV, hB⟩ (W1.perm List.perm_middle)
  · have W1 : Own A.T F H0 (spH A.CS a dx s pr rt hd sv D ++ (((d, .xd [("limit", .int D.entries)]) :: c) ++ c2)) H1 := W.mid R
    exact k .num _ ⟨h1, h2, rfl⟩ d _ _ ⟨s, dx, pr, rt, hd, sv, c, c2, rfl, hS, hV, hB⟩ (W1.perm List.perm_middle)
def spFit (A : Ads) : Sp := fun vs H Q E => ∃ (a : Addr) (kind : Int) (size : Nat) (D : SpD) (cs : List Cell), vs = [.ref a, .int kind, .int (size : Int)] ∧ SpR A.CT A.CS a D cs ∧ Own A.T (adr cs) H cs H ∧ size ≤ 1000 ∧
  ∀ (o : Out) (D' : SpD), FitR D kind size o D' → OutK A a (adr cs) H D' size Q E o
theorem ok_p_fit (T : Txt P K mg A) (TB : TabB base mg A.cc A.tb) : Okd P w K mg base 8 A.p_fit (spFit A) := by
  refine okR T.f_p_fit sc_p_fit bh_p_fit (fun vs H Q E h => ?_) (fun cdv Ar outer s0 H vs Q E hr h => ?_)
  · obtain ⟨_, _, _, _, _, rfl, _⟩ := h
    rfl
  · obtain ⟨a, kind, size, D, cs, rfl, hS, W, hz, k⟩ := h
    obtain ⟨s, dx, pr, rt, hd, sv, c1, c2, rfl, hSt, hV, hB, h1, h2, h3, h4, h5, h6⟩ := hS.open W.has
    have hrH := L2H.roomH_of hr
    have hr4 := hr.mono (j := 4) (by decide)
    refine ⟨_, pss_cons (L2N.ps_try_many (tb := fun W => tRet (L2H.tMethH A.CT "allocate" (spAlloc A) (fun σ => WE W σ) (tFld K (tVar 0) "store") (tCons (tVar 1) (tCons (tVar 2) tNil)))) (Wout := fun _ _ _ _ => False) rfl rfl takesNo
        (fun W pn xe tk _ => pss_one (ps_ret (by exact (pe_mrun (pe_fld (pv 0) rfl) T.clT T.m_s_alloc ((ok_s_alloc T).runs hr4 (fun σ => L2N.passAt tk σ)) (pa_cons (pv 1) (pa_cons (pv 2) pa_nil))))))
        (.cons ⟨rfl, by decide, .inl T.xR.gC⟩ (fun a0 oe cls d pn hz hf => pss_one (ps_expr (by exact (pe_mrun (pv 0) T.clS T.m_p_with ((ok_p_with T TB).runs (room_mark (hrH.mono (by decide))) (warm_suite hz hf)) (pa_cons (pv 1) pa_nil)))))
        (.cons ⟨rfl, by decide, .inl T.xN.gC⟩ (fun a0 oe cls d pn hz hf => pss_one (ps_expr (by exact (pe_mrun (pv 0) T.clS T.m_p_with ((ok_p_with T TB).runs (room_mark (hrH.mono (by decide))) (warm_suite hz hf)) (pa_cons (pv 1) pa_nil))))) .nil)))
      (pss_one (ps_ret (pe_mrun (pe_fld (pv 0) rfl) T.clT T.m_s_alloc ((ok_s_alloc T).runs hr4 (fun σ => L2N.passAt (L2N.takes_of rfl rfl rfl rfl) σ)) (pa_cons (pv 1) (pa_cons (pv 2) pa_nil))))), ?_⟩
    obtain ⟨_, _, _, _, _, _, _, _, _, e1, _, _⟩ := hSt.open h5
    refine ⟨_, rfl, a, _, dx, _, _, rfl, h1, T.clS, T.nS_store, spF_store, s, _, _, rfl, e1, stF_none (by decide +kernel), _, rfl, _, rfl, ?_⟩
    -- what follows a failure
    have again : ¬ Fits D size → ∀ (H1 : Hp) (cs1 : List Cell), SpR A.CT A.CS a D cs1 → Own A.T (adr (spH A.CS a dx s pr rt hd sv D ++ (c1 ++ c2))) H cs1 H1 →
        L2H.tMethH A.CS "collect_with" (spWith A) E0S (tVar 0) (tCons (tVar 1) tNil) [some (.ref a), some (.int kind), some (.int (size : Int))] H1 (fun _ H2 => tRet (L2H.tMethH A.CT "allocate" (spAlloc A) (fun σ => WE (fun cls d _ H => E cls d H) σ) (tFld K (tVar 0) "store") (tCons (tVar 1) (tCons (tVar 2) tNil))) { nx := fun _ H' => Q .non H', rt := Q } [some (.ref a), some (.int kind), some (.int (size : Int))] H2) := by
      intro hf H1 cs1 hS1 W1
      obtain ⟨s', dx', pr', rt', hd', sv', c1', c2', rfl, hSt', hV', hB', h1', h2', h3', h4', h5', h6'⟩ := hS1.open W1.has
      refine ⟨_, rfl, a, dx', _, rfl, h1', spF_none (by decide +kernel), _, rfl, a, kind, D, _, rfl, hS1, W1.start, fun m H2 cs2 hS2 R2 => ?_⟩
      have W2 := W1.whole R2
      obtain ⟨s2, dx2, pr2, rt2, hd2, sv2, d1, d2, rfl, hSt2, hV2, hB2, g1, g2, g3, g4, g5, g6⟩ := hS2.open W2.has
      obtain ⟨_, _, _, _, _, _, _, _, _, e2, _, _⟩ := hSt2.open g5
      refine ⟨_, rfl, a, _, dx2, _, _, rfl, g1, T.clS, T.nS_store, spF_store, s2, _, _, rfl, e2, stF_none (by decide +kernel), _, rfl, _, rfl, ?_⟩
      exact alloc_in (D := collD D kind) W2 hSt2 hV2 hB2 hz fun o all' hA => k o _ (.inr ⟨hf, all', hA, rfl⟩)
    refine alloc_in W hSt hV hB hz fun o all' hA => ?_
    cases o with
    | made n => exact k (.made n) _ (.inl ⟨⟨hA.1, hA.2.1⟩, all', hA, rfl⟩)
    | room =>
      intro d H1 cs1 hS1 R1
      obtain ⟨hA1, rfl⟩ := hA
      exact ⟨true, T.e_RR, fun _ a0 _ => again (fun z => by have := z.1; omega) H1 cs1 hS1 R1.tail, fun q => Bool.noConfusion q⟩
    | num =>
      intro d H1 cs1 hS1 R1
      obtain ⟨hA1, hA2, rfl⟩ := hA
      exact ⟨false, T.e_NR, fun q => Bool.noConfusion q, fun _ => ⟨true, T.e_NN, fun _ a0 _ => again (fun z => by have := z.2; omega) H1 cs1 hS1 R1.tail, fun q => Bool.noConfusion q⟩⟩
def spNew (A : Ads) : Sp := fun vs H Q E => ∃ (a : Addr) (kind : Int) (size : Nat) (D : SpD) (cs : List Cell), vs = [.ref a, .int kind, .int (size : Int)] ∧ SpR A.CT A.CS a D cs ∧ Own A.T (adr cs) H cs H ∧ size ≤ 1000 ∧
  ∀ (o : Out) (D' : SpD), NewR D kind size o D' → OutK A a (adr cs) H D' size Q E o
theorem ok_p_new (T : Txt P K mg A) (TB : TabB base mg A.cc A.tb) : Okd P w K mg base 9 A.p_new (spNew A) := by
  refine okR T.f_p_new sc_p_new bh_p_new (fun vs H Q E h => ?_) (fun cdv Ar outer s0 H vs Q E hr h => ?_)
  · obtain ⟨_, _, _, _, _, rfl, _⟩ := h
    rfl
  · obtain ⟨a, kind, size, D, cs, rfl, hS, W, hz, k⟩ := h
    obtain ⟨s, dx, pr, rt, hd, sv, c1, c2, rfl, hSt, hV, hB, h1, h2, h3, h4, h5, h6⟩ := hS.open W.has
    have hrH := L2H.roomH_of hr
    have hr4 := hr.mono (j := 4) (by decide)
    refine ⟨_, pss_cons (ps_fld (pv 0) (pe_op op_add (pe_fld (pv 0) rfl) pe_int) rfl)
      (pss_cons (ps_if (pt_cmpR op_notN (pe_fld (pv 0) rfl) pe_non (nomark _)) (pss_one (ps_ret (pe_mrun (pe_fld (pv 0) rfl) T.clT T.m_s_alloc ((ok_s_alloc T).runs hr4 (fun σ => L2N.passAt (L2N.takes_of rfl rfl rfl rfl) σ)) (pa_cons (pv 1) (pa_cons (pv 2) pa_nil))))) pss_nil)
      (pss_cons (ps_if (PW.pt (pw_or (pt_val (pe_fld (pv 0) rfl)) (pw_or1 (pt_cmpR op_in_seq (pe_fld (pv 0) rfl) (pe_fld (pv 0) rfl) rfl)))) (pss_one (ps_expr (pe_mrun (pv 0) T.clS T.m_p_with ((ok_p_with T TB).runs (hrH.mono (by decide)) (.inl rfl)) (pa_cons (pv 1) pa_nil)))) pss_nil)
      (pss_one (ps_ret (pe_mrun (pv 0) T.clS T.m_p_fit ((ok_p_fit T TB).runs hr (fun σ => L2N.passAt (L2N.takes_of rfl rfl rfl rfl) σ)) (pa_cons (pv 1) (pa_cons (pv 2) pa_nil))))))), ?_⟩
    refine ⟨_, rfl, a, _, dx, _, _, rfl, h1, T.clS, T.nS_allocations, spF_allocations, _, _, rfl, rfl, _, rfl, a, _, dx, _, rfl, h1, T.clS, T.nS_allocations, spF_small, ?_⟩
    rw [spF_pallocations]
    have W1 : Own A.T _ H (spH A.CS a dx s pr rt hd sv { D with allocs := D.allocs + 1 } ++ (c1 ++ c2)) _ := W.put 0 rfl rfl (b := a) (o' := .ins A.CS dx (spF s pr D.always (D.allocs + 1) D.colls rt hd sv))
    have hS1 : SpR A.CT A.CS a { D with allocs := D.allocs + 1 } (spH A.CS a dx s pr rt hd sv { D with allocs := D.allocs + 1 } ++ (c1 ++ c2)) := ⟨s, dx, pr, rt, hd, sv, c1, c2, rfl, hSt, hV, hB⟩
    have g1 := W1.get 0 rfl
    refine ⟨_, rfl, a, _, dx, _, _, rfl, g1, T.clS, T.nS_saved, spF_saved, rfl, _, rfl, ?_⟩
    rw [sav_non hV]
    by_cases hs : D.saved = none
    rotate_left
    · refine itT (by simp [hs]) ?_
      obtain ⟨_, _, _, _, _, _, _, _, _, e1, _, _⟩ := hSt.open W1.right.left.has
      refine ⟨_, rfl, a, _, dx, _, _, rfl, g1, T.clS, T.nS_store, spF_store, s, _, _, rfl, e1, stF_none (by decide +kernel), _, rfl, _, rfl, ?_⟩
      exact alloc_in (D := { D with allocs := D.allocs + 1 }) W1 hSt hV hB hz fun o all' hA => k o _ (.inl ⟨hs, all', hA, rfl⟩)
    refine itF (by simp [hs]) ?_
    -- the end
    have fin : ∀ (H1 : Hp) (cs1 : List Cell) (D1 : SpD), SpR A.CT A.CS a D1 cs1 → Own A.T (adr (spH A.CS a dx s pr rt hd sv D ++ (c1 ++ c2))) H cs1 H1 → (∀ (o : Out) (D' : SpD), FitR D1 kind size o D' → NewR D kind size o D') →
        tRet (L2H.tMethH A.CS "fitted" (spFit A) (fun σ => WE (fun cls d _ H => E cls d H) σ) (tVar 0) (tCons (tVar 1) (tCons (tVar 2) tNil))) { nx := fun _ H' => Q .non H', rt := Q } [some (.ref a), some (.int kind), some (.int (size : Int))] H1 := by
      intro H1 cs1 D1 hS1 W1 hk
      obtain ⟨s', dx', pr', rt', hd', sv', c1', c2', rfl, hSt', hV', hB', h1', h2', h3', h4', h5', h6'⟩ := hS1.open W1.has
      refine ⟨_, rfl, a, dx', _, rfl, h1', spF_none (by decide +kernel), _, rfl, _, rfl, a, kind, size, D1, _, rfl, hS1, W1.start, hz, fun o D' hF => ?_⟩
      have hN := k o D' (hk o D' hF)
      cases o with
      | made n => exact fun H2 cs2 hS2 R2 => hN H2 cs2 hS2 (W1.whole R2)
      | room => exact fun d H2 cs2 hS2 R2 => hN d H2 cs2 hS2 (W1.whole R2)
      | num => exact fun d H2 cs2 hS2 R2 => hN d H2 cs2 hS2 (W1.whole R2)
    have dop : ∀ (hp : D.always = true ∨ D.allocs + 1 ∈ D.press),
        L2H.tMethH A.CS "collect_with" (spWith A) E0S (tVar 0) (tCons (tVar 1) tNil) [some (.ref a), some (.int kind), some (.int (size : Int))] (upd H a (.ins A.CS dx (spF s pr D.always (D.allocs + 1) D.colls rt hd sv))) (fun _ H2 => tRet (L2H.tMethH A.CS "fitted" (spFit A) (fun σ => WE (fun cls d _ H => E cls d H) σ) (tVar 0) (tCons (tVar 1) (tCons (tVar 2) tNil))) { nx := fun _ H' => Q .non H', rt := Q } [some (.ref a), some (.int kind), some (.int (size : Int))] H2) := by
      intro hp
      refine ⟨_, rfl, a, dx, _, rfl, g1, spF_none (by decide +kernel), _, rfl, a, kind, _, _, rfl, hS1, W1.start, fun m H2 cs2 hS2 R2 => ?_⟩
      exact fin H2 cs2 _ hS2 (W1.whole R2) fun o D' hF => .inr ⟨hs, .inl ⟨hp, hF⟩⟩
    refine ⟨_, rfl, a, _, dx, _, _, rfl, g1, T.clS, T.nS_always, spF_always, _, rfl, ?_⟩
    refine ite2 (fun c => ?_) (fun c => ?_)
    · refine itT rfl ?_
      exact dop (.inl c)
    · refine ⟨_, rfl, a, _, dx, _, _, rfl, g1, T.clS, T.nS_allocations, spF_allocations, _, rfl, a, _, dx, _, _, rfl, g1, T.clS, T.nS_pressure, spF_pressure, pr, _, rfl, .inl (SqL.of (W1.get 1 rfl)), rfl, flat_ints _, _, rfl, ?_⟩
      rw [if_neg Bool.false_ne_true, inV_int]
      by_cases hp : D.allocs + 1 ∈ D.press
      · refine itT (decide_eq_true hp) ?_
        exact dop (.inr hp)
      · refine itF (decide_eq_false hp) ?_
        exact fin _ _ _ hS1 W1 fun o D' hF => .inr ⟨hs, .inr ⟨fun z => z.elim (fun q => c q) hp, hF⟩⟩
end
end K9
end
section
set_option Elab.async false
set_option linter.all false
set_option maxRecDepth 100000
set_option maxHeartbeats 4000000
/-! A space's methods, the fifth part: collect, begin, commit, abort. -/
namespace K9
open PySem PySem.Spec PyProof.Rows L2 LamX
theorem Own.shape {T : List (Addr × Str)} {F : List Addr} {H0 H : Hp} {cs cs' : List Cell} (W : Own T F H0 cs H) (e : cs = cs') : Own T F H0 cs' H := e ▸ W
section
variable {P : Program} {w : World} {K : PySem.W.Frag} {mg : Str → Option Value} {base : Heap} {A : Ads}
/-- what a Wrong brings -/
def WrongK (A : Ads) (F : List Addr) (H : Hp) (cs : List Cell) (why : Str) (E : XK) : Prop := ∀ (d : Addr) (H' : Hp), Own A.T F H ((d, .xd [("why", .str why)]) :: cs) H' → E (.ref A.cW) (some d) H'
def spPColl (A : Ads) : Sp := fun vs H Q E => ∃ (a : Addr) (D : SpD) (cs : List Cell), vs = [.ref a] ∧ SpR A.CT A.CS a D cs ∧ Own A.T (adr cs) H cs H ∧
  (D.saved = none → ∀ (m : Int) (H' : Hp) (cs' : List Cell), SpR A.CT A.CS a (collD D 0) cs' → Own A.T (adr cs) H cs' H' → Q (.int m) H') ∧
  (D.saved ≠ none → WrongK A (adr cs) H cs "open" E)
theorem ok_p_collect (T : Txt P K mg A) (TB : TabB base mg A.cc A.tb) : Okd P w K mg base 7 A.p_collect (spPColl A) := by
  refine okR T.f_p_collect sc_p_collect bh_p_collect (fun vs H Q E h => ?_) (fun cdv Ar outer s0 H vs Q E hr h => ?_)
  · obtain ⟨_, _, _, rfl, _⟩ := h
    rfl
  · obtain ⟨a, D, cs, rfl, hS, W, kc, kw⟩ := h
    have hS0 := hS
    obtain ⟨s, dx, pr, rt, hd, sv, c1, c2, rfl, hSt, hV, hB, h1, h2, h3, h4, h5, h6⟩ := hS.open W.has
    have hrH := L2H.roomH_of hr
    obtain ⟨tN, gN⟩ := T.g_NIL
    refine ⟨_, pss_cons (ps_if (pt_cmpR op_notN (pe_fld (pv 0) rfl) pe_non (nomark _)) (pss_one (L2N.ps_raise rfl (L2N.takes_of rfl rfl rfl rfl) (pmk_why T.xW T.htop hr (pa_cons pe_str pa_nil)))) pss_nil)
      (pss_one (ps_ret (pe_mrun (pv 0) T.clS T.m_p_with ((ok_p_with T TB).runs hrH (.inl rfl)) (pa_cons (pe_glob (v := .int 0) rfl gN ⟨_, rfl⟩) pa_nil)))), ?_⟩
    refine ⟨_, rfl, a, _, dx, _, _, rfl, h1, T.clS, T.nS_saved, spF_saved, rfl, _, rfl, ?_⟩
    rw [sav_non hV]
    by_cases hs : D.saved = none
    · refine itF (by simp [hs]) ?_
      exact ⟨_, rfl, a, dx, _, rfl, h1, spF_none (by decide +kernel), a, 0, D, _, rfl, hS0, W.start, fun m H2 cs2 hS2 R2 => kc hs m H2 cs2 hS2 R2⟩
    · refine itT (by simp [hs]) ?_
      exact ⟨_, rfl, trivial, fun d hd => kw hs d _ (W.new hd)⟩
def spBegin (A : Ads) : Sp := fun vs H Q E => ∃ (a : Addr) (D : SpD) (cs : List Cell), vs = [.ref a] ∧ SpR A.CT A.CS a D cs ∧ Own A.T (adr cs) H cs H ∧
  (D.saved = none → ∀ (H' : Hp) (cs' : List Cell), SpR A.CT A.CS a { collD D 0 with saved := some ⟨(collD D 0).objs, D.roots, D.held⟩ } cs' → Own A.T (adr cs) H cs' H' → Q .non H') ∧
  (D.saved ≠ none → WrongK A (adr cs) H cs "open" E)
theorem ok_p_begin (T : Txt P K mg A) (TB : TabB base mg A.cc A.tb) : Okd P w K mg base 8 A.p_begin (spBegin A) := by
  refine okR T.f_p_begin sc_p_begin bh_p_begin (fun vs H Q E h => ?_) (fun cdv Ar outer s0 H vs Q E hr h => ?_)
  · obtain ⟨_, _, _, rfl, _⟩ := h
    rfl
  · obtain ⟨a, D, cs, rfl, hS, W, kc, kw⟩ := h
    have hS0 := hS
    obtain ⟨s, dx, pr, rt, hd, sv, c1, c2, rfl, hSt, hV, hB, h1, h2, h3, h4, h5, h6⟩ := hS.open W.has
    have hrH := L2H.roomH_of hr
    refine ⟨_, pss_cons (ps_if (pt_cmpR op_notN (pe_fld (pv 0) rfl) pe_non (nomark _)) (pss_one (L2N.ps_raise rfl (L2N.takes_of rfl rfl rfl rfl) (pmk_why T.xW T.htop hr (pa_cons pe_str pa_nil)))) pss_nil)
      (pss_cons (ps_expr (pe_mrun0 (pv 0) T.clS T.m_p_collect ((ok_p_collect T TB).runs hr (fun σ => L2N.passAt (L2N.takes_of rfl rfl rfl rfl) σ))))
      (pss_one (ps_fld (pv 0) (pe_tup (pa_cons (pe_mrun0 (pe_fld (pv 0) rfl) T.clT T.m_s_snap ((ok_s_snap T).runs (hr.mono (by decide)) passN0)) (pa_cons (pe_callTy call_list_of (by rfl) T.b_list (by decide +kernel) (pa_cons (pe_fld (pv 0) rfl) pa_nil)) (pa_cons (pe_callTy call_list_of (by rfl) T.b_list (by decide +kernel) (pa_cons (pe_fld (pv 0) rfl) pa_nil)) pa_nil)))) rfl))), ?_⟩
    refine ⟨_, rfl, a, _, dx, _, _, rfl, h1, T.clS, T.nS_saved, spF_saved, rfl, _, rfl, ?_⟩
    rw [sav_non hV]
    by_cases hs : D.saved = none
    rotate_left
    · refine itT (by simp [hs]) ?_
      exact ⟨_, rfl, trivial, fun d hd => kw hs d _ (W.new hd)⟩
    refine itF (by simp [hs]) ?_
    refine ⟨_, rfl, a, dx, _, rfl, h1, spF_none (by decide +kernel), a, D, _, rfl, hS0, W.start, fun _ m H2 cs2 hS2 R2 => ?_, fun z => (z hs).elim⟩
    have W2 := W.whole R2
    obtain ⟨s2, dx2, pr2, rt2, hd2, sv2, d1, d2, rfl, hSt2, hV2, ⟨b1, b2, b3⟩, g1, g2, g3, g4, g5, g6⟩ := hS2.open W2.has
    obtain ⟨_, _, _, _, _, _, _, hO, _, e2, _, _⟩ := hSt2.open g5
    refine ⟨_, rfl, a, _, dx2, _, _, rfl, g1, T.clS, T.nS_store, spF_store, s2, _, _, rfl, e2, stF_none (by decide +kernel), s2, _, _, _, d1, rfl, hSt2, g5, W2.tb, fun H3 t2 w2 p2 kvs hP R3 => ?_⟩
    have W3 := W2.call0 R3
    refine ⟨_, rfl, a, _, dx2, _, _, rfl, W3.get 3 rfl, T.clS, T.nS_roots, spF_roots, rt2, _, rfl, .inl (SqL.of (W3.get 5 rfl)), fun r2 hr2 => ?_⟩
    have W4 := W3.new (o := .lst (D.roots.map V.int)) hr2
    refine ⟨_, rfl, a, _, dx2, _, _, rfl, W4.get 4 rfl, T.clS, T.nS_held, spF_held, hd2, _, rfl, .inl (SqL.of (W4.get 7 rfl)), fun q2 hq2 => ?_⟩
    have W5 := W4.new (o := .lst (D.held.map V.int)) hq2
    refine ⟨(by show 3 ≤ sizeLine; rw [sizeLine_eq]; decide), fun t ht => ?_⟩
    have W6 := W5.new (o := .tup [.ref t2, .ref r2, .ref q2]) ht
    refine ⟨_, rfl, a, _, dx2, _, rfl, W6.get 6 rfl, T.clS, T.nS_saved, spF_small, ?_⟩
    rw [spF_psaved]
    have W7 := W6.put 6 rfl rfl (b := a) (o' := .ins A.CS dx2 (spF s2 pr2 D.always D.allocs (D.colls + 1) rt2 hd2 (.ref t)))
    have hd2e : d2 = [] := by
      have hV2' : SavR D.room D.entries D.saved sv2 d2 := hV2
      rw [hs] at hV2'
      exact hV2'.2
    subst hd2e
    refine kc hs _ (spH A.CS a dx2 s2 pr2 rt2 hd2 (.ref t) { collD D 0 with saved := some ⟨(collD D 0).objs, D.roots, D.held⟩ } ++ (d1 ++ [(t, .tup [.ref t2, .ref r2, .ref q2]), (t2, .tup [.ref w2, .ref p2]), (w2, .lst ((flat (collD D 0).objs).map V.int)), (p2, .dK kvs), (r2, .lst (D.roots.map V.int)), (q2, .lst (D.held.map V.int))]))
      ⟨s2, dx2, pr2, rt2, hd2, .ref t, d1, _, rfl, hSt2, ⟨t, t2, w2, p2, r2, q2, kvs, rfl, rfl, hP, hO, b1, b2⟩, b1, b2, b3⟩ ?_
    have W8 : Own A.T _ H ([(t, .tup [.ref t2, .ref r2, .ref q2]), (q2, .lst (D.held.map V.int)), (r2, .lst (D.roots.map V.int)), (t2, .tup [.ref w2, .ref p2]), (p2, .dK kvs), (w2, .lst ((flat (collD D 0).objs).map V.int))] ++ (spH A.CS a dx2 s2 pr2 rt2 hd2 (.ref t) { collD D 0 with saved := some ⟨(collD D 0).objs, D.roots, D.held⟩ } ++ (d1 ++ []))) _ := W7
    rw [List.append_nil] at W8
    have W9 := W8.comm
    rw [List.append_assoc] at W9
    refine W9.perm (List.Perm.append (List.Perm.refl _) (List.Perm.append (List.Perm.refl _) ?_))
    refine List.Perm.cons _ ?_
    -- [q2, r2, t2, p2, w2] to [t2, w2, p2, r2, q2]
    exact (List.reverse_perm [(q2, HO.lst (D.held.map V.int)), (r2, .lst (D.roots.map V.int)), (t2, .tup [.ref w2, .ref p2]), (p2, .dK kvs), (w2, .lst ((flat (collD D 0).objs).map V.int))]).symm.trans (((List.Perm.swap _ _ _).trans ((List.Perm.swap _ _ _).symm)).trans (by
      show List.Perm [(w2, _), (p2, _), (t2, _), (r2, _), (q2, _)] [(t2, _), (w2, _), (p2, _), (r2, _), (q2, _)]
      exact ((List.Perm.swap _ _ _).cons _).trans (List.Perm.swap _ _ _)))
def spCommit (A : Ads) : Sp := fun vs H Q E => ∃ (a : Addr) (D : SpD) (cs : List Cell), vs = [.ref a] ∧ SpR A.CT A.CS a D cs ∧ Own A.T (adr cs) H cs H ∧
  (D.saved ≠ none → ∀ (H' : Hp) (cs' : List Cell), SpR A.CT A.CS a { D with saved := none } cs' → Own A.T (adr cs) H cs' H' → Q .non H') ∧
  (D.saved = none → WrongK A (adr cs) H cs "closed" E)
theorem ok_p_commit (T : Txt P K mg A) : Okd P w K mg base 2 A.p_commit (spCommit A) := by
  refine okR T.f_p_commit sc_p_commit bh_p_commit (fun vs H Q E h => ?_) (fun cdv Ar outer s0 H vs Q E hr h => ?_)
  · obtain ⟨_, _, _, rfl, _⟩ := h
    rfl
  · obtain ⟨a, D, cs, rfl, hS, W, kc, kw⟩ := h
    obtain ⟨s, dx, pr, rt, hd, sv, c1, c2, rfl, hSt, hV, hB, h1, h2, h3, h4, h5, h6⟩ := hS.open W.has
    refine ⟨_, pss_cons (ps_if (pt_cmpR op_isN (pe_fld (pv 0) rfl) pe_non (nomark _)) (pss_one (L2N.ps_raise rfl (L2N.takes_of rfl rfl rfl rfl) (pmk_why T.xW T.htop hr (pa_cons pe_str pa_nil)))) pss_nil)
      (pss_one (ps_fld (pv 0) pe_non rfl)), ?_⟩
    refine ⟨_, rfl, a, _, dx, _, _, rfl, h1, T.clS, T.nS_saved, spF_saved, rfl, _, rfl, ?_⟩
    rw [sav_non hV]
    by_cases hs : D.saved = none
    · refine itT (by simp [hs]) ?_
      exact ⟨_, rfl, trivial, fun d hd => kw hs d _ (W.new hd)⟩
    refine itF (by simp [hs]) ?_
    refine ⟨_, rfl, a, _, dx, _, rfl, h1, T.clS, T.nS_saved, spF_small, ?_⟩
    rw [spF_psaved]
    have W1 : Own A.T _ H (spH A.CS a dx s pr rt hd .non { D with saved := none } ++ (c1 ++ c2)) _ := W.put 0 rfl rfl (b := a) (o' := .ins A.CS dx (spF s pr D.always D.allocs D.colls rt hd .non))
    refine kc hs _ (spH A.CS a dx s pr rt hd .non { D with saved := none } ++ (c1 ++ [])) ⟨s, dx, pr, rt, hd, .non, c1, [], rfl, hSt, ⟨rfl, rfl⟩, hB⟩ (W1.sub ?_)
    exact (List.Sublist.refl _).append ((List.Sublist.refl _).append (List.nil_sublist _))
def abortD (D : SpD) (S : Sav) : SpD := { D with objs := S.objs, roots := S.roots, held := S.held, saved := none }
def spAbort (A : Ads) : Sp := fun vs H Q E => ∃ (a : Addr) (D : SpD) (cs : List Cell), vs = [.ref a] ∧ SpR A.CT A.CS a D cs ∧ Own A.T (adr cs) H cs H ∧
  (∀ S, D.saved = some S → ∀ (H' : Hp) (cs' : List Cell), SpR A.CT A.CS a (abortD D S) cs' → Own A.T (adr cs) H cs' H' → Q .non H') ∧
  (D.saved = none → WrongK A (adr cs) H cs "closed" E)
theorem ok_p_abort (T : Txt P K mg A) : Okd P w K mg base 2 A.p_abort (spAbort A) := by
  refine okR T.f_p_abort sc_p_abort bh_p_abort (fun vs H Q E h => ?_) (fun cdv Ar outer s0 H vs Q E hr h => ?_)
  · obtain ⟨_, _, _, rfl, _⟩ := h
    rfl
  · obtain ⟨a, D, cs, rfl, hS, W, kc, kw⟩ := h
    obtain ⟨s, dx, pr, rt, hd, sv, c1, c2, rfl, hSt, hV, ⟨b1, b2, b3⟩, h1, h2, h3, h4, h5, h6⟩ := hS.open W.has
    have nd := sc_p_abort.nd
    refine ⟨_, pss_cons (ps_if (pt_cmpR op_isN (pe_fld (pv 0) rfl) pe_non (nomark _)) (pss_one (L2N.ps_raise rfl (L2N.takes_of rfl rfl rfl rfl) (pmk_why T.xW T.htop hr (pa_cons pe_str pa_nil)))) pss_nil)
      (pss_cons (ps_asg (pe_fld (pv 0) rfl) (pg_tup (by rfl) (pgs_cons (pg_name (i := 1) nd rfl (.inl rfl)) (pgs_cons (pg_name (i := 2) nd rfl (.inl rfl)) (pgs_cons (pg_name (i := 3) nd rfl (.inl rfl)) pgs_nil)))))
      (pss_cons (ps_expr (pe_mrun (pe_fld (pv 0) rfl) T.clT T.m_s_rest ((ok_s_rest T).runs hr passN0) (pa_cons (pv 1) pa_nil)))
      (pss_cons (ps_fld (pv 0) (pv 2) rfl) (pss_cons (ps_fld (pv 0) (pv 3) rfl) (pss_one (ps_fld (pv 0) pe_non rfl)))))), ?_⟩
    refine ⟨_, rfl, a, _, dx, _, _, rfl, h1, T.clS, T.nS_saved, spF_saved, rfl, _, rfl, ?_⟩
    rw [sav_non hV]
    cases hs : D.saved with
    | none =>
      refine itT (by simp) ?_
      exact ⟨_, rfl, trivial, fun d hd => kw hs d _ (W.new hd)⟩
    | some S =>
      refine itF (by simp) ?_
      rw [hs] at hV
      obtain ⟨t, t2, w2, p2, r2, q2, kvs, rfl, rfl, hP2, hO2, b4, b5⟩ := hV
      have ht := h6 (t, .tup [.ref t2, .ref r2, .ref q2]) (by simp)
      have ht2 := h6 (t2, .tup [.ref w2, .ref p2]) (by simp)
      have hw2 := h6 (w2, .lst ((flat S.objs).map V.int)) (by simp)
      have hp2 := h6 (p2, .dK kvs) (by simp)
      refine ⟨_, rfl, a, _, dx, _, _, rfl, h1, T.clS, T.nS_saved, spF_saved, t, _, rfl, SqT.of ht, rfl, _, _, rfl, _, _, rfl, _, _, rfl, rfl, ?_⟩
      obtain ⟨_, _, _, _, _, _, _, _, _, e1, _, _⟩ := hSt.open h5
      have nds := W.nd
      have W0 : Own A.T _ H (spH A.CS a dx s pr rt hd (.ref t) D ++ (c1 ++ [(t, .tup [.ref t2, .ref r2, .ref q2]), (t2, .tup [.ref w2, .ref p2]), (w2, .lst ((flat S.objs).map V.int)), (p2, .dK kvs), (r2, .lst (S.roots.map V.int)), (q2, .lst (S.held.map V.int))])) H := W
      have ne : ∀ c ∈ c1, c.1 ≠ w2 ∧ c.1 ≠ p2 ∧ c.1 ≠ t2 := fun c hc => by
        have nd2 := W0.right.nd
        unfold adr at nd2
        rw [List.map_append] at nd2
        obtain ⟨_, _, d⟩ := List.nodup_append.mp nd2
        have hc' : c.1 ∈ c1.map (·.1) := List.mem_map.mpr ⟨c, hc, rfl⟩
        exact ⟨d _ hc' _ (by simp), d _ hc' _ (by simp), d _ hc' _ (by simp)⟩
      refine ⟨_, rfl, a, _, dx, _, _, rfl, h1, T.clS, T.nS_store, spF_store, s, _, _, rfl, e1, stF_none (by decide +kernel), _, rfl, s, t2, w2, p2, D.room, D.entries, D.objs, S.objs, kvs, c1, rfl, hSt, W0.right.left.start, ht2, hw2, hp2, hP2, hO2, ne, fun H1 c3 hS3 R3 => ?_⟩
      have W1 := W0.mid R3
      refine ⟨_, rfl, _, rfl, a, _, dx, _, rfl, W1.get 0 rfl, T.clS, T.nS_roots, spF_small, ?_⟩
      rw [spF_proots]
      have W2 := W1.put 0 rfl rfl (b := a) (o' := .ins A.CS dx (spF s pr D.always D.allocs D.colls r2 hd (.ref t)))
      refine ⟨_, rfl, _, rfl, a, _, dx, _, rfl, W2.get 0 rfl, T.clS, T.nS_held, spF_small, ?_⟩
      rw [spF_pheld]
      have W3 := W2.put 0 rfl rfl (b := a) (o' := .ins A.CS dx (spF s pr D.always D.allocs D.colls r2 q2 (.ref t)))
      refine ⟨_, rfl, a, _, dx, _, rfl, W3.get 0 rfl, T.clS, T.nS_saved, spF_small, ?_⟩
      rw [spF_psaved]
      have W4 := (W3.put 0 rfl rfl (b := a) (o' := .ins A.CS dx (spF s pr D.always D.allocs D.colls r2 q2 .non))).shape (cs' := [(a, .ins A.CS dx (spF s pr D.always D.allocs D.colls r2 q2 .non)), (pr, .lst (D.press.map V.int)), (rt, .lst (D.roots.map V.int)), (hd, .lst (D.held.map V.int))] ++ (c3 ++ [(t, .tup [.ref t2, .ref r2, .ref q2]), (t2, .tup [.ref w2, .ref p2]), (w2, .lst ((flat S.objs).map V.int)), (p2, .dK kvs), (r2, .lst (S.roots.map V.int)), (q2, .lst (S.held.map V.int))])) rfl
      refine kc S hs _ (spH A.CS a dx s pr r2 q2 .non (abortD D S) ++ (c3 ++ [])) ⟨s, dx, pr, r2, q2, .non, c3, [], rfl, hS3, ⟨rfl, rfl⟩, b4, b5, b3⟩ ?_
      have W5 := W4.sub (ds := [(a, .ins A.CS dx (spF s pr D.always D.allocs D.colls r2 q2 .non)), (pr, .lst (D.press.map V.int))] ++ (c3 ++ [(r2, .lst (S.roots.map V.int)), (q2, .lst (S.held.map V.int))])) (List.Sublist.append (List.Sublist.cons_cons _ (List.Sublist.cons_cons _ (List.nil_sublist _))) (List.Sublist.append (List.Sublist.refl _) (((((List.Sublist.refl _).cons _).cons _).cons _).cons _)))
      rw [List.append_nil]
      refine W5.perm ?_
      show List.Perm (_ :: _ :: (c3 ++ [_, _])) (_ :: _ :: ([_, _] ++ c3))
      exact (List.perm_append_comm.cons _).cons _
end
end K9
end
section
set_option Elab.async false
set_option linter.all false
set_option maxRecDepth 100000
set_option maxHeartbeats 4000000
/-! The deeds, plain: what each tells and leaves. -/
namespace K9
open PySem PySem.Spec PyProof.Rows L2 LamX
def placeN (x : Int) : Nat := if x % 32 < 16 then (x % 32).toNat else (x % 32 % 3).toNat
theorem placeN_lt (x : Int) : placeN x < 16 := by
  unfold placeN
  split <;> omega
def rootAt (D : SpD) (i : Nat) : Int := D.roots.getD i 0
def wordF (D : SpD) (x : Int) : Int :=
  if x % 4 = 0 then 4 * (x / 4 * 48271 % 536870912 - 268435456) + 1
  else if x % 4 = 1 then 4 * (x / 4 * 48271 % 100000) + 3
  else if x % 4 = 2 ∧ x / 4 % 4 = 0 then 0
  else rootAt D (placeN (x / 4 / 4))
def shownF (w : Int) : Int := if w % 2 = 1 then w else 0
def setRoot (D : SpD) (i : Nat) (z : Int) : SpD := { D with roots := D.roots.set i z }
/-- _law_new -/
def NewT (D : SpD) (kind : Int) (size : Nat) (pl : Nat) (told : List V) (D' : SpD) : Prop := ∃ o D1, NewR D kind size o D1 ∧
  match o with
  | .made n => told = [.str "made", .int (size : Int)] ∧ D' = setRoot D1 pl (2 * n)
  | .room => told = [.str "room", .int (3 + (size : Int))] ∧ D' = D1
  | .num => told = [.str "number", .int D.entries] ∧ D' = D1
/-- _law_held -/
def heldF (D : SpD) (c : Int) (pl : Nat) (rest : Int) : List V × SpD :=
  if c = 9 then ([.str "hold", .int (shownF (rootAt D pl))], { D with held := D.held ++ [rootAt D pl] })
  else if c = 10 then
    let D' := { D with held := D.held.take (D.held.length - (rest % ((D.held.length : Int) + 1)).toNat) }
    ([.str "drop", .int (D'.held.length : Int)], D')
  else ([.str "held", .int (D.held.length : Int)], if D.held.isEmpty then D else setRoot D pl (D.held.getD (rest % (D.held.length : Int)).toNat 0))
def sizeOf (l : List Ob) (n : Int) : Nat := (ob? l n).elim 0 fun o => o.slots.length
def kindOf (l : List Ob) (n : Int) : Int := (ob? l n).elim 0 Ob.kind
def slotOf (l : List Ob) (n : Int) (i : Nat) : Int := (ob? l n).elim 0 fun o => o.slots.getD i 0
/-- _law_changed -/
def changedF (D : SpD) (c : Int) (pl : Nat) (rest : Int) : List V × SpD :=
  let w := rootAt D pl
  if w % 2 = 1 then ([.str "plain", .int w], D)
  else
    let n := w / 2
    let size := sizeOf D.objs n
    if c < 9 ∧ 0 < size then
      let i := (rest % 64 % (size : Int)).toNat
      let D' := if c = 8 then setRoot D (placeN (rest / 64)) (slotOf D.objs n i) else { D with objs := updN D.objs n (obSlot i (wordF D (rest / 64))) }
      ([.str "slot", .int (i : Int), .int (shownF (slotOf D'.objs n i))], D')
    else
      let D1 := if c = 12 then { D with objs := updN D.objs n (obKind (wordF D rest)) } else D
      let u := rootAt D1 (placeN rest)
      let D' := if c = 13 ∧ u % 2 = 0 then { D1 with objs := exch D1.objs n (u / 2) } else D1
      ([.str "object", .int (size : Int), .int (shownF (kindOf D'.objs n))], D')
/-- begin, commit, abort -/
noncomputable def beginD (D : SpD) : SpD := { collD D 0 with saved := some ⟨(collD D 0).objs, D.roots, D.held⟩ }
open Classical in
noncomputable def workF (D : SpD) (c : Int) : List V × SpD :=
  match D.saved with
  | none => if 16 < c then ([.str "wrong", .str "closed"], D) else ([.str "work", .int c], beginD D)
  | some S => if c = 17 then ([.str "work", .int c], { D with saved := none }) else if 17 < c then ([.str "work", .int c], abortD D S) else ([.str "wrong", .str "open"], D)
noncomputable def collF (D : SpD) : List V × SpD :=
  match D.saved with
  | none => ([.str "collected", .int ((tot (kept (collD D 0).objs (allW D)) : Nat) : Int)], collD D 0)
  | some _ => ([.str "wrong", .str "open"], D)
def sizeX (x : Int) : Nat := if x / 640 / 5 % 16 = 3 then (x / 640 / 80 % 60).toNat else (x / 640 % 5).toNat
theorem sizeX_le (x : Int) : sizeX x ≤ 59 := by
  unfold sizeX
  split <;> omega
/-- _law_both -/
def DeedR (D : SpD) (x : Int) (told : List V) (D' : SpD) : Prop :=
  if x % 20 < 3 then NewT D (wordF D (x / 640 / 80)) (sizeX x) (placeN (x / 20)) told D'
  else if x % 20 = 3 then NewT (setRoot D (placeN (x / 20)) 0) (rootAt D (placeN (x / 20))) (sizeX x) (placeN (x / 20)) told D'
  else if x % 20 = 4 then
    let D1 := setRoot D (placeN (x / 20)) (wordF D (x / 640))
    told = [.str "root", .int (shownF (rootAt D1 (placeN (x / 20))))] ∧ D' = D1
  else if x % 20 = 14 then (told, D') = collF D
  else if 14 < x % 20 then (told, D') = workF D (x % 20)
  else if 9 ≤ x % 20 ∧ x % 20 < 12 then (told, D') = heldF D (x % 20) (placeN (x / 20)) (x / 640)
  else (told, D') = changedF D (x % 20) (placeN (x / 20)) (x / 640)
/-! ### two spaces that are alike -/
def savW (S : Sav) : List Int := 0 :: (S.roots ++ S.held)
def RelS : Option Sav → Option Sav → Prop
  | none, none => True
  | some S, some S' => (∃ ρ, Sim ρ S.objs S'.objs (savW S) (savW S')) ∧ S.roots.length = 16 ∧ S'.roots.length = 16 ∧ (nums S.objs).Nodup ∧ (nums S'.objs).Nodup
  | _, _ => False
structure Rel (D E : SpD) : Prop where
  sim : ∃ ρ, Sim ρ D.objs E.objs (allW D) (allW E)
  room : D.room = E.room
  ent : D.entries = E.entries
  r1 : D.roots.length = 16
  r2 : E.roots.length = 16
  nd1 : (nums D.objs).Nodup
  nd2 : (nums E.objs).Nodup
  sav : RelS D.saved E.saved
  opn : D.saved ≠ none → tot D.objs = tot E.objs ∧ D.objs.length = E.objs.length
theorem Rel.held {D E : SpD} (h : Rel D E) : D.held.length = E.held.length := by
  obtain ⟨ρ, s⟩ := h.sim
  have := s.r.length
  unfold allW at this
  simp [h.r1, h.r2] at this
  exact this
/-- the words, apart -/
theorem Rel.parts {D E : SpD} {ρ : Int → Int → Prop} (s : Sim ρ D.objs E.objs (allW D) (allW E)) (h1 : D.roots.length = 16) (h2 : E.roots.length = 16) : wrel ρ 0 0 ∧ F2 (wrel ρ) D.roots E.roots ∧ F2 (wrel ρ) D.held E.held := by
  have r := s.r
  unfold allW at r
  cases r with
  | cons a t =>
    obtain ⟨b, c⟩ := F2.split t (by rw [h1, h2])
    exact ⟨a, b, c⟩
end K9
end
section
set_option Elab.async false
set_option linter.all false
set_option maxRecDepth 100000
set_option maxHeartbeats 4000000
/-! The law's defs: numbers, places, words, equality of answers. -/
namespace K9
open PySem PySem.Spec PyProof.Rows L2 LamX
section
variable {P : Program} {w : World} {K : PySem.W.Frag} {mg : Str → Option Value} {base : Heap} {A : Ads}
/-- some number -/
def spNumber : Sp := fun vs H Q _ => ∃ c k : Int, vs = [.int c, .int k] ∧ ∀ n : Int, Q (.int n) H
theorem ok_l_number (T : Txt P K mg A) : Okd P w K mg base 1 A.l_number spNumber := by
  refine okN T.f_l_number sc_l_number bh_l_number (fun vs H Q E h => ?_) (fun cdv Ar outer s0 H vs Q E hr h => ?_)
  · obtain ⟨_, _, rfl, _⟩ := h
    rfl
  · obtain ⟨c, k, rfl, q⟩ := h
    have nd := sc_l_number.nd
    refine ⟨_, pss_cons (ps_if (pt_cmpR op_ge (pv 0) (pe_op op_pow pe_int pe_int) (nomark _)) (pss_one (ps_ret (pv 0))) pss_nil)
      (pss_cons (ps_set (i := 2) nd rfl (.inl rfl) (pe_op op_mod (pe_callTy call_int1 (by rfl) T.b_int (by decide +kernel) (pa_cons (pe_op op_add (pe_op op_add (pe_op op_mul (pv 0) pe_int) (pe_op op_mul (pv 1) pe_int)) pe_int) pa_nil)) pe_int))
      (pss_one (ps_ret (pe_op op_mod (pe_callTy call_int1 (by rfl) T.b_int (by decide +kernel) (pa_cons (pe_op op_add (pe_op op_mul (pv 2) (pv 2)) (pe_op op_mul (pv 1) pe_int)) pa_nil)) pe_int)))), ?_⟩
    refine ⟨_, rfl, _, _, rfl, rfl, ⟨by decide, by decide, by decide⟩, _, _, rfl, rfl, _, rfl, ?_⟩
    refine ite2 (fun _ => ⟨_, rfl, q _⟩) (fun _ => ?_)
    refine ⟨_, rfl, _, _, rfl, rfl, .inr ⟨by decide, by decide⟩, _, rfl, _, _, rfl, rfl, .inr ⟨by decide, by decide⟩, _, _, rfl, rfl, _, _, rfl, rfl, .inl ⟨_, rfl, ?_⟩⟩
    refine ⟨_, _, rfl, rfl, (by show (0 : Int) < 2147483647; decide), ?_⟩
    refine ⟨_, rfl, _, rfl, _, _, rfl, rfl, .inl ⟨by omega, by omega⟩, _, rfl, _, _, rfl, rfl, .inr ⟨by decide, by decide⟩, _, _, rfl, rfl, .inl ⟨_, rfl, ?_⟩⟩
    exact ⟨_, _, rfl, rfl, (by show (0 : Int) < 2147483399; decide), q _⟩
def spPlace : Sp := fun vs H Q _ => ∃ x : Int, vs = [.int x] ∧ Q (.int (placeN x : Int)) H
theorem ok_l_place (T : Txt P K mg A) : Okd P w K mg base 1 A.l_place spPlace := by
  refine okN T.f_l_place sc_l_place bh_l_place (fun vs H Q E h => ?_) (fun cdv Ar outer s0 H vs Q E hr h => ?_)
  · obtain ⟨_, rfl, _⟩ := h
    rfl
  · obtain ⟨x, rfl, q⟩ := h
    have nd := sc_l_place.nd
    refine ⟨_, pss_cons (ps_set (i := 1) nd rfl (.inl rfl) (pe_op op_mod (pe_callTy call_int1 (by rfl) T.b_int (by decide +kernel) (pa_cons (pv 0) pa_nil)) pe_int))
      (pss_cons (ps_if (pt_cmpR op_lt (pv 1) pe_int (nomark _)) (pss_one (ps_ret (pv 1))) pss_nil) (pss_one (ps_ret (pe_op op_mod (pv 1) pe_int)))), ?_⟩
    refine ⟨_, rfl, .inl ⟨_, rfl, _, _, rfl, rfl, (by show (0 : Int) < 32; decide), ?_⟩⟩
    refine ⟨_, rfl, _, _, rfl, rfl, _, rfl, ?_⟩
    unfold placeN at q
    refine ite2 (fun c => ?_) (fun c => ?_)
    · have c : x % 32 < 16 := of_decide_eq_true c
      rw [if_pos c] at q
      refine ⟨_, rfl, ?_⟩
      rw [show (((x % 32).toNat : Nat) : Int) = x % 32 by omega] at q
      exact q
    · have c : ¬ x % 32 < 16 := fun z => c (decide_eq_true z)
      rw [if_neg c] at q
      rw [show (((x % 32 % 3).toNat : Nat) : Int) = x % 32 % 3 by omega] at q
      exact ⟨_, rfl, _, _, rfl, rfl, (by show (0 : Int) < 3; decide), q⟩
def spShown : Sp := fun vs H Q _ => ∃ x : Int, vs = [.int x] ∧ Q (.int (shownF x)) H
theorem ok_l_shown (T : Txt P K mg A) : Okd P w K mg base 1 A.l_shown spShown := by
  refine okN T.f_l_shown sc_l_shown bh_l_shown (fun vs H Q E h => ?_) (fun cdv Ar outer s0 H vs Q E hr h => ?_)
  · obtain ⟨_, rfl, _⟩ := h
    rfl
  · obtain ⟨x, rfl, q⟩ := h
    refine ⟨_, pss_cons (ps_if (pt_cmpR op_eq (pe_op op_mod (pe_callTy call_int1 (by rfl) T.b_int (by decide +kernel) (pa_cons (pv 0) pa_nil)) pe_int) pe_int (nomark _)) (pss_one (ps_ret (pv 0))) pss_nil) (pss_one (ps_ret pe_int)), ?_⟩
    refine ⟨_, rfl, .inl ⟨_, rfl, _, _, rfl, rfl, (by show (0 : Int) < 2; decide), rfl, _, rfl, ?_⟩⟩
    unfold shownF at q
    rw [K9.dec_int]
    refine ite2 (fun c => ?_) (fun c => ?_)
    · rw [if_pos (of_decide_eq_true c)] at q
      exact ⟨_, rfl, q⟩
    · rw [if_neg (fun z => c (decide_eq_true z))] at q
      exact q
def spWord (A : Ads) : Sp := fun vs H Q _ => ∃ (a : Addr) (x : Int) (D : SpD) (cs : List Cell), vs = [.ref a, .int x] ∧ SpR A.CT A.CS a D cs ∧ Has cs H ∧ Q (.int (wordF D x)) H
theorem root_get {D : SpD} (h : D.roots.length = 16) {i : Nat} (hi : i < 16) : D.roots[i]? = some (rootAt D i) := by
  unfold rootAt
  rw [List.getD_eq_getElem?_getD, List.getElem?_eq_getElem (by omega)]
  rfl
theorem SpR.r16 {CT CS a : Addr} {D : SpD} {cs : List Cell} (h : SpR CT CS a D cs) : D.roots.length = 16 := by
  obtain ⟨_, _, _, _, _, _, _, _, _, _, _, h, _⟩ := h
  exact h
theorem SpR.ins {CT CS a : Addr} {D : SpD} {cs : List Cell} {H : Hp} (h : SpR CT CS a D cs) (hh : Has cs H) : ∃ dx s pr rt hd sv, H a = some (.ins CS dx (spF s pr D.always D.allocs D.colls rt hd sv)) := by
  obtain ⟨s, dx, pr, rt, hd, sv, _, _, _, _, _, _, h1, _⟩ := h.open hh
  exact ⟨dx, s, pr, rt, hd, sv, h1⟩
theorem ok_l_word (T : Txt P K mg A) : Okd P w K mg base 2 A.l_word (spWord A) := by
  refine okN T.f_l_word sc_l_word bh_l_word (fun vs H Q E h => ?_) (fun cdv Ar outer s0 H vs Q E hr h => ?_)
  · obtain ⟨_, _, _, _, rfl, _⟩ := h
    rfl
  · obtain ⟨a, x, D, cs, rfl, hS, hh, q⟩ := h
    have nd := sc_l_word.nd
    obtain ⟨dx, s, pr, rt, hd, sv, h1⟩ := hS.ins hh
    refine ⟨_, pss_cons (ps_set (i := 2) nd rfl (.inl rfl) (pe_op op_fdiv (pv 1) pe_int))
      (pss_cons (ps_if (pt_cmpR op_eq (pe_op op_mod (pe_callTy call_int1 (by rfl) T.b_int (by decide +kernel) (pa_cons (pv 1) pa_nil)) pe_int) pe_int (nomark _))
        (pss_one (ps_ret (pe_op op_add (pe_op op_mul pe_int (pe_op op_sub (pe_op op_mod (pe_callTy call_int1 (by rfl) T.b_int (by decide +kernel) (pa_cons (pe_op op_mul (pv 2) pe_int) pa_nil)) pe_int) pe_int)) pe_int))) pss_nil)
      (pss_cons (ps_if (pt_cmpR op_eq (pe_op op_mod (pe_callTy call_int1 (by rfl) T.b_int (by decide +kernel) (pa_cons (pv 1) pa_nil)) pe_int) pe_int (nomark _))
        (pss_one (ps_ret (pe_op op_add (pe_op op_mul pe_int (pe_op op_mod (pe_callTy call_int1 (by rfl) T.b_int (by decide +kernel) (pa_cons (pe_op op_mul (pv 2) pe_int) pa_nil)) pe_int)) pe_int))) pss_nil)
      (pss_cons (ps_if (PW.pt (pw_and (pt_cmpR op_eq (pe_op op_mod (pe_callTy call_int1 (by rfl) T.b_int (by decide +kernel) (pa_cons (pv 1) pa_nil)) pe_int) pe_int (nomark _)) (pw_and1 (pt_cmpR op_eq (pe_op op_mod (pe_callTy call_int1 (by rfl) T.b_int (by decide +kernel) (pa_cons (pv 2) pa_nil)) pe_int) pe_int (nomark _)))))
        (pss_one (ps_ret pe_int)) pss_nil)
      (pss_one (ps_ret (pe_mrun (pv 0) T.clS T.m_p_root ((ok_p_root T).runs (hr.mono (by decide)) passN0) (pa_cons (pe_run ((ok_l_place T).runs hr passN0) T.g_l_place T.k_l_place (pa_cons (pe_op op_fdiv (pv 2) pe_int) pa_nil)) pa_nil))))))), ?_⟩
    unfold wordF at q
    refine ⟨_, rfl, _, _, rfl, rfl, ⟨by decide, by decide⟩, ?_⟩
    refine ⟨_, rfl, .inl ⟨_, rfl, _, _, rfl, rfl, (by show (0 : Int) < 4; decide), rfl, _, rfl, ?_⟩⟩
    rw [K9.dec_int]
    refine ite2 (fun c => ?_) (fun c => ?_)
    · rw [if_pos (of_decide_eq_true c)] at q
      exact ⟨_, rfl, _, _, rfl, rfl, .inr ⟨by decide, by decide⟩, .inl ⟨_, rfl, _, _, rfl, rfl, (by show (0 : Int) < 536870912; decide), _, _, rfl, rfl, _, _, rfl, rfl, .inl ⟨by decide, by decide⟩, _, _, rfl, rfl, q⟩⟩
    rw [if_neg (fun z => c (decide_eq_true z))] at q
    refine ⟨_, rfl, .inl ⟨_, rfl, _, _, rfl, rfl, (by show (0 : Int) < 4; decide), rfl, _, rfl, ?_⟩⟩
    rw [K9.dec_int]
    refine ite2 (fun c => ?_) (fun c => ?_)
    · rw [if_pos (of_decide_eq_true c)] at q
      exact ⟨_, rfl, _, _, rfl, rfl, .inr ⟨by decide, by decide⟩, .inl ⟨_, rfl, _, _, rfl, rfl, (by show (0 : Int) < 100000; decide), _, _, rfl, rfl, .inl ⟨by decide, by decide⟩, _, _, rfl, rfl, q⟩⟩
    rw [if_neg (fun z => c (decide_eq_true z))] at q
    have last : ¬ (x % 4 = 2 ∧ x / 4 % 4 = 0) → L2H.tMethH A.CS "root" (spRoot A) E0S (tVar 0) (tCons (tCallS spPlace E0S (tCons (tOp (rI CDiv fun i j => .int (i / j)) (tVar 2) (tC (.int 4))) tNil)) tNil) [some (.ref a), some (.int x), some (.int (x / 4))] H (fun v H' => Q v H') := fun hn => by
      rw [if_neg hn] at q
      refine ⟨_, rfl, a, dx, _, rfl, h1, spF_none (by decide +kernel), _, rfl, _, _, rfl, rfl, ⟨by decide, by decide⟩, x / 4 / 4, rfl, ?_⟩
      exact ⟨a, placeN (x / 4 / 4), _, D, cs, rfl, hS, hh, root_get hS.r16 (placeN_lt _), q⟩
    refine ⟨_, rfl, .inl ⟨_, rfl, _, _, rfl, rfl, (by show (0 : Int) < 4; decide), rfl, _, rfl, ?_⟩⟩
    rw [K9.dec_int]
    refine ite2 (fun c => ?_) (fun c => ?_)
    · refine ⟨_, rfl, .inl ⟨_, rfl, _, _, rfl, rfl, (by show (0 : Int) < 4; decide), rfl, _, rfl, ?_⟩⟩
      rw [K9.dec_int]
      refine ite2 (fun c2 => ?_) (fun c2 => ?_)
      · rw [if_pos ⟨of_decide_eq_true c, of_decide_eq_true c2⟩] at q
        exact q
      · exact last fun z => c2 (decide_eq_true z.2)
    · refine itF rfl ?_
      exact last fun z => c (decide_eq_true z.1)
end
end K9
end
section
set_option Elab.async false
set_option linter.all false
set_option maxRecDepth 100000
set_option maxHeartbeats 4000000
/-! The law's defs: equality of answers, the state, deeds, limits, pressure. -/
namespace K9
open PySem PySem.Spec PyProof.Rows L2 LamX
def isIS : V → Prop
  | .int _ => True
  | .str _ => True
  | _ => False
theorem isIS.scal {x y : V} (h : isIS x) (k : isIS y) : scal x y = true := by
  cases x <;> first | exact h.elim | (cases y <;> first | exact k.elim | rfl)
theorem isIS.notBool {K : PySem.W.Frag} {H : Hp} {x : V} (h : isIS x) : ∃ t, TyX K H x t ∧ PySem.W.kitOne K t (.type "bool") = some false := by
  cases x with
  | int i => exact ⟨.type "int", .base (.int i), kit_ty (by decide +kernel)⟩
  | str y => exact ⟨.type "str", .base (.str y), kit_ty (by decide +kernel)⟩
  | _ => exact h.elim
def srt (l : List Int) : List Int := l.mergeSort fun a b => decide (a ≤ b)
theorem srt_perm (l : List Int) : (srt l).Perm l := List.mergeSort_perm l _
theorem srt_sorted (l : List Int) : (srt l).Pairwise (· ≤ ·) := by
  have := List.pairwise_mergeSort (le := fun a b : Int => decide (a ≤ b)) (fun a b c h1 h2 => by simp only [decide_eq_true_eq] at *; omega) (fun a b => by simp only [Bool.or_eq_true, decide_eq_true_eq]; omega) l
  exact this.imp fun h => of_decide_eq_true h
theorem le_unique : ∀ {ys zs : List Int}, ys.Perm zs → ys.Pairwise (· ≤ ·) → zs.Pairwise (· ≤ ·) → ys = zs
  | [], zs, hp, _, _ => hp.nil_eq
  | y :: ys, [], hp, _, _ => by
    have := hp.length_eq
    cases this
  | y :: ys, z :: zs, hp, h1, h2 => by
    obtain ⟨a1, a2⟩ := List.pairwise_cons.mp h1
    obtain ⟨b1, b2⟩ := List.pairwise_cons.mp h2
    have e : y = z := by
      have l1 : z ≤ y := by
        rcases List.mem_cons.mp (hp.mem_iff.mp List.mem_cons_self) with q | q
        · omega
        · exact b1 y q
      have l2 : y ≤ z := by
        rcases List.mem_cons.mp (hp.mem_iff.mpr List.mem_cons_self) with q | q
        · omega
        · exact a1 z q
      omega
    subst e
    rw [le_unique hp.cons_inv a2 b2]
structure Snap where
  ws : List Int
  ns : List Int
  rs : List Int
  al : Int
  co : Int
def snapOf (D : SpD) : Snap := ⟨flat D.objs, srt (nums D.objs), allW D, D.allocs, D.colls⟩
def StL (p : Addr) (S : Snap) (cs : List Cell) : Prop := ∃ w n r c : Addr, cs = [(p, .lst [.ref w, .ref n, .ref r, .ref c]), (c, .lst [.int S.al, .int S.co]), (r, .lst (S.rs.map V.int)), (n, .lst (S.ns.map V.int)), (w, .lst (S.ws.map V.int))]
section
variable {P : Program} {w : World} {K : PySem.W.Frag} {mg : Str → Option Value} {base : Heap} {A : Ads}
def spEqual : Sp := fun vs H Q _ => ∃ (p q : Addr) (xs ys : List V), vs = [.ref p, .ref q] ∧ H p = some (.lst xs) ∧ H q = some (.lst ys) ∧ (∀ x ∈ xs, isIS x) ∧ (∀ y ∈ ys, isIS y) ∧ ys.length ≤ 1000 ∧ Q (.bl (decide (xs = ys))) H
theorem ok_l_equal (T : Txt P K mg A) : Okd P w K mg base 1 A.l_equal spEqual := by
  refine okN T.f_l_equal sc_l_equal bh_l_equal (fun vs H Q E h => ?_) (fun cdv Ar outer s0 H vs Q E hr h => ?_)
  · obtain ⟨_, _, _, _, rfl, _⟩ := h
    rfl
  · obtain ⟨p, q, xs, ys, rfl, hp, hq, ix, iy, hl, k⟩ := h
    have nd := sc_l_equal.nd
    refine ⟨_, pss_cons (ps_if (pt_cmpR op_ne (pe_callB call_len_seq (by rfl) T.b_len PySem.boot_len (pa_cons (pv 0) pa_nil)) (pe_callB call_len_seq (by rfl) T.b_len PySem.boot_len (pa_cons (pv 1) pa_nil)) (nomark _)) (pss_one (ps_ret pe_bl)) pss_nil)
      (pss_cons (ps_for PassesOwn.never rfl (pi_range1 rfl T.b_range (pa_cons (pe_callB call_len_seq (by rfl) T.b_len PySem.boot_len (pa_cons (pv 1) pa_nil)) pa_nil)) (pg_name (i := 2) nd rfl (.inl rfl))
        (pss_one (ps_if (PW.pt (pw_or (pt_val (pe_callB call_isi (by rfl) T.b_isinstance (by decide +kernel) (pa_cons (pe_ix ix_list (pv 0) (pv 2) (fun _ _ => rfl)) (pa_cons (pe_bltn (v := .ty "bool") (by rfl) T.b_bool (by decide +kernel) rfl) pa_nil))))
          (pw_or (pt_val (pe_callB call_isi (by rfl) T.b_isinstance (by decide +kernel) (pa_cons (pe_ix ix_list (pv 1) (pv 2) (fun _ _ => rfl)) (pa_cons (pe_bltn (v := .ty "bool") (by rfl) T.b_bool (by decide +kernel) rfl) pa_nil))))
          (pw_or1 (pt_cmpR op_ne (pe_ix ix_list (pv 0) (pv 2) (fun _ _ => rfl)) (pe_ix ix_list (pv 1) (pv 2) (fun _ _ => rfl)) (nomark _)))))) (pss_one (ps_ret pe_bl)) pss_nil)))
      (pss_one (ps_ret pe_bl))), ?_⟩
    refine ⟨_, rfl, p, _, rfl, .inl (SqL.of hp), _, rfl, q, _, rfl, .inl (SqL.of hq), rfl, _, rfl, ?_⟩
    by_cases hlen : xs.length = ys.length
    rotate_left
    · refine itT (by rw [K9.dec_int]; simp; omega) ?_
      rw [decide_eq_false (fun z => hlen (by rw [z]))] at k
      exact k
    refine itF (by rw [K9.dec_int]; simp; omega) ?_
    refine ⟨_, rfl, q, _, rfl, .inl (SqL.of hq), (ys.length : Int), rfl, by omega, by omega, ?_⟩
    rw [Int.toNat_natCast]
    refine for_range (Pv := fun i σ H' => ∃ v : Option V, σ = [some (.ref p), some (.ref q), v] ∧ H' = H ∧ xs.take i = ys.take i) ⟨none, rfl, rfl, rfl⟩ ?_ ?_
    · rintro i σ H1 hi ⟨v, rfl, rfl, ht⟩
      have hi2 : i < xs.length := by omega
      have ex : xs[i]? = some xs[i] := by simp [hi2]
      have ey : ys[i]? = some ys[i] := by simp [hi]
      have px := ix _ (List.mem_of_getElem? ex)
      have py := iy _ (List.mem_of_getElem? ey)
      obtain ⟨tx, kx1, kx2⟩ := px.notBool (K := K) (H := H1)
      obtain ⟨ty, ky1, ky2⟩ := py.notBool (K := K) (H := H1)
      have z0 : ((0 : Int) + (i : Int)) = (i : Int) := by omega
      rw [z0]
      refine ⟨_, rfl, _, rfl, p, _, _, _, rfl, rfl, SqL.of hp, atI_nat ex, _, _, tx, .type "bool", false, rfl, .ty "bool", kx1, kx2, _, rfl, ?_⟩
      refine itF rfl ?_
      refine ⟨_, rfl, _, rfl, q, _, _, _, rfl, rfl, SqL.of hq, atI_nat ey, _, _, ty, .type "bool", false, rfl, .ty "bool", ky1, ky2, _, rfl, ?_⟩
      refine itF rfl ?_
      refine ⟨_, rfl, _, rfl, p, _, _, _, rfl, rfl, SqL.of hp, atI_nat ex, _, rfl, _, rfl, q, _, _, _, rfl, rfl, SqL.of hq, atI_nat ey, px.scal py, _, rfl, ?_⟩
      by_cases he : xs[i] = ys[i]
      · refine itF (by simp [he]) ?_
        refine ⟨_, rfl, rfl, ?_⟩
        rw [take_snoc ex, take_snoc ey, ht, he]
      · refine itT (by simp [he]) ?_
        rw [decide_eq_false (fun z => he (by subst z; rfl))] at k
        exact k
    · rintro σ H1 ⟨v, rfl, rfl, ht⟩
      rw [List.take_length, ← hlen, List.take_length] at ht
      rw [decide_eq_true ht] at k
      exact k
/-- the kind and the slots of an object -/
def spRow (A : Ads) : Sp := fun vs H Q _ => ∃ (a : Addr) (n : Int) (D : SpD) (cs : List Cell) (o : Ob), vs = [.ref a, .int n] ∧ SpR A.CT A.CS a D cs ∧ Has cs H ∧ Tabs A.T H ∧ ob? D.objs n = some o ∧ ∀ (H' : Hp) (p : Addr), Own A.T [] H [(p, .lst ((o.kind :: o.slots).map V.int))] H' → Q (.ref p) H'
theorem ok_l_row (T : Txt P K mg A) : Okd P w K mg base 4 A.l_row (spRow A) := by
  refine okN T.f_l_row sc_l_row bh_l_row (fun vs H Q E h => ?_) (fun cdv Ar outer s0 H vs Q E hr h => ?_)
  · obtain ⟨_, _, _, _, _, rfl, _⟩ := h
    rfl
  · obtain ⟨a, n, D, cs, o, rfl, hS, hh, ht, ho, k⟩ := h
    obtain ⟨s, dx, pr, rt, hd, sv, c1, c2, rfl, hSt, hV, hB, h1, h2, h3, h4, h5, h6⟩ := hS.open hh
    have hrH := L2H.roomH_of hr
    obtain ⟨_, _, _, _, _, _, _, hO, _, e1, _, _⟩ := hSt.open h5
    refine ⟨_, pss_one (ps_ret (pe_op op_cat (pe_lst (pa_cons (pe_mrun (pe_fld (pv 0) rfl) T.clT T.m_s_kind ((ok_s_kind T).runs (hrH.mono (by decide)) (.inl rfl)) (pa_cons (pv 1) pa_nil)) pa_nil)) (pe_mrun (pe_fld (pv 0) rfl) T.clT T.m_s_slots ((ok_s_slots T).runs (hrH.mono (by decide)) (.inl rfl)) (pa_cons (pv 1) pa_nil)))), ?_⟩
    refine ⟨_, rfl, a, _, dx, _, _, rfl, h1, T.clS, T.nS_store, spF_store, s, _, _, rfl, e1, stF_none (by decide +kernel), _, rfl, s, n, _, _, _, c1, o, rfl, hSt, h5, ho, (by show 1 ≤ sizeLine; rw [sizeLine_eq]; decide), fun l hl => ?_⟩
    have W1 := (Own.nil ht).new (o := .lst [.int o.kind]) hl
    have f1 := W1.fr _ _ h1 List.not_mem_nil (fun _ z => by cases z)
    have g5 := h5.keep hSt.plain W1
    obtain ⟨_, _, _, _, _, _, _, _, _, e2, _, _⟩ := hSt.open g5
    refine ⟨_, rfl, a, _, dx, _, _, rfl, f1, T.clS, T.nS_store, spF_store, s, _, _, rfl, e2, stF_none (by decide +kernel), _, rfl, s, n, _, _, _, c1, o, rfl, hSt, g5, W1.tb, ho, fun H2 l2 R2 => ?_⟩
    have W2 := W1.call0 R2
    have hosz : o.slots.length ≤ 1000 := by
      obtain ⟨q, hq⟩ := off_of_ob ho
      have := off_bound ho hq
      have := hO.totle
      unfold Ob.len at *
      omega
    refine ⟨l, l2, _, _, rfl, rfl, W2.get 1 rfl, W2.get 0 rfl, ?_, fun l3 hl3 => ?_⟩
    · refine Nat.le_of_lt (line1000 ?_)
      rw [List.length_map]
      show 1 + o.slots.length ≤ 5000
      omega
    exact k _ l3 ((W2.new (o := .lst ((o.kind :: o.slots).map V.int)) hl3).one)
def spState (A : Ads) : Sp := fun vs H Q _ => ∃ (a : Addr) (D : SpD) (cs : List Cell), vs = [.ref a] ∧ SpR A.CT A.CS a D cs ∧ Has cs H ∧ Tabs A.T H ∧ ∀ (H' : Hp) (p : Addr) (ds : List Cell), StL p (snapOf D) ds → Own A.T [] H ds H' → Q (.ref p) H'
theorem ok_l_state (T : Txt P K mg A) : Okd P w K mg base 2 A.l_state (spState A) := by
  refine okN T.f_l_state sc_l_state bh_l_state (fun vs H Q E h => ?_) (fun cdv Ar outer s0 H vs Q E hr h => ?_)
  · obtain ⟨_, _, _, rfl, _⟩ := h
    rfl
  · obtain ⟨a, D, cs, rfl, hS, hh, ht, k⟩ := h
    obtain ⟨s, dx, pr, rt, hd, sv, c1, c2, rfl, hSt, hV, hB, h1, h2, h3, h4, h5, h6⟩ := hS.open hh
    have hrH := L2H.roomH_of hr
    obtain ⟨_, _, _, _, _, _, _, hO, _, e1, e2, _⟩ := hSt.open h5
    refine ⟨_, pss_one (ps_ret (pe_lst (pa_cons (pe_callTy call_list_of (by rfl) T.b_list (by decide +kernel) (pa_cons (pe_fld (pe_fld (pv 0) rfl) rfl) pa_nil)) (pa_cons (pe_mrun0 (pe_fld (pv 0) rfl) T.clT T.m_s_numbers ((ok_s_numbers T).runs hrH (.inl rfl))) (pa_cons (pe_mrun0 (pv 0) T.clS T.m_p_all ((ok_p_all T).runs hrH (.inl rfl))) (pa_cons (pe_lst (pa_cons (pe_fld (pv 0) rfl) (pa_cons (pe_fld (pv 0) rfl) pa_nil))) pa_nil)))))), ?_⟩
    refine ⟨_, rfl, a, _, dx, _, _, rfl, h1, T.clS, T.nS_store, spF_store, s, _, _, _, _, rfl, e1, T.clT, T.nT_words, stF_words, _, _, rfl, .inl (SqL.of e2), fun l1 hl1 => ?_⟩
    have W1 := (Own.nil ht).new (o := .lst ((flat D.objs).map V.int)) hl1
    have f1 := W1.fr _ _ h1 List.not_mem_nil (fun _ z => by cases z)
    have g5 := h5.keep hSt.plain W1
    obtain ⟨_, _, _, _, _, _, _, _, _, e3, _, _⟩ := hSt.open g5
    refine ⟨_, rfl, a, _, dx, _, _, rfl, f1, T.clS, T.nS_store, spF_store, s, _, _, rfl, e3, stF_none (by decide +kernel), s, _, _, _, c1, rfl, hSt, g5, W1.tb, fun H2 l2 ys hp hs R2 => ?_⟩
    have W2 := W1.call0 R2
    have eys : ys = srt (nums D.objs) := le_unique (hp.trans (srt_perm _).symm) hs (srt_sorted _)
    subst eys
    have f2 := W2.fr _ _ h1 List.not_mem_nil (fun _ z => by cases z)
    refine ⟨_, rfl, a, dx, _, rfl, f2, spF_none (by decide +kernel), a, D, _, rfl, hS, hh.keep hS.plain W2, W2.tb, fun H3 l3 R3 => ?_⟩
    have W3 := W2.call0 R3
    have f3 := W3.fr _ _ h1 List.not_mem_nil (fun _ z => by cases z)
    refine ⟨_, rfl, a, _, dx, _, _, rfl, f3, T.clS, T.nS_allocations, spF_allocations, _, rfl, a, _, dx, _, _, rfl, f3, T.clS, T.nS_collections, spF_collections, (by show 2 ≤ sizeLine; rw [sizeLine_eq]; decide), fun l4 hl4 => ?_⟩
    have W4 := W3.new (o := .lst [.int D.allocs, .int D.colls]) hl4
    refine ⟨(by show 4 ≤ sizeLine; rw [sizeLine_eq]; decide), fun p hp' => ?_⟩
    exact k _ p _ ⟨l1, l2, l3, l4, rfl⟩ (W4.new (o := .lst [.ref l1, .ref l2, .ref l3, .ref l4]) hp')
end
end K9
end
section
set_option Elab.async false
set_option linter.all false
set_option maxRecDepth 100000
set_option maxHeartbeats 4000000
/-! The law's defs: deeds, limits, pressure. -/
namespace K9
open PySem PySem.Spec PyProof.Rows L2 LamX
section
variable {P : Program} {w : World} {K : PySem.W.Frag} {mg : Str → Option Value} {base : Heap} {A : Ads}
def spDeeds (A : Ads) : Sp := fun vs H Q _ => ∃ c k : Int, vs = [.int c, .int k] ∧ Tabs A.T H ∧ ∀ (a b : Int) (H' : Hp) (p : Addr), Own A.T [] H [(p, .lst [.int a, .int b])] H' → Q (.ref p) H'
theorem ok_l_deeds (T : Txt P K mg A) : Okd P w K mg base 2 A.l_deeds (spDeeds A) := by
  refine okN T.f_l_deeds sc_l_deeds bh_l_deeds (fun vs H Q E h => ?_) (fun cdv Ar outer s0 H vs Q E hr h => ?_)
  · obtain ⟨_, _, rfl, _⟩ := h
    rfl
  · obtain ⟨c, k, rfl, ht, q⟩ := h
    refine ⟨_, pss_cons (ps_if (pt_cmpR op_ge (pv 0) (pe_op op_pow pe_int pe_int) (nomark _)) (pss_one (ps_ret (pe_lst (pa_cons (pe_op op_mod (pe_callTy call_int1 (by rfl) T.b_int (by decide +kernel) (pa_cons (pv 0) pa_nil)) (pe_op op_pow pe_int pe_int)) (pa_cons (pe_op op_fdivW (pv 0) (pe_op op_pow pe_int pe_int)) pa_nil))))) pss_nil)
      (pss_one (ps_ret (pe_lst (pa_cons (pe_run ((ok_l_number T).runs hr passN0) T.g_l_number T.k_l_number (pa_cons (pv 0) (pa_cons (pv 1) pa_nil))) (pa_cons (pe_run ((ok_l_number T).runs hr passN0) T.g_l_number T.k_l_number (pa_cons (pv 0) (pa_cons (pe_op op_add (pv 1) pe_int) pa_nil))) pa_nil))))), ?_⟩
    refine ⟨_, rfl, _, _, rfl, rfl, ⟨by decide, by decide, by decide⟩, _, _, rfl, rfl, _, rfl, ?_⟩
    refine ite2 (fun _ => ?_) (fun _ => ?_)
    · refine ⟨_, rfl, .inl ⟨_, rfl, _, _, rfl, rfl, ⟨by decide, by decide, by decide⟩, _, _, rfl, rfl, (by show (0 : Int) < 10 ^ 15; decide), ?_⟩⟩
      refine ⟨_, rfl, _, _, rfl, rfl, ⟨by decide, by decide, by decide⟩, _, _, rfl, rfl, wide_div (b := 60) (by decide) (by decide) (by decide) (by decide), ?_⟩
      exact ⟨(by show 2 ≤ sizeLine; rw [sizeLine_eq]; decide), fun p hp => q _ _ _ p ((Own.nil ht).new hp)⟩
    · refine ⟨_, rfl, _, rfl, _, _, rfl, fun n1 => ?_⟩
      refine ⟨_, rfl, _, rfl, _, _, rfl, rfl, _, _, rfl, fun n2 => ?_⟩
      exact ⟨(by show 2 ≤ sizeLine; rw [sizeLine_eq]; decide), fun p hp => q _ _ _ p ((Own.nil ht).new hp)⟩
def spLimits (A : Ads) : Sp := fun vs H Q _ => ∃ c : Int, vs = [.int c] ∧ Tabs A.T H ∧ ∀ (room entries : Int) (H' : Hp) (p : Addr), 3 ≤ room → room ≤ 1000 → 1 ≤ entries → entries ≤ 1000000 → Own A.T [] H [(p, .tup [.int room, .int entries])] H' → Q (.ref p) H'
theorem ok_l_limits (T : Txt P K mg A) : Okd P w K mg base 2 A.l_limits (spLimits A) := by
  refine okN T.f_l_limits sc_l_limits bh_l_limits (fun vs H Q E h => ?_) (fun cdv Ar outer s0 H vs Q E hr h => ?_)
  · obtain ⟨_, rfl, _⟩ := h
    rfl
  · obtain ⟨c, rfl, ht, q⟩ := h
    have nd := sc_l_limits.nd
    refine ⟨_, pss_cons (ps_set (i := 1) nd rfl (.inl rfl) (pe_run ((ok_l_number T).runs hr passN0) T.g_l_number T.k_l_number (pa_cons (pv 0) (pa_cons pe_int pa_nil))))
      (pss_cons (ps_set (i := 2) nd rfl (.inl rfl) (pe_op op_add pe_int (pe_op op_mod (pe_callTy call_int1 (by rfl) T.b_int (by decide +kernel) (pa_cons (pv 1) pa_nil)) pe_int)))
      (pss_cons (ps_if (pt_cmpR op_eq (pe_op op_mod (pe_op op_fdiv (pv 1) pe_int) pe_int) pe_int (nomark _)) (pss_one (ps_set (i := 2) nd rfl (.inl rfl) (pe_op op_add pe_int (pe_op op_mod (pe_op op_fdiv (pv 1) pe_int) pe_int)))) pss_nil)
      (pss_cons (ps_if (pt_cmpR op_eq (pe_op op_mod (pe_op op_fdiv (pv 1) pe_int) pe_int) pe_int (nomark _)) (pss_one (ps_ret (pe_tup (pa_cons (pv 2) (pa_cons (pe_op op_add pe_int (pe_op op_mod (pe_op op_fdiv (pv 1) pe_int) pe_int)) pa_nil))))) pss_nil)
      (pss_one (ps_ret (pe_tup (pa_cons (pv 2) (pa_cons pe_int pa_nil)))))))), ?_⟩
    refine ⟨_, rfl, c, 0, rfl, fun x => ?_⟩
    refine ⟨_, rfl, .inl ⟨_, rfl, _, _, rfl, rfl, (by show (0 : Int) < 60; decide), _, _, rfl, rfl, ?_⟩⟩
    have fin : ∀ room : Int, 3 ≤ room → room ≤ 1000 → (tSeq (tIfS (tTest (tOp rEq (tOp (rI (fun _ j => 0 < j) fun i j => .int (i % j)) (tOp (rI CDiv fun i j => .int (i / j)) (tVar 1) (tC (.int 7))) (tC (.int 2))) (tC (.int 0)))) (tRet (tTup (tCons (tVar 2) (tCons (tOp (rI0 fun i j => .int (i + j)) (tC (.int 1)) (tOp (rI (fun _ j => 0 < j) fun i j => .int (i % j)) (tOp (rI CDiv fun i j => .int (i / j)) (tVar 1) (tC (.int 14))) (tC (.int 9)))) tNil)))) tNext)
        (tRet (tTup (tCons (tVar 2) (tCons (tC (.int 100000)) tNil))))) { nx := fun _ H' => Q .non H', rt := Q } [some (.int c), some (.int x), some (.int room)] H := by
      intro room r0 r1
      refine ⟨_, rfl, _, _, rfl, rfl, ⟨by decide, by decide⟩, _, _, rfl, rfl, (by show (0 : Int) < 2; decide), rfl, _, rfl, ?_⟩
      refine ite2 (fun _ => ?_) (fun _ => ?_)
      · refine ⟨_, rfl, _, rfl, _, _, rfl, rfl, ⟨by decide, by decide⟩, _, _, rfl, rfl, (by show (0 : Int) < 9; decide), _, _, rfl, rfl, (by show 2 ≤ sizeLine; rw [sizeLine_eq]; decide), fun p hp => ?_⟩
        exact q room _ _ p r0 r1 (by omega) (by omega) ((Own.nil ht).new hp)
      · refine ⟨_, rfl, (by show 2 ≤ sizeLine; rw [sizeLine_eq]; decide), fun p hp => ?_⟩
        exact q room _ _ p r0 r1 (by decide) (by decide) ((Own.nil ht).new hp)
    refine ⟨_, rfl, _, _, rfl, rfl, ⟨by decide, by decide⟩, _, _, rfl, rfl, (by show (0 : Int) < 3; decide), rfl, _, rfl, ?_⟩
    refine ite2 (fun _ => ?_) (fun _ => ?_)
    · refine ⟨_, rfl, _, _, rfl, rfl, ⟨by decide, by decide⟩, _, _, rfl, rfl, (by show (0 : Int) < 400; decide), _, _, rfl, rfl, ?_⟩
      exact fin _ (by omega) (by omega)
    · exact fin _ (by omega) (by omega)
def spPressed (A : Ads) : Sp := fun vs H Q _ => ∃ (a : Addr) (c k : Int) (D : SpD) (cs : List Cell), vs = [.ref a, .int c, .int k] ∧ SpR A.CT A.CS a D cs ∧ Own A.T (adr cs) H cs H ∧
  ∀ (ms : List Int) (b : Bool) (H' : Hp) (cs' : List Cell), SpR A.CT A.CS a { D with press := ms, always := b } cs' → Own A.T (adr cs) H cs' H' → Q .non H'
theorem ok_l_pressed (T : Txt P K mg A) : Okd P w K mg base 2 A.l_pressed (spPressed A) := by
  refine okN T.f_l_pressed sc_l_pressed bh_l_pressed (fun vs H Q E h => ?_) (fun cdv Ar outer s0 H vs Q E hr h => ?_)
  · obtain ⟨_, _, _, _, _, rfl, _⟩ := h
    rfl
  · obtain ⟨a, c, k, D, cs, rfl, hS, W, q⟩ := h
    have nd := sc_l_pressed.nd
    obtain ⟨fdP, FP, ⟨dsP, dvP, bP⟩, kP⟩ := ok_p_press (P := P) (w := w) (base := base) T
    obtain ⟨dx, s, pr, rt, hd, sv, h1⟩ := hS.ins W.has
    refine ⟨_, pss_cons (ps_set (i := 3) nd rfl (.inl rfl) (pe_run ((ok_l_number T).runs hr passN0) T.g_l_number T.k_l_number (pa_cons (pv 1) (pa_cons (pv 2) pa_nil))))
      (pss_one (ps_if (pt_cmpR op_eq (pe_op op_mod (pe_callTy call_int1 (by rfl) T.b_int (by decide +kernel) (pa_cons (pv 3) pa_nil)) pe_int) pe_int (nomark _))
        (pss_one (ps_expr (pe_methN (E := E0) (pv 0) T.clS T.m_p_press FP hr kP (fun _ _ _ _ _ _ _ z => z.elim) (pa_cons (pe_lst pa_nil) pa_nil) (pk_cons pe_bl pk_nil))))
        (pss_one (ps_if (pt_cmpR op_gt (pe_op op_mod (pe_callTy call_int1 (by rfl) T.b_int (by decide +kernel) (pa_cons (pv 3) pa_nil)) pe_int) pe_int (nomark _))
          (pss_cons (ps_set (i := 3) nd rfl (.inl rfl) (pe_op op_fdiv (pv 3) pe_int)) (pss_cons (ps_set (i := 4) nd rfl (.inl rfl) (pe_lst pa_nil))
          (pss_cons (ps_for PassesOwn.never rfl (pi_range1 rfl T.b_range (pa_cons pe_int pa_nil)) (pg_name (i := 5) nd rfl (.inl rfl))
            (pss_cons (ps_if (pt_cmpR op_eq (pe_op op_mod (pe_callTy call_int1 (by rfl) T.b_int (by decide +kernel) (pa_cons (pv 3) pa_nil)) pe_int) pe_int (nomark _)) (pss_one (ps_expr (pe_bm PySem.F.plainAttrs_list PySem.F.slot_list_append PySem.F.type_list_append mt_append (pv 4) (pa_cons (pe_op op_add (pv 5) pe_int) pa_nil)))) pss_nil)
            (pss_one (ps_set (i := 3) nd rfl (.inl rfl) (pe_op op_fdiv (pv 3) pe_int)))))
          (pss_one (ps_expr (pe_meth (E := E0) (pv 0) T.clS T.m_p_press FP hr bP dvP (fun _ _ _ _ _ _ _ z => z.elim) (pa_cons (pv 4) pa_nil)))))))
          pss_nil)))), ?_⟩
    refine ⟨_, rfl, _, rfl, _, _, rfl, fun y => ?_⟩
    refine ⟨_, rfl, .inl ⟨_, rfl, _, _, rfl, rfl, (by show (0 : Int) < 4; decide), rfl, _, rfl, ?_⟩⟩
    refine ite2 (fun _ => ?_) (fun _ => ?_)
    · refine ⟨_, rfl, a, dx, _, rfl, h1, spF_none (by decide +kernel), (by show 0 ≤ sizeLine; exact Nat.zero_le _), fun l hl => ?_⟩
      have W1 := W.new (o := .lst []) hl
      refine ⟨rfl, rfl, a, l, true, [], D, cs, rfl, hS, W1.tail.start, W1.get 0 rfl, by simp, fun H2 cs2 hS2 R2 => ?_⟩
      exact q _ _ _ _ hS2 (W1.tail.whole R2)
    refine ⟨_, rfl, .inl ⟨_, rfl, _, _, rfl, rfl, (by show (0 : Int) < 4; decide), _, _, rfl, rfl, _, rfl, ?_⟩⟩
    refine ite2 (fun _ => ?_) (fun _ => ?_)
    rotate_left
    · exact q D.press D.always _ _ hS W
    refine ⟨_, rfl, _, _, rfl, rfl, ⟨by decide, by decide⟩, (by show 0 ≤ sizeLine; exact Nat.zero_le _), fun l hl => ?_⟩
    have W1 := W.new (o := .lst []) hl
    refine ⟨64, rfl, by decide, by decide, for_range (n := 64) (lo := 0) (Pv := fun i σ H' => ∃ (y : Int) (v5 : Option V) (ms : List Int), σ = [some (.ref a), some (.int c), some (.int k), some (.int y), some (.ref l), v5] ∧ ms.length ≤ i ∧ Own A.T (adr cs) H ((l, .lst (ms.map V.int)) :: cs) H') ⟨_, _, [], rfl, Nat.le_refl _, W1⟩ ?_ ?_⟩
    · rintro i σ H1 hi ⟨y, v5, ms, rfl, hm, W2⟩
      refine ⟨_, rfl, .inl ⟨_, rfl, _, _, rfl, rfl, (by show (0 : Int) < 2; decide), rfl, _, rfl, ?_⟩⟩
      refine ite2 (fun _ => ?_) (fun _ => ?_)
      · refine ⟨_, rfl, .inl ⟨rfl, _, SqL.of (W2.get 0 rfl)⟩, _, rfl, _, _, rfl, rfl, l, _, _, rfl, rfl, W2.get 0 rfl, (line1000 (by rw [List.length_map]; omega)), ?_⟩
        have W3 := W2.put 0 rfl rfl (b := l) (o' := .lst (ms.map V.int ++ [.int (0 + (i : Int) + 1)]))
        refine ⟨_, rfl, _, _, rfl, rfl, ⟨by decide, by decide⟩, ?_⟩
        refine ⟨_, _, ms ++ [0 + (i : Int) + 1], rfl, by rw [List.length_append, List.length_singleton]; omega, ?_⟩
        rw [List.map_append]
        exact W3
      · exact ⟨_, rfl, _, _, rfl, rfl, ⟨by decide, by decide⟩, _, _, ms, rfl, by omega, W2⟩
    · rintro σ H1 ⟨y, v5, ms, rfl, hm, W2⟩
      obtain ⟨dx2, s2, pr2, rt2, hd2, sv2, h2⟩ := hS.ins W2.tail.has
      refine ⟨_, rfl, a, dx2, _, rfl, h2, spF_none (by decide +kernel), _, rfl, a, l, false, ms, D, cs, rfl, hS, W2.tail.start, W2.get 0 rfl, by omega, fun H2 cs2 hS2 R2 => ?_⟩
      exact q _ _ _ _ hS2 (W2.tail.whole R2)
end
end K9
end
section
set_option Elab.async false
set_option linter.all false
set_option maxRecDepth 100000
set_option maxHeartbeats 4000000
/-! try with several clauses «except x as n», one name n. -/
namespace K9
open PySem PySem.Spec PyProof.Rows L2
/-- what the clauses wish, one after the other; slot i is n's -/
def wManyA (K : PySem.W.Frag) (i : Nat) (Wout : WX) (D : Ends) : List (Value × (Addr → Value → Option Addr → TS)) → WX
  | [] => Wout
  | (c, ts) :: r => fun cls d σ H => ∃ b, PySem.W.exmOne K cls c = some b ∧
      (b = true → ∀ a, H a = none → ts a cls d { nx := fun σ' H' => D.nx (σ'.set i none) H', rt := D.rt, bk := fun σ' H' => D.bk (σ'.set i none) H', ct := fun σ' H' => D.ct (σ'.set i none) H' } (σ.set i (some (.ref a))) H) ∧
      (b = false → wManyA K i Wout D r cls d σ H)
inductive HdsA (X : Cx) (n : Str) : List ExceptHandler → List (Value × (Addr → Value → Option Addr → TS)) → Prop
  | nil : HdsA X n [] []
  | cons {x : Str} {c : Value} {ts : Addr → Value → Option Addr → TS} {b₀ : Stmt} {suite : List Stmt} {np pos' : Pos} {hds : List ExceptHandler} {l : List (Value × (Addr → Value → Option Addr → TS))} (hc : Names X x c)
      (hsu : ∀ (a : Addr) (oe : Obj) (cls : Value) (d : Option Addr) (pn : List (Addr × Obj)), L2N.Zn cls d oe → (∃ vs, oe.data = .fields vs) → PSs (X.suite a ((a, oe) :: pn)) (b₀ :: suite) (ts a cls d)) (r : HdsA X n hds l) :
      HdsA X n (.ExceptHandler (some (.Name x np)) (some n) (b₀ :: suite) pos' :: hds) ((c, ts) :: l)
section
variable {X : Cx} {n : Str} {i : Nat} {body : List Stmt} {h₀ : ExceptHandler} {hds : List ExceptHandler} {l : List (Value × (Addr → Value → Option Addr → TS))} {pos : Pos} {tb : WX → TS} {Wout : WX}
theorem ps_try_manyA (hs : X.stack = X.env :: X.outer) (hf : X.env.frame = some X.env.locals) (hN : X.N.Nodup) (hi : X.N[i]? = some n) (hln : X.env.kindOf n = some .local) (tk : L2N.Takes X Wout)
    (hb : ∀ (W : WX) (pn : List (Addr × Obj)) (xe : Value → Shared → Prop), L2N.Takes (X.tr pn xe) W → PassesOwn (model X.prog X.w) X.A X.env xe → PSs (X.tr pn xe) body (tb W))
    (hh : HdsA X n (h₀ :: hds) l) : PS X (.Try body (h₀ :: hds) [] [] pos) (fun D σ H => tb (wManyA X.K i Wout D l) D σ H) := by
  refine ⟨fun pins s σ H D I h => ?_⟩
  have ok := I.ok
  have hfr : X.A.frames = some (X.env :: X.outer) := by rw [ok.frames, hs]
  have hloc : Loc X.env.scope n := .inl hln
  refine wpAny_Try_except ?_
  refine wpAny_mono ((hb (wManyA X.K i Wout D l) (X.pn ++ pins) (fun e s₁ => wpAny (model X.prog X.w) X.A (noteFrame e X.env) (fun _ s₂ => wpAny (model X.prog X.w) X.A (setFlight e none) (fun _ s₃ =>
    wpAny (model X.prog X.w) X.A (handleBy e X.env (h₀ :: hds)) (SP X pins D) X.xe s₃) X.xe s₂) X.xe s₁) (fun u s' xx => ?_) PassesOwn.looking).run [] s σ H D (I.toTry _) h) (fun f s1 hsp => ?_) (fun e s1 he => he)
  · obtain ⟨a, B, sI, pins', σ', H', cls, d, rfl, J', nb, up, sky, na, os, ag, w⟩ := xx
    have J : Inv X pins σ' H' sI := J'.ofTry ok
    have sky' : L2.Sky B (X.env :: X.outer) a (L2N.Zn cls d) X.env.locals s'.heap := by rw [← hs]; exact sky
    show wpAny (model X.prog X.w) X.A (noteFrame (.ref a) X.env) _ _ _
    refine L2N.Sky.land L2N.Zn.steady hfr hf sky' fun h3 fl3 up3 => ?_
    have J3 : Inv X pins σ' H' { s' with heap := h3 } := J.landed nb fl3.1 (up.trans up3) os ag
    obtain ⟨oe3, vs3, he3, hz3, hd3⟩ := fl3.there
    have notFr : ∀ {h : Heap} {o : Obj} {vs : Array Value}, h.FunFrames B (X.env :: X.outer) → h.get? a = some o → o.data = .fields vs → a ∉ frs (X.env :: X.outer) := fun {h o vs} ff e dd hm => by
      obtain ⟨_, o', e', hnf⟩ := ff.mem hm
      rw [e] at e'; cases e'
      exact hnf _ dd
    have nfr := notFr fl3.2.2.1 he3 hd3
    have nL : a ≠ X.env.locals := fun z => nfr (List.mem_filterMap.mpr ⟨X.env, List.mem_cons_self, by rw [hf, z]⟩)
    have nF : a ∉ X.fs := fun hm => by
      obtain ⟨e, he, q⟩ := List.mem_filterMap.mp hm
      exact nfr (List.mem_filterMap.mpr ⟨e, List.mem_cons_of_mem _ he, q⟩)
    have S3 := J3.suite he3 hd3 na nL nF
    have go : ∀ {hds' : List ExceptHandler} {l' : List (Value × (Addr → Value → Option Addr → TS))}, HdsA X n hds' l' → wManyA X.K i Wout D l' cls d σ' H' →
        wpAny (model X.prog X.w) X.A (handleBy (.ref a) X.env hds') (SP X pins D) X.xe { s' with heap := h3 } := by
      intro hds' l' hk
      induction hk with
      | nil =>
        intro w
        refine wpAny_handleBy_nil ?_
        obtain ⟨k1, k2, k3, oe, vs, T, oT, ts', he, hz, hd, h1, hr⟩ := id fl3
        unfold PySem.passOn
        refine wpAny_bind (wpAny_field he hd h1 ?_)
        rw [if_neg (show ¬ ((Value.ref T == Value.none) = true) from by simp)]
        have fin : wpAny (model X.prog X.w) X.A (setFlight (.ref a) X.env.frame) (fun _ s4 => wpAny (model X.prog X.w) X.A (throw (.ref a) : Sem Flow) (SP X pins D) X.xe s4) X.xe { s' with heap := h3 } := by
          rw [hf]
          refine HandSPX.setFlight_upZ fl3 fun h4 hh4 up4 => wpAny_throw (tk _ _ ?_)
          exact ⟨a, B, sI, pins, σ', H', cls, d, rfl, J, nb, (up.trans up3).trans up4, .inr (.inr (by rw [hs]; exact hh4)), na, os, ag, w⟩
        first
          | exact wpAny_bind (wpAny_pure (wpAny_bind fin))
          | exact wpAny_bind fin
      | @cons x c ts b₀ suite np pos' hds2 l2 hc hsu r ih =>
        intro w
        obtain ⟨b, hb1, hyes, hno⟩ := w
        refine wpAny_handleBy_cons (codeAny_handlers_test ?_) (by intro q; cases q)
        have LT : PySem.W.Looks (model X.prog X.w) h3 (typeOf (.ref a)) cls := fun A Q E s k q => wpAny_typeOf_ref (k _ _ he3) (by rw [hz3.1]; exact q)
        have LM := PySem.W.exm_one (M := model X.prog X.w) (J3.kIn) LT hb1
        have test : ∀ {Q : Value → Shared → Prop} {E : Value → Shared → Prop}, Q c { s' with heap := h3 } → wpAny (model X.prog X.w) (X.A.mark (some (.ref a))) (eval (.Name x np) X.env) Q E { s' with heap := h3 } := fun {Q E} q => by
          obtain ⟨hg, hdbg, hm | ⟨hm, hv, hnn⟩⟩ := hc
          · exact ld_glob (X := X.suite a ((a, oe3) :: (X.pn ++ pins))) S3 hg hm q hdbg
          · exact ld_blt (X := X.suite a ((a, oe3) :: (X.pn ++ pins))) S3 hg hm hv q hnn hdbg
        refine test (LM.here ?_)
        cases b with
        | true =>
          refine codeAny_handlers_suite_as ?_
          refine HandSPX.lands_againZ fl3 fun h4 fl4 up4 => ?_
          have J4 : Inv X pins σ' H' { s' with heap := h4 } := J.landed nb fl4.1 ((up.trans up3).trans up4) os ag
          obtain ⟨oe4, vs4, he4, hz4, hd4⟩ := fl4.there
          have S4 := J4.suite he4 hd4 na nL nF
          refine store_ok (X := X.suite a ((a, oe4) :: (X.pn ++ pins))) (v := .ref a) S4 hN hi hloc rfl (fun s5 S5 => ?_) (.inr hln)
          refine wpAny_mono ((hsu a oe4 cls d (X.pn ++ pins) hz4 ⟨_, hd4⟩).run [] s5 _ H' _ S5 (hyes rfl a na)) (fun f s6 hsp => ?_) (fun _ _ z => False.elim z)
          have end_ : ∀ {σ6 : L2.St} {H6 : Hp} {Q : Shared → Prop}, Inv (X.suite a ((a, oe4) :: (X.pn ++ pins))) [] σ6 H6 s6 → (∀ s7, Inv X pins (σ6.set i none) H6 s7 → Q s7) →
              wpAny (model X.prog X.w) X.A (do bindName X.env n .none; unbindBehindTheSuite X.env n pos') (fun _ s7 => Q s7) X.xe s6 := fun {σ6 H6 Q} S6 hq => gone_ok (S6.unsuite ok) hN hi hln hq
          cases f with
          | next =>
            obtain ⟨σ6, H6, S6, q6⟩ := hsp
            exact end_ S6 fun s7 J7 => ⟨_, _, J7, q6⟩
          | brk =>
            obtain ⟨σ6, H6, S6, q6⟩ := hsp
            exact end_ S6 fun s7 J7 => ⟨_, _, J7, q6⟩
          | cont =>
            obtain ⟨σ6, H6, S6, q6⟩ := hsp
            exact end_ S6 fun s7 J7 => ⟨_, _, J7, q6⟩
          | ret u =>
            obtain ⟨v6, σ6, H6, S6, r6, q6⟩ := hsp
            exact end_ S6 fun s7 J7 => ⟨_, _, _, J7, r6, q6⟩
        | false =>
          show wpAny _ X.A (handleBy (.ref a) X.env hds2) _ _ _
          exact ih (hno rfl)
    exact go hh w
  · cases f with
    | next =>
      obtain ⟨σ', H', J', q⟩ := hsp
      exact wpAny_execs_nil ⟨σ', H', J'.ofTry ok, q⟩
    | brk =>
      obtain ⟨σ', H', J', q⟩ := hsp
      exact ⟨σ', H', J'.ofTry ok, q⟩
    | cont =>
      obtain ⟨σ', H', J', q⟩ := hsp
      exact ⟨σ', H', J'.ofTry ok, q⟩
    | ret u =>
      obtain ⟨v, σ', H', J', r, q⟩ := hsp
      exact ⟨v, σ', H', J'.ofTry ok, r, q⟩
end
end K9
end
section
set_option Elab.async false
set_option linter.all false
set_option maxRecDepth 100000
set_option maxHeartbeats 4000000
/-! The law's defs: new, held. -/
namespace K9
open PySem PySem.Spec PyProof.Rows L2 LamX
theorem XcT.xf {P : Program} {K : PySem.W.Frag} {mg : Str → Option Value} {C fI : Addr} {nmC qual fld : Str} {xa : Arguments} {xb : List Stmt} (T : XcT P K mg C fI nmC qual fld xa xb) : XfC K C := ⟨T.ga, T.gg, T.exC, T.hdC⟩
theorem look1 (f : Str) (v : V) : List.lookup f [(f, v)] = some v := by simp [List.lookup]
theorem ob_snoc : ∀ {all : List Ob} {o : Ob}, o.num ∉ nums all → ob? (all ++ [o]) o.num = some o
  | [], o, _ => if_pos rfl
  | q :: l, o, hn => by
    have h1 : q.num ≠ o.num := fun z => hn (by rw [← z]; exact List.mem_cons_self)
    show (if q.num = o.num then some q else ob? (l ++ [o]) o.num) = _
    rw [if_neg h1]
    exact ob_snoc fun z => hn (List.mem_cons_of_mem _ z)
theorem AllocR.made_ob {room entries : Int} {all all' : List Ob} {kind n : Int} {size : Nat} (h : AllocR room entries all kind size (.made n) all') : ob? all' n = some (newOb n kind size) := by
  obtain ⟨_, _, hn, rfl⟩ := h
  exact ob_snoc (o := newOb n kind size) hn.1
theorem NewR.rest {D D' : SpD} {kind : Int} {size : Nat} {o : Out} (h : NewR D kind size o D') : D'.room = D.room ∧ D'.entries = D.entries ∧ D'.roots = D.roots ∧ D'.held = D.held ∧ D'.saved = D.saved ∧ D'.allocs = D.allocs + 1 ∧ ∃ all0, AllocR D.room D.entries all0 kind size o D'.objs := by
  rcases h with ⟨_, all', hA, rfl⟩ | ⟨_, ⟨_, h⟩ | ⟨_, h⟩⟩
  · exact ⟨rfl, rfl, rfl, rfl, rfl, rfl, _, hA⟩
  · rcases h with ⟨_, all', hA, rfl⟩ | ⟨_, all', hA, rfl⟩
    · exact ⟨rfl, rfl, rfl, rfl, rfl, rfl, _, hA⟩
    · exact ⟨rfl, rfl, rfl, rfl, rfl, rfl, _, hA⟩
  · rcases h with ⟨_, all', hA, rfl⟩ | ⟨_, all', hA, rfl⟩
    · exact ⟨rfl, rfl, rfl, rfl, rfl, rfl, _, hA⟩
    · exact ⟨rfl, rfl, rfl, rfl, rfl, rfl, _, hA⟩
section
variable {P : Program} {w : World} {K : PySem.W.Frag} {mg : Str → Option Value} {base : Heap} {A : Ads}
/-- what is told, and what is left -/
def ToldK (A : Ads) (a : Addr) (F : List Addr) (H : Hp) (R : List V → SpD → Prop) (Q : VK) : Prop := ∀ (told : List V) (D' : SpD) (H' : Hp) (cs' : List Cell) (p : Addr), R told D' → SpR A.CT A.CS a D' cs' → Own A.T F H ((p, .lst told) :: cs') H' → Q (.ref p) H'
def spLNew (A : Ads) : Sp := fun vs H Q _ => ∃ (a : Addr) (kind : Int) (size pl : Nat) (D : SpD) (cs : List Cell), vs = [.ref a, .int kind, .int (size : Int), .int (pl : Int)] ∧ SpR A.CT A.CS a D cs ∧ Own A.T (adr cs) H cs H ∧ size ≤ 1000 ∧ pl < 16 ∧ ToldK A a (adr cs) H (NewT D kind size pl) Q
theorem ok_l_new (T : Txt P K mg A) (TB : TabB base mg A.cc A.tb) : Okd P w K mg base 10 A.l_new (spLNew A) := by
  refine okN T.f_l_new sc_l_new bh_l_new (fun vs H Q E h => ?_) (fun cdv Ar outer s0 H vs Q E hr h => ?_)
  · obtain ⟨_, _, _, _, _, _, rfl, _⟩ := h
    rfl
  · obtain ⟨a, kind, size, pl, D, cs, rfl, hS, W, hz, hpl, k⟩ := h
    have nd := sc_l_new.nd
    have hrH := L2H.roomH_of hr
    obtain ⟨dx, s, pr, rt, hd, sv, h1⟩ := hS.ins W.has
    refine ⟨_, pss_cons (ps_try_manyA (i := 5) (tb := fun W => tAsg (L2H.tMethH A.CS "new" (spNew A) (fun σ => WE W σ) (tVar 0) (tCons (tVar 1) (tCons (tVar 2) tNil))) (gName 4)) (Wout := fun _ _ _ _ => False) rfl rfl nd rfl rfl takesNo
        (fun W pn xe tk _ => pss_one (ps_set (i := 4) nd rfl (.inl rfl) (by exact (pe_mrun (pv 0) T.clS T.m_p_new ((ok_p_new T TB).runs hr (fun σ => L2N.passAt tk σ)) (pa_cons (pv 1) (pa_cons (pv 2) pa_nil))))))
        (.cons ⟨rfl, by decide, .inl T.xR.gC⟩ (fun a0 oe cls d pn hz hf => pss_one (ps_ret (by exact (pe_lst (pa_cons pe_str (pa_cons (pe_xf T.xR.xf T.xR.noN hz.zc hf (pv 5)) pa_nil))))))
        (.cons ⟨rfl, by decide, .inl T.xN.gC⟩ (fun a0 oe cls d pn hz hf => pss_one (ps_ret (by exact (pe_lst (pa_cons pe_str (pa_cons (pe_xf T.xN.xf T.xN.noN hz.zc hf (pv 5)) pa_nil)))))) .nil)))
      (pss_cons (ps_expr (pe_mrun (pv 0) T.clS T.m_p_set_root ((ok_p_set_root T).runs (hr.mono (by decide)) passN0) (pa_cons (pv 3) (pa_cons (pe_op op_mul pe_int (pv 4)) pa_nil))))
      (pss_one (ps_ret (pe_lst (pa_cons pe_str (pa_cons (pe_mrun (pe_fld (pv 0) rfl) T.clT T.m_s_size ((ok_s_size T).runs (hrH.mono (by decide)) (.inl rfl)) (pa_cons (pv 4) pa_nil)) pa_nil)))))), ?_⟩
    refine ⟨_, rfl, a, dx, _, rfl, h1, spF_none (by decide +kernel), _, rfl, _, rfl, a, kind, size, D, cs, rfl, hS, W, hz, fun o D1 hN => ?_⟩
    obtain ⟨r1, r2, r3, r4, r5, r6, all0, hA⟩ := hN.rest
    cases o with
    | made n =>
      intro H1 cs1 hS1 W1
      obtain ⟨dx1, s1, pr1, rt1, hd1, sv1, g1⟩ := hS1.ins W1.has
      refine ⟨_, rfl, a, dx1, _, rfl, g1, spF_none (by decide +kernel), _, rfl, _, rfl, _, _, rfl, rfl, .inl ⟨by decide, by decide⟩, a, pl, 2 * n, D1, cs1, rfl, hS1, W1.start, hpl, fun H2 cs2 hS2 R2 => ?_⟩
      have W2 := W1.whole R2
      obtain ⟨s2, dx2, pr2, rt2, hd2, sv2, d1, d2, ecs2, hSt2, hV2, hB2, g2, _, _, _, g5, _⟩ := hS2.open W2.has
      obtain ⟨_, _, _, _, _, _, _, _, _, e2, _, _⟩ := hSt2.open g5
      refine ⟨_, rfl, a, _, dx2, _, _, rfl, g2, T.clS, T.nS_store, spF_store, s2, _, _, rfl, e2, stF_none (by decide +kernel), _, rfl, s2, n, _, _, _, d1, newOb n kind size, rfl, hSt2, g5, hA.made_ob, (by show 2 ≤ sizeLine; rw [sizeLine_eq]; decide), fun p hp => ?_⟩
      refine k _ _ _ cs2 p ⟨.made n, D1, hN, rfl, rfl⟩ hS2 ?_
      have W3 := W2.new (o := .lst [.str "made", .int ((newOb n kind size).slots.length : Int)]) hp
      have e : ((newOb n kind size).slots.length : Int) = (size : Int) := by unfold newOb; simp
      rw [e] at W3 ⊢
      exact W3
    | room =>
      intro d H1 cs1 hS1 W1
      refine ⟨true, T.e_RR, fun _ a0 _ => ?_, fun q => Bool.noConfusion q⟩
      refine ⟨_, rfl, rfl, rfl, d, _, _, rfl, W1.get 0 rfl, look1 _ _, (by show 2 ≤ sizeLine; rw [sizeLine_eq]; decide), fun p hp => ?_⟩
      · have W2 := W1.new (o := .lst [.str "room", .int (3 + (size : Int))]) hp
        exact k _ _ _ cs1 p ⟨.room, D1, hN, rfl, rfl⟩ hS1 (W2.sub ((List.Sublist.refl _).cons _ |>.cons_cons _))
    | num =>
      intro d H1 cs1 hS1 W1
      refine ⟨false, T.e_NR, fun q => Bool.noConfusion q, fun _ => ⟨true, T.e_NN, fun _ a0 _ => ?_, fun q => Bool.noConfusion q⟩⟩
      refine ⟨_, rfl, rfl, rfl, d, _, _, rfl, W1.get 0 rfl, look1 _ _, (by show 2 ≤ sizeLine; rw [sizeLine_eq]; decide), fun p hp => ?_⟩
      · have W2 := W1.new (o := .lst [.str "number", .int D1.entries]) hp
        rw [r2] at W2 ⊢
        exact k _ _ _ cs1 p ⟨.num, D1, hN, rfl, rfl⟩ hS1 (W2.sub ((List.Sublist.refl _).cons _ |>.cons_cons _))
end
end K9
end
section
set_option Elab.async false
set_option linter.all false
set_option maxRecDepth 100000
set_option maxHeartbeats 4000000
/-! The law's defs: held, changed. -/
namespace K9
open PySem PySem.Spec PyProof.Rows L2 LamX
theorem held_cut {D : SpD} (h : D.roots.length = 16) : cutV ((allW D).map V.int) (some 17) none = D.held.map V.int := by
  unfold cutV
  have hl : ((allW D).map V.int).length = 17 + D.held.length := by unfold allW; simp [h]; omega
  rw [hl]
  have s1 : HT.sIx (17 + D.held.length) 0 (some (17 : Int)) = 17 := by
    rw [show (17 : Int) = ((17 : Nat) : Int) from rfl, HT.sIx_nat]; omega
  rw [s1, HT.sIx_none]
  unfold allW
  rw [← List.map_drop, show (17 : Nat) = D.roots.length + 1 by rw [h], List.drop_succ_cons, List.drop_left, List.take_of_length_le (by rw [List.length_map]; omega)]
section
variable {P : Program} {w : World} {K : PySem.W.Frag} {mg : Str → Option Value} {base : Heap} {A : Ads}
def spLHeld (A : Ads) : Sp := fun vs H Q _ => ∃ (a : Addr) (c rest : Int) (pl : Nat) (D : SpD) (cs : List Cell), vs = [.ref a, .int c, .int (pl : Int), .int rest] ∧ SpR A.CT A.CS a D cs ∧ Own A.T (adr cs) H cs H ∧ pl < 16 ∧ D.held.length < 1000 ∧ ToldK A a (adr cs) H (fun told D' => (told, D') = heldF D c pl rest) Q
theorem ok_l_held (T : Txt P K mg A) : Okd P w K mg base 3 A.l_held (spLHeld A) := by
  refine okN T.f_l_held sc_l_held bh_l_held (fun vs H Q E h => ?_) (fun cdv Ar outer s0 H vs Q E hr h => ?_)
  · obtain ⟨_, _, _, _, _, _, rfl, _⟩ := h
    rfl
  · obtain ⟨a, c, rest, pl, D, cs, rfl, hS, W, hpl, hhl, k⟩ := h
    have nd := sc_l_held.nd
    have hrH := L2H.roomH_of hr
    have hr1 := hr.mono (j := 1) (by decide)
    have h16 := hS.r16
    obtain ⟨dx, s, pr, rt, hd, sv, h1⟩ := hS.ins W.has
    refine ⟨_, pss_cons (ps_set (i := 4) nd rfl (.inl rfl) (pe_slice sl_list (pe_mrun0 (pv 0) T.clS T.m_p_all ((ok_p_all T).runs (hrH.mono (by decide)) (.inl rfl))) (po_some pe_int) po_none))
      (pss_cons (ps_if (pt_cmpR op_eq (pv 1) pe_int (nomark _)) (pss_one (ps_ret (pe_lst (pa_cons pe_str (pa_cons (pe_run ((ok_l_shown T).runs hr1 passN0) T.g_l_shown T.k_l_shown (pa_cons (pe_mrun (pv 0) T.clS T.m_p_hold ((ok_p_hold T).runs hr1 passN0) (pa_cons (pe_mrun (pv 0) T.clS T.m_p_root ((ok_p_root T).runs hr1 passN0) (pa_cons (pv 2) pa_nil)) pa_nil)) pa_nil)) pa_nil))))) pss_nil)
      (pss_cons (ps_if (pt_cmpR op_eq (pv 1) pe_int (nomark _)) (pss_cons (ps_expr (pe_mrun (pv 0) T.clS T.m_p_drop ((ok_p_drop T).runs hr1 passN0) (pa_cons (pe_op op_mod (pe_callTy call_int1 (by rfl) T.b_int (by decide +kernel) (pa_cons (pv 3) pa_nil)) (pe_op op_add (pe_callB call_len_seq (by rfl) T.b_len PySem.boot_len (pa_cons (pv 4) pa_nil)) pe_int)) pa_nil)))
        (pss_one (ps_ret (pe_lst (pa_cons pe_str (pa_cons (pe_mrun0 (pv 0) T.clS T.m_p_held ((ok_p_held T).runs hr1 passN0)) pa_nil)))))) pss_nil)
      (pss_cons (ps_if (pt_truth (pv 4) (by intro _; rfl)) (pss_one (ps_expr (pe_mrun (pv 0) T.clS T.m_p_set_root ((ok_p_set_root T).runs hr1 passN0) (pa_cons (pv 2) (pa_cons (pe_ix ix_list (pv 4) (pe_op op_mod (pe_callTy call_int1 (by rfl) T.b_int (by decide +kernel) (pa_cons (pv 3) pa_nil)) (pe_callB call_len_seq (by rfl) T.b_len PySem.boot_len (pa_cons (pv 4) pa_nil))) (fun _ _ => rfl)) pa_nil))))) pss_nil)
      (pss_one (ps_ret (pe_lst (pa_cons pe_str (pa_cons (pe_callB call_len_seq (by rfl) T.b_len PySem.boot_len (pa_cons (pv 4) pa_nil)) pa_nil))))))))  , ?_⟩
    refine ⟨_, rfl, a, dx, _, rfl, h1, spF_none (by decide +kernel), a, D, cs, rfl, hS, W.has, W.tb, fun H1 p1 R1 => ?_⟩
    have W1 := W.call0 R1
    refine ⟨_, rfl, p1, _, rfl, SqL.of (W1.get 0 rfl), fun l hl => ?_⟩
    rw [held_cut h16]
    have W2 := W1.new (o := .lst (D.held.map V.int)) hl
    have W3 : Own A.T (adr cs) H ((l, .lst (D.held.map V.int)) :: cs) _ := W2.sub ((List.Sublist.refl _).cons _ |>.cons_cons _)
    obtain ⟨dx2, s2, pr2, rt2, hd2, sv2, h2⟩ := hS.ins W3.tail.has
    refine ⟨_, rfl, rfl, _, rfl, ?_⟩
    rw [K9.dec_int]
    refine ite2 (fun hc => ?_) (fun hc => ?_)
    · have hc : c = 9 := of_decide_eq_true hc
      refine ⟨_, rfl, a, dx2, _, rfl, h2, spF_none (by decide +kernel), _, rfl, a, dx2, _, rfl, h2, spF_none (by decide +kernel), _, rfl, a, pl, rootAt D pl, D, cs, rfl, hS, W3.tail.has, root_get h16 hpl, ?_⟩
      refine ⟨a, rootAt D pl, D, cs, rfl, hS, W3.tail.start, hhl, fun H3 cs3 hS3 R3 => ?_⟩
      have W4 := W3.tail.whole R3
      refine ⟨_, rfl, (by show 2 ≤ sizeLine; rw [sizeLine_eq]; decide), fun p hp => ?_⟩
      exact k _ _ _ cs3 p (by unfold heldF; rw [if_pos hc]) hS3 (W4.new hp)
    refine ⟨_, rfl, rfl, _, rfl, ?_⟩
    rw [K9.dec_int]
    refine ite2 (fun hc2 => ?_) (fun hc2 => ?_)
    · have hc2 : c = 10 := of_decide_eq_true hc2
      have hlt := Int.emod_lt_of_pos rest (b := (D.held.length : Int) + 1) (by omega)
      have hge := Int.emod_nonneg rest (b := (D.held.length : Int) + 1) (by omega)
      refine ⟨_, rfl, a, dx2, _, rfl, h2, spF_none (by decide +kernel), _, rfl, .inl ⟨_, rfl, _, rfl, l, _, rfl, .inl (SqL.of (W3.get 0 rfl)), _, _, rfl, rfl, _, _, rfl, rfl, (by show (0 : Int) < ((D.held.map V.int).length : Int) + 1; omega), ?_⟩⟩
      refine ⟨a, (rest % ((D.held.length : Int) + 1)).toNat, D, cs, ?_, hS, W3.tail.start, by omega, fun H3 cs3 hS3 R3 => ?_⟩
      · rw [List.length_map]
        show [V.ref a, V.int (rest % ((D.held.length : Int) + 1))] = [V.ref a, V.int (((rest % ((D.held.length : Int) + 1)).toNat : Nat) : Int)]
        rw [show (((rest % ((D.held.length : Int) + 1)).toNat : Nat) : Int) = rest % ((D.held.length : Int) + 1) by omega]
      have W4 := W3.tail.whole R3
      obtain ⟨dx3, s3, pr3, rt3, hd3, sv3, h3⟩ := hS3.ins W4.has
      refine ⟨_, rfl, a, dx3, _, rfl, h3, spF_none (by decide +kernel), a, _, cs3, rfl, hS3, W4.has, (by show 2 ≤ sizeLine; rw [sizeLine_eq]; decide), fun p hp => ?_⟩
      refine k _ _ _ cs3 p ?_ hS3 (W4.new hp)
      unfold heldF
      rw [if_neg (by omega), if_pos hc2]
    have hcf : c ≠ 9 ∧ c ≠ 10 := ⟨fun z => hc (decide_eq_true z), fun z => hc2 (decide_eq_true z)⟩
    refine ⟨_, rfl, !(D.held.map V.int).isEmpty, .inl ⟨_, SqL.of (W3.get 0 rfl), rfl⟩, ?_⟩
    by_cases he : D.held = []
    · refine itF (by rw [he]; rfl) ?_
      refine ⟨_, rfl, l, _, rfl, .inl (SqL.of (W3.get 0 rfl)), (by show 2 ≤ sizeLine; rw [sizeLine_eq]; decide), fun p hp => ?_⟩
      refine k _ _ _ cs p ?_ hS ((W3.new hp).sub ((List.Sublist.refl _).cons _ |>.cons_cons _))
      unfold heldF
      rw [if_neg hcf.1, if_neg hcf.2, List.length_map, if_pos (by rw [he]; rfl)]
    · have hpos : 0 < D.held.length := List.length_pos_iff.mpr he
      refine itT (by cases q : D.held with | nil => exact (he q).elim | cons _ _ => rfl) ?_
      have hlt := Int.emod_lt_of_pos rest (b := (D.held.length : Int)) (by omega)
      have hge := Int.emod_nonneg rest (b := (D.held.length : Int)) (by omega)
      have hg : D.held[(rest % (D.held.length : Int)).toNat]? = some (D.held.getD (rest % (D.held.length : Int)).toNat 0) := by
        rw [List.getD_eq_getElem?_getD, List.getElem?_eq_getElem (by omega)]; rfl
      have hat : atI (D.held.map V.int) (rest % ((D.held.map V.int).length : Int)) = some (V.int (D.held.getD (rest % (D.held.length : Int)).toNat 0)) := by
        rw [List.length_map]
        have := atI_nat (xs := D.held.map V.int) (j := (rest % (D.held.length : Int)).toNat) (v := V.int (D.held.getD (rest % (D.held.length : Int)).toNat 0)) (by rw [List.getElem?_map, hg]; rfl)
        rw [show (((rest % (D.held.length : Int)).toNat : Nat) : Int) = rest % (D.held.length : Int) by omega] at this
        exact this
      refine ⟨_, rfl, a, dx2, _, rfl, h2, spF_none (by decide +kernel), _, rfl, _, rfl, _, rfl, .inl ⟨_, rfl, _, rfl, l, _, rfl, .inl (SqL.of (W3.get 0 rfl)), _, _, rfl, rfl, (by show (0 : Int) < ((D.held.map V.int).length : Int); rw [List.length_map]; omega), l, _, _, _, rfl, rfl, SqL.of (W3.get 0 rfl), hat, ?_⟩⟩
      refine ⟨a, pl, _, D, cs, rfl, hS, W3.tail.start, hpl, fun H3 cs3 hS3 R3 => ?_⟩
      have W4 : Own A.T (adr cs) H ([(l, .lst (D.held.map V.int))] ++ cs3) H3 := (W3.perm (List.perm_append_comm (l₁ := [_]) (l₂ := cs))).call R3 |>.comm
      refine ⟨_, rfl, l, _, rfl, .inl (SqL.of (W4.get 0 rfl)), (by show 2 ≤ sizeLine; rw [sizeLine_eq]; decide), fun p hp => ?_⟩
      refine k _ _ _ cs3 p ?_ hS3 ((W4.new hp).sub ((List.Sublist.refl _).cons _ |>.cons_cons _))
      unfold heldF
      rw [if_neg hcf.1, if_neg hcf.2, List.length_map, if_neg (by intro z; exact he (List.isEmpty_iff.mp z))]
      rfl
end
end K9
end
section
set_option Elab.async false
set_option linter.all false
set_option maxRecDepth 100000
set_option maxHeartbeats 4000000
/-! The law's defs: changed. -/
namespace K9
open PySem PySem.Spec PyProof.Rows L2 LamX
/-- even words of the roots name objects -/
def RootsOk (D : SpD) : Prop := ∀ i, i < 16 → rootAt D i % 2 = 0 → rootAt D i / 2 ∈ nums D.objs
theorem and_ways {b1 b2 : Bool} {S1 S2 I : Prop} (hI : (if b2 = true then S1 else S2) → I) (hS : if (b1 && b2) = true then S1 else S2) : if b1 = true then I else (if false = true then S1 else S2) := by
  cases b1 with
  | true => rw [if_pos rfl]; exact hI hS
  | false => exact hS
theorem if_next {b : Bool} {N : Hp → Prop} {I : Prop} {H : Hp} (R : Hp → Prop) (h1 : b = true → (∀ H', R H' → N H') → I) (h2 : b = false → R H) (h3 : ∀ H', R H' → N H') : if b = true then I else N H := by
  cases b with
  | true => rw [if_pos rfl]; exact h1 rfl h3
  | false => rw [if_neg Bool.false_ne_true]; exact h3 H (h2 rfl)
section
variable {P : Program} {w : World} {K : PySem.W.Frag} {mg : Str → Option Value} {base : Heap} {A : Ads}
/-- the store of a space, to read in it -/
theorem SpR.store {a : Addr} {D : SpD} {cs : List Cell} {H : Hp} (h : SpR A.CT A.CS a D cs) (hh : Has cs H) : ∃ (dx s pr rt hd : Addr) (sv : V) (c1 : List Cell) (fs : List (Str × V)) (dxs : Addr), H a = some (.ins A.CS dx (spF s pr D.always D.allocs D.colls rt hd sv)) ∧ StR A.CT s D.room D.entries D.objs [] c1 ∧ Has c1 H ∧
    H s = some (.ins A.CT dxs fs) ∧ (∀ k, stK.idxOf? k = none → fs.lookup k = none) := by
  obtain ⟨s, dx, pr, rt, hd, sv, c1, c2, rfl, hSt, hV, hB, h1, h2, h3, h4, h5, h6⟩ := h.open hh
  obtain ⟨dxs, _, _, _, _, _, _, _, _, e1, _, _⟩ := hSt.open h5
  exact ⟨dx, s, pr, rt, hd, sv, c1, _, dxs, h1, hSt, h5, e1, fun k hk => stF_none hk⟩
/-- the store of a space, to change it -/
theorem SpR.swap {a : Addr} {D : SpD} {cs : List Cell} {H : Hp} {F : List Addr} {H0 : Hp} (h : SpR A.CT A.CS a D cs) (W : Own A.T F H0 cs H) : ∃ (dx s pr rt hd : Addr) (sv : V) (c1 : List Cell) (fs : List (Str × V)) (dxs : Addr), H a = some (.ins A.CS dx (spF s pr D.always D.allocs D.colls rt hd sv)) ∧ StR A.CT s D.room D.entries D.objs [] c1 ∧ Own A.T (adr c1) H c1 H ∧
    H s = some (.ins A.CT dxs fs) ∧ (∀ k, stK.idxOf? k = none → fs.lookup k = none) ∧
    ∀ (all' : List Ob) (c' : List Cell) (H' : Hp), StR A.CT s D.room D.entries all' [] c' → Own A.T (adr c1) H c' H' → ∃ cs', SpR A.CT A.CS a { D with objs := all' } cs' ∧ Own A.T F H0 cs' H' := by
  obtain ⟨s, dx, pr, rt, hd, sv, c1, c2, rfl, hSt, hV, hB, h1, h2, h3, h4, h5, h6⟩ := h.open W.has
  obtain ⟨dxs, _, _, _, _, _, _, _, _, e1, _, _⟩ := hSt.open h5
  have W0 : Own A.T F H0 (spH A.CS a dx s pr rt hd sv D ++ (c1 ++ c2)) H := W
  exact ⟨dx, s, pr, rt, hd, sv, c1, _, dxs, h1, hSt, W0.right.left.start, e1, fun k hk => stF_none hk, fun all' c' H' hS' R => ⟨_, ⟨s, dx, pr, rt, hd, sv, c', c2, rfl, hS', hV, hB⟩, W0.mid R⟩⟩
theorem sizeOf_ob {l : List Ob} {n : Int} {o : Ob} (h : ob? l n = some o) : sizeOf l n = o.slots.length := by unfold sizeOf; rw [h]; rfl
theorem kindOf_ob {l : List Ob} {n : Int} {o : Ob} (h : ob? l n = some o) : kindOf l n = o.kind := by unfold kindOf; rw [h]; rfl
theorem slotOf_ob {l : List Ob} {n : Int} {o : Ob} {i : Nat} (h : ob? l n = some o) (hi : i < o.slots.length) : o.slots[i]? = some (slotOf l n i) := by
  unfold slotOf
  rw [h]
  show o.slots[i]? = some (o.slots.getD i 0)
  rw [List.getD_eq_getElem?_getD, List.getElem?_eq_getElem hi]; rfl
def spChanged (A : Ads) : Sp := fun vs H Q _ => ∃ (a : Addr) (c rest : Int) (pl : Nat) (D : SpD) (cs : List Cell), vs = [.ref a, .int c, .int (pl : Int), .int rest] ∧ SpR A.CT A.CS a D cs ∧ Own A.T (adr cs) H cs H ∧ pl < 16 ∧ RootsOk D ∧ ToldK A a (adr cs) H (fun told D' => (told, D') = changedF D c pl rest) Q
theorem ok_l_changed (T : Txt P K mg A) : Okd P w K mg base 3 A.l_changed (spChanged A) := by
  refine okN T.f_l_changed sc_l_changed bh_l_changed (fun vs H Q E h => ?_) (fun cdv Ar outer s0 H vs Q E hr h => ?_)
  · obtain ⟨_, _, _, _, _, _, rfl, _⟩ := h
    rfl
  · obtain ⟨a, c, rest, pl, D, cs, rfl, hS, W, hpl, hro, k⟩ := h
    have nd := sc_l_changed.nd
    have hrH := L2H.roomH_of hr
    have hr1 := hr.mono (j := 1) (by decide)
    have hrH1 := hrH.mono (j := 1) (by decide)
    have h16 := hS.r16
    obtain ⟨dx, s, pr, rt, hd, sv, c1, fs, dxs, h1, hSt, h5, e1, hno⟩ := hS.store W.has
    refine ⟨_, pss_cons (ps_set (i := 4) nd rfl (.inl rfl) (pe_mrun (pv 0) T.clS T.m_p_root ((ok_p_root T).runs hr1 passN0) (pa_cons (pv 2) pa_nil)))
      (pss_cons (ps_if (pt_cmpR op_eq (pe_op op_mod (pe_callTy call_int1 (by rfl) T.b_int (by decide +kernel) (pa_cons (pv 4) pa_nil)) pe_int) pe_int (nomark _)) (pss_one (ps_ret (pe_lst (pa_cons pe_str (pa_cons (pv 4) pa_nil))))) pss_nil)
      (pss_cons (ps_set (i := 5) nd rfl (.inl rfl) (pe_mrun (pe_fld (pv 0) rfl) T.clT T.m_s_size ((ok_s_size T).runs hrH1 (.inl rfl)) (pa_cons (pe_op op_fdiv (pv 4) pe_int) pa_nil)))
      (pss_cons (ps_if (PW.pt (pw_and (pt_cmpR op_lt (pv 1) pe_int (nomark _)) (pw_and1 (pt_cmpR op_gt (pv 5) pe_int (nomark _)))))
        (pss_cons (ps_set (i := 6) nd rfl (.inl rfl) (pe_op op_mod (pe_op op_mod (pe_callTy call_int1 (by rfl) T.b_int (by decide +kernel) (pa_cons (pv 3) pa_nil)) pe_int) (pv 5)))
        (pss_cons (ps_if (pt_cmpR op_eq (pv 1) pe_int (nomark _))
          (pss_one (ps_expr (pe_mrun (pv 0) T.clS T.m_p_set_root ((ok_p_set_root T).runs hr1 passN0) (pa_cons (pe_run ((ok_l_place T).runs hr1 passN0) T.g_l_place T.k_l_place (pa_cons (pe_op op_fdiv (pv 3) pe_int) pa_nil)) (pa_cons (pe_mrun (pe_fld (pv 0) rfl) T.clT T.m_s_get ((ok_s_get T).runs hr1 passN0) (pa_cons (pe_op op_fdiv (pv 4) pe_int) (pa_cons (pv 6) pa_nil))) pa_nil)))))
          (pss_one (ps_expr (pe_mrun (pe_fld (pv 0) rfl) T.clT T.m_s_put ((ok_s_put T).runs hr1 passN0) (pa_cons (pe_op op_fdiv (pv 4) pe_int) (pa_cons (pv 6) (pa_cons (pe_run ((ok_l_word T).runs hr passN0) T.g_l_word T.k_l_word (pa_cons (pv 0) (pa_cons (pe_op op_fdiv (pv 3) pe_int) pa_nil))) pa_nil)))))))
        (pss_one (ps_ret (pe_lst (pa_cons pe_str (pa_cons (pv 6) (pa_cons (pe_run ((ok_l_shown T).runs hr1 passN0) T.g_l_shown T.k_l_shown (pa_cons (pe_mrun (pe_fld (pv 0) rfl) T.clT T.m_s_get ((ok_s_get T).runs hr1 passN0) (pa_cons (pe_op op_fdiv (pv 4) pe_int) (pa_cons (pv 6) pa_nil))) pa_nil)) pa_nil))))))))
        pss_nil)
      (pss_cons (ps_if (pt_cmpR op_eq (pv 1) pe_int (nomark _)) (pss_one (ps_expr (pe_mrun (pe_fld (pv 0) rfl) T.clT T.m_s_set_kind ((ok_s_set_kind T).runs hr1 passN0) (pa_cons (pe_op op_fdiv (pv 4) pe_int) (pa_cons (pe_run ((ok_l_word T).runs hr passN0) T.g_l_word T.k_l_word (pa_cons (pv 0) (pa_cons (pv 3) pa_nil))) pa_nil))))) pss_nil)
      (pss_cons (ps_set (i := 7) nd rfl (.inl rfl) (pe_mrun (pv 0) T.clS T.m_p_root ((ok_p_root T).runs hr1 passN0) (pa_cons (pe_run ((ok_l_place T).runs hr1 passN0) T.g_l_place T.k_l_place (pa_cons (pv 3) pa_nil)) pa_nil)))
      (pss_cons (ps_if (PW.pt (pw_and (pt_cmpR op_eq (pv 1) pe_int (nomark _)) (pw_and1 (pt_cmpR op_eq (pe_op op_mod (pe_callTy call_int1 (by rfl) T.b_int (by decide +kernel) (pa_cons (pv 7) pa_nil)) pe_int) pe_int (nomark _)))))
        (pss_one (ps_expr (pe_mrun (pe_fld (pv 0) rfl) T.clT T.m_s_exch ((ok_s_exch T).runs hr1 passN0) (pa_cons (pe_op op_fdiv (pv 4) pe_int) (pa_cons (pe_op op_fdiv (pv 7) pe_int) pa_nil))))) pss_nil)
      (pss_one (ps_ret (pe_lst (pa_cons pe_str (pa_cons (pv 5) (pa_cons (pe_run ((ok_l_shown T).runs hr1 passN0) T.g_l_shown T.k_l_shown (pa_cons (pe_mrun (pe_fld (pv 0) rfl) T.clT T.m_s_kind ((ok_s_kind T).runs hrH1 (.inl rfl)) (pa_cons (pe_op op_fdiv (pv 4) pe_int) pa_nil)) pa_nil)) pa_nil)))))))))))), ?_⟩
    refine ⟨_, rfl, a, dx, _, rfl, h1, spF_none (by decide +kernel), _, rfl, a, pl, rootAt D pl, D, cs, rfl, hS, W.has, root_get h16 hpl, ?_⟩
    unfold changedF at k
    refine ⟨_, rfl, .inl ⟨_, rfl, _, _, rfl, rfl, (by show (0 : Int) < 2; decide), rfl, _, rfl, ?_⟩⟩
    rw [K9.dec_int]
    refine ite2 (fun hc => ?_) (fun hc => ?_)
    · have hc := of_decide_eq_true hc
      refine ⟨_, rfl, (by show 2 ≤ sizeLine; rw [sizeLine_eq]; decide), fun p hp => ?_⟩
      exact k _ _ _ cs p (by rw [if_pos hc]) hS (W.new hp)
    have hodd : ¬ rootAt D pl % 2 = 1 := fun z => hc (decide_eq_true z)
    have heven : rootAt D pl % 2 = 0 := by omega
    simp only [if_neg hodd] at k
    obtain ⟨o, ho⟩ := ob_of_nums (hro pl hpl heven)
    rw [sizeOf_ob ho] at k
    have hosz : o.slots.length ≤ 1000 := by
      obtain ⟨_, _, _, _, _, _, _, hO, _, _, _, _⟩ := hSt.open h5
      obtain ⟨q, hq⟩ := off_of_ob ho
      have := off_bound ho hq
      have := hO.totle
      unfold Ob.len at *
      omega
    refine ⟨_, rfl, a, _, dx, _, _, rfl, h1, T.clS, T.nS_store, spF_store, s, _, _, rfl, e1, hno _ (by decide +kernel), _, rfl, _, _, rfl, rfl, ⟨by decide, by decide⟩, s, rootAt D pl / 2, _, _, _, c1, o, rfl, hSt, h5, ho, ?_⟩
    refine ⟨_, rfl, _, _, rfl, rfl, _, rfl, ?_⟩
    refine and_ways (b2 := decide (0 < (o.slots.length : Int))) (fun h => ⟨_, rfl, _, _, rfl, rfl, _, rfl, h⟩) ?_
    by_cases hA : c < 9 ∧ 0 < o.slots.length
    · simp only [if_pos hA] at k
      refine itT (by simp [hA.1, hA.2]) ?_
      have hlt := Int.emod_lt_of_pos (rest % 64) (b := (o.slots.length : Int)) (by omega)
      have hge := Int.emod_nonneg (rest % 64) (b := (o.slots.length : Int)) (by omega)
      refine ⟨_, rfl, .inl ⟨_, rfl, _, _, rfl, rfl, (by show (0 : Int) < 64; decide), _, rfl, _, _, rfl, rfl, (by show (0 : Int) < (o.slots.length : Int); omega), ?_⟩⟩
      obtain ⟨i, hi⟩ : ∃ i : Nat, rest % 64 % (o.slots.length : Int) = (i : Int) := ⟨(rest % 64 % (o.slots.length : Int)).toNat, by omega⟩
      rw [hi] at hlt
      simp only [hi, Int.toNat_natCast] at k
      have hil : i < o.slots.length := by omega
      dsimp only [gName]
      rw [hi]
      refine ⟨_, rfl, rfl, _, rfl, ?_⟩
      rw [K9.dec_int]
      by_cases h8 : c = 8
      · simp only [if_pos h8] at k
        refine itT (decide_eq_true h8) ?_
        refine ⟨_, rfl, a, dx, _, rfl, h1, spF_none (by decide +kernel), _, rfl, _, _, rfl, rfl, ⟨by decide, by decide⟩, rest / 64, rfl, ?_⟩
        refine ⟨_, rfl, a, _, dx, _, _, rfl, h1, T.clS, T.nS_store, spF_store, s, _, _, rfl, e1, hno _ (by decide +kernel), _, rfl, _, _, rfl, rfl, ⟨by decide, by decide⟩, _, rfl, s, rootAt D pl / 2, _, _, i, _, _, c1, o, rfl, hSt, h5, ho, slotOf_ob ho hil, ?_⟩
        refine ⟨a, placeN (rest / 64), slotOf D.objs (rootAt D pl / 2) i, D, cs, rfl, hS, W.start, placeN_lt _, fun H3 cs3 hS3 R3 => ?_⟩
        have W4 := W.whole R3
        obtain ⟨dx3, s3, pr3, rt3, hd3, sv3, c3, fs3, dxs3, g1, hSt3, g5, f1, hno3⟩ := hS3.store W4.has
        refine ⟨_, rfl, _, rfl, a, _, dx3, _, _, rfl, g1, T.clS, T.nS_store, spF_store, s3, _, _, rfl, f1, hno3 _ (by decide +kernel), _, rfl, _, _, rfl, rfl, ⟨by decide, by decide⟩, _, rfl, s3, rootAt D pl / 2, _, _, i, _, _, c3, o, rfl, hSt3, g5, ho, slotOf_ob ho hil, ?_⟩
        refine ⟨_, rfl, (by show 3 ≤ sizeLine; rw [sizeLine_eq]; decide), fun p hp => ?_⟩
        exact k _ _ _ cs3 p rfl hS3 (W4.new hp)
      · simp only [if_neg h8] at k
        refine itF (decide_eq_false h8) ?_
        obtain ⟨dx2, s2, pr2, rt2, hd2, sv2, c2, fs2, dxs2, h1', hSt', Wc, e1', hno', back⟩ := hS.swap W
        refine ⟨_, rfl, a, _, dx2, _, _, rfl, h1', T.clS, T.nS_store, spF_store, s2, _, _, rfl, e1', hno' _ (by decide +kernel), _, rfl, _, _, rfl, rfl, ⟨by decide, by decide⟩, _, rfl, _, rfl, _, rfl, _, _, rfl, rfl, ⟨by decide, by decide⟩, a, rest / 64, D, cs, rfl, hS, W.has, ?_⟩
        refine ⟨s2, rootAt D pl / 2, wordF D (rest / 64), _, _, i, _, c2, o, rfl, hSt', Wc, ho, hil, fun H3 c3 hS3 R3 => ?_⟩
        obtain ⟨cs3, hS4, W4⟩ := back _ _ _ hS3 R3
        obtain ⟨dx3, s3, pr3, rt3, hd3, sv3, c4, fs3, dxs3, g1, hSt3, g5, f1, hno3⟩ := hS4.store W4.has
        have ho3 : ob? (updN D.objs (rootAt D pl / 2) (obSlot i (wordF D (rest / 64)))) (rootAt D pl / 2) = some (obSlot i (wordF D (rest / 64)) o) := by
          rw [updN_ob (f := obSlot i (wordF D (rest / 64))) (fun _ => rfl), if_pos rfl, ho]; rfl
        have hil3 : i < (obSlot i (wordF D (rest / 64)) o).slots.length := by unfold obSlot; simpa using hil
        refine ⟨_, rfl, _, rfl, a, _, dx3, _, _, rfl, g1, T.clS, T.nS_store, spF_store, s3, _, _, rfl, f1, hno3 _ (by decide +kernel), _, rfl, _, _, rfl, rfl, ⟨by decide, by decide⟩, _, rfl, s3, rootAt D pl / 2, _, _, i, _, _, c4, _, rfl, hSt3, g5, ho3, slotOf_ob ho3 hil3, ?_⟩
        refine ⟨_, rfl, (by show 3 ≤ sizeLine; rw [sizeLine_eq]; decide), fun p hp => ?_⟩
        exact k _ _ _ cs3 p rfl hS4 (W4.new hp)
    · simp only [if_neg hA] at k
      have hfal : (decide (c < 9) && decide (0 < (o.slots.length : Int))) = false := by
        rw [Bool.and_eq_false_iff]
        by_cases h9 : c < 9
        · exact .inr (decide_eq_false (by omega))
        · exact .inl (decide_eq_false h9)
      refine itF hfal ?_
      refine ⟨_, rfl, rfl, _, rfl, ?_⟩
      rw [K9.dec_int]
      have hnk : nums (updN D.objs (rootAt D pl / 2) (obKind (wordF D rest))) = nums D.objs := updN_nums fun _ => rfl
      refine if_next (R := fun H1 => ∃ (cs1 : List Cell), SpR A.CT A.CS a (if c = 12 then { D with objs := updN D.objs (rootAt D pl / 2) (obKind (wordF D rest)) } else D) cs1 ∧ Own A.T (adr cs) H cs1 H1) (fun h12 nx => ?_) (fun h12 => ?_) (fun H1 ⟨cs1, hS1, W1⟩ => ?_)
      · have h12 := of_decide_eq_true h12
        obtain ⟨dx2, s2, pr2, rt2, hd2, sv2, c2, fs2, dxs2, h1', hSt', Wc, e1', hno', back⟩ := hS.swap W
        refine ⟨_, rfl, a, _, dx2, _, _, rfl, h1', T.clS, T.nS_store, spF_store, s2, _, _, rfl, e1', hno' _ (by decide +kernel), _, rfl, _, _, rfl, rfl, ⟨by decide, by decide⟩, _, rfl, _, rfl, a, rest, D, cs, rfl, hS, W.has, ?_⟩
        refine ⟨s2, rootAt D pl / 2, wordF D rest, _, _, _, c2, rfl, hSt', Wc, hro pl hpl heven, fun H3 c3 hS3 R3 => ?_⟩
        obtain ⟨cs3, hS4, W4⟩ := back _ _ _ hS3 R3
        exact nx H3 ⟨cs3, by rw [if_pos h12]; exact hS4, W4⟩
      · exact ⟨cs, by rw [if_neg (of_decide_eq_false h12)]; exact hS, W⟩
      generalize hD1 : (if c = 12 then { D with objs := updN D.objs (rootAt D pl / 2) (obKind (wordF D rest)) } else D) = D1 at hS1 k
      have hr1' : D1.roots = D.roots := by rw [← hD1]; split <;> rfl
      have hn1 : nums D1.objs = nums D.objs := by
        rw [← hD1]
        split
        · exact hnk
        · rfl
      have hra : ∀ i, rootAt D1 i = rootAt D i := fun i => by unfold rootAt; rw [hr1']
      have h16' : D1.roots.length = 16 := by rw [hr1']; exact h16
      obtain ⟨dx1, s1, pr1, rt1, hd1, sv1, c1', fs1, dxs1, g1, hSt1, g5, f1, hno1⟩ := hS1.store W1.has
      refine ⟨_, rfl, a, dx1, _, rfl, g1, spF_none (by decide +kernel), _, rfl, rest, rfl, a, placeN rest, rootAt D1 (placeN rest), D1, cs1, rfl, hS1, W1.has, root_get h16' (placeN_lt _), ?_⟩
      refine ⟨_, rfl, rfl, _, rfl, ?_⟩
      rw [K9.dec_int]
      refine and_ways (b2 := decide (rootAt D1 (placeN rest) % 2 = 0)) (fun h => ⟨_, rfl, .inl ⟨_, rfl, _, _, rfl, rfl, (by show (0 : Int) < 2; decide), rfl, _, rfl, by rw [K9.dec_int]; exact h⟩⟩) ?_
      refine if_next (R := fun H2 => ∃ (cs2 : List Cell), SpR A.CT A.CS a (if c = 13 ∧ rootAt D1 (placeN rest) % 2 = 0 then { D1 with objs := exch D1.objs (rootAt D pl / 2) (rootAt D1 (placeN rest) / 2) } else D1) cs2 ∧ Own A.T (adr cs) H cs2 H2) (fun h13 nx => ?_) (fun h13 => ?_) (fun H2 ⟨cs2, hS2, W2⟩ => ?_)
      · have h13 : c = 13 ∧ rootAt D1 (placeN rest) % 2 = 0 := by simpa using h13
        have hu : rootAt D1 (placeN rest) / 2 ∈ nums D1.objs := by
          rw [hra, hn1]
          exact hro _ (placeN_lt _) (by rw [← hra]; exact h13.2)
        obtain ⟨dx2, s2, pr2, rt2, hd2, sv2, c2, fs2, dxs2, h1', hSt', Wc, e1', hno', back⟩ := hS1.swap W1
        refine ⟨_, rfl, a, _, dx2, _, _, rfl, h1', T.clS, T.nS_store, spF_store, s2, _, _, rfl, e1', hno' _ (by decide +kernel), _, rfl, _, _, rfl, rfl, ⟨by decide, by decide⟩, _, rfl, _, _, rfl, rfl, ⟨by decide, by decide⟩, ?_⟩
        refine ⟨s2, rootAt D pl / 2, rootAt D1 (placeN rest) / 2, _, _, _, c2, rfl, hSt', Wc, by rw [hn1]; exact hro pl hpl heven, hu, fun H3 c3 hS3 R3 => ?_⟩
        obtain ⟨cs3, hS4, W4⟩ := back _ _ _ hS3 R3
        exact nx H3 ⟨cs3, by rw [if_pos h13]; exact hS4, W4⟩
      · have h13 : ¬ (c = 13 ∧ rootAt D1 (placeN rest) % 2 = 0) := by simpa using h13
        exact ⟨cs1, by rw [if_neg h13]; exact hS1, W1⟩
      generalize hD2 : (if c = 13 ∧ rootAt D1 (placeN rest) % 2 = 0 then { D1 with objs := exch D1.objs (rootAt D pl / 2) (rootAt D1 (placeN rest) / 2) } else D1) = D2 at hS2 k
      have hm2 : rootAt D pl / 2 ∈ nums D2.objs := by
        rw [← hD2]
        split
        · next h =>
          have hu : rootAt D1 (placeN rest) / 2 ∈ nums D1.objs := by
            rw [hra, hn1]
            exact hro _ (placeN_lt _) (by rw [← hra]; exact h.2)
          exact (exch_mem (by rw [hn1]; exact hro pl hpl heven) hu).mpr (by rw [hn1]; exact hro pl hpl heven)
        · rw [hn1]; exact hro pl hpl heven
      obtain ⟨o2, ho2⟩ := ob_of_nums hm2
      obtain ⟨dx3, s3, pr3, rt3, hd3, sv3, c3, fs3, dxs3, g1', hSt3, g5', f1', hno3⟩ := hS2.store W2.has
      refine ⟨_, rfl, _, rfl, a, _, dx3, _, _, rfl, g1', T.clS, T.nS_store, spF_store, s3, _, _, rfl, f1', hno3 _ (by decide +kernel), _, rfl, _, _, rfl, rfl, ⟨by decide, by decide⟩, s3, rootAt D pl / 2, _, _, _, c3, o2, rfl, hSt3, g5', ho2, ?_⟩
      refine ⟨_, rfl, (by show 3 ≤ sizeLine; rw [sizeLine_eq]; decide), fun p hp => ?_⟩
      exact k _ _ _ cs2 p (by rw [kindOf_ob ho2]) hS2 (W2.new hp)
end
end K9
end
section
set_option Elab.async false
set_option linter.all false
set_option maxRecDepth 100000
set_option maxHeartbeats 4000000
/-! isinstance(e, C) where C is e's very class, e the exception that the suite holds. -/
namespace K9
open PySem PySem.Spec PyProof.Rows L2 PySem.W
section
variable {prog : Program} {w : World} {A : Around} {E : Value → Shared → Prop} {s : Shared} {Q : Value → Shared → Prop}
theorem isi_same {a C : Addr} {o : Obj} (ho : s.heap.get? a = some o) (hc : o.cls = .ref C) (h : Q (.bool true) s) : wpAny (model prog w) A (call (.builtin "isinstance") [.ref a, .ref C]) Q E s := by
  refine call_isinstance (S := fun _ R s => (∃ o, s.heap.get? a = some o ∧ o.cls = .ref C) ∧ R (.ok (.ret (.bool true))) s) (fun prog w A R s hs => isinstance_outer ?_ (fun z => nomatch z)) ⟨⟨o, ho, hc⟩, h⟩
  obtain ⟨h0, g, d, tt, os⟩ := s
  obtain ⟨⟨o, ho, hc⟩, hq⟩ := hs
  have LT : Looks (model prog w) h0 (typeOf (.ref a)) (.ref C) := fun A Q E s k q => wpAny_typeOf_ref (k _ _ ho) (by rw [hc]; exact q)
  unfold Builtin.«isinstance.nested»
  refine wpAny_bind (LT.at ?_)
  rw [if_pos (by simp)]
  first
    | ((repeat lk); exact hq)
    | exact wpAny_bind (wpAny_rule hq)
    | exact wpAny_bind (wpAny_rule (wpAny_pure hq))
end
/-- isinstance(e, C), e the exception that the suite holds, of the class C -/
def rIsSame (C a : Addr) : List V → Hp → VK → Prop := fun xs H Q => xs = [.ref a, .ref C] ∧ Q (.bl true) H
theorem call_isSame {X : Cx} {a C : Addr} {oe : Obj} {d : Option Addr} {pn : List (Addr × Obj)} {cls : Value} (hz : L2N.Zn cls d oe) : CallR (X.suite a ((a, oe) :: pn)) (.builtin "isinstance") (fun xs H Q => cls = .ref C ∧ rIsSame C a xs H Q) := by
  intro pins s σ H xs us Q I r h
  obtain ⟨ec, rfl, q⟩ := h
  subst ec
  cases r with
  | cons rx rr =>
    cases rr with
    | cons rt rr =>
      cases rr
      cases rx
      cases rt
      obtain ⟨hget, _⟩ := I.pin (a, oe) (List.mem_append.mpr (.inl List.mem_cons_self))
      exact isi_same hget hz.1 ⟨.bl true, H, I, rfl, q⟩
end K9
end
section
set_option Elab.async false
set_option linter.all false
set_option maxRecDepth 100000
set_option maxHeartbeats 4000000
/-! The law's defs: work, collected, done, both. -/
namespace K9
open PySem PySem.Spec PyProof.Rows L2 LamX
section
variable {P : Program} {w : World} {K : PySem.W.Frag} {mg : Str → Option Value} {base : Heap} {A : Ads}
def spLWork (A : Ads) : Sp := fun vs H Q _ => ∃ (a : Addr) (c : Int) (D : SpD) (cs : List Cell), vs = [.ref a, .int c] ∧ SpR A.CT A.CS a D cs ∧ Own A.T (adr cs) H cs H ∧ 14 < c ∧ ToldK A a (adr cs) H (fun told D' => (told, D') = workF D c) Q
theorem ok_l_work (T : Txt P K mg A) (TB : TabB base mg A.cc A.tb) : Okd P w K mg base 9 A.l_work (spLWork A) := by
  refine okN T.f_l_work sc_l_work bh_l_work (fun vs H Q E h => ?_) (fun cdv Ar outer s0 H vs Q E hr h => ?_)
  · obtain ⟨_, _, _, _, rfl, _⟩ := h
    rfl
  · obtain ⟨a, c, D, cs, rfl, hS, W, hc14, k⟩ := h
    have nd := sc_l_work.nd
    have hr2 := hr.mono (j := 2) (by decide)
    obtain ⟨dx, s, pr, rt, hd, sv, h1⟩ := hS.ins W.has
    refine ⟨_, pss_cons (L2N.ps_try_as (i := 2) (tb := fun W => tIfS (tTest (tOp rEq (tVar 1) (tC (.int 17)))) (tDrop (L2H.tMethH A.CS "commit" (spCommit A) (fun σ => WE W σ) (tVar 0) tNil)) (tIfS (tTest (tOp (rI0 fun i j => .bl (decide (j < i))) (tVar 1) (tC (.int 17)))) (tDrop (L2H.tMethH A.CS "abort" (spAbort A) (fun σ => WE W σ) (tVar 0) tNil)) (tDrop (L2H.tMethH A.CS "begin" (spBegin A) (fun σ => WE W σ) (tVar 0) tNil))))
        (Wout := fun _ _ _ _ => False) rfl rfl nd rfl rfl ⟨rfl, by decide, .inl T.xW.gC⟩ takesNo
        (fun W pn xe tk _ => pss_one (ps_if (by exact (pt_cmpR op_eq (pv 1) pe_int (nomark _))) (pss_one (ps_expr (by exact (pe_mrun0 (pv 0) T.clS T.m_p_commit ((ok_p_commit T).runs hr2 (fun σ => L2N.passAt tk σ))))))
          (pss_one (ps_if (by exact (pt_cmpR op_gt (pv 1) pe_int (nomark _))) (pss_one (ps_expr (by exact (pe_mrun0 (pv 0) T.clS T.m_p_abort ((ok_p_abort T).runs hr2 (fun σ => L2N.passAt tk σ)))))) (pss_one (ps_expr (by exact (pe_mrun0 (pv 0) T.clS T.m_p_begin ((ok_p_begin T TB).runs hr (fun σ => L2N.passAt tk σ))))))))))
        (fun a0 oe cls d pn hz hf => pss_one (ps_ret (by exact (pe_lst (pa_cons pe_str (pa_cons (pe_xf T.xW.xf T.xW.noN hz.zc hf (pv 2)) pa_nil)))))))
      (pss_one (ps_ret (pe_lst (pa_cons pe_str (pa_cons (pv 1) pa_nil))))), ?_⟩
    refine ⟨_, rfl, rfl, _, rfl, ?_⟩
    rw [K9.dec_int]
    unfold workF at k
    -- the two ends
    have wrong : ∀ (why : Str) (d : Addr) (H1 : Hp), Own A.T (adr cs) H ((d, .xd [("why", .str why)]) :: cs) H1 → ((ToldK A a (adr cs) H (fun told D' => (told, D') = (([.str "wrong", .str why] : List V), D)) Q)) → ∀ a0 : Addr, tRet (tLst (tCons (tC (.str "wrong")) (tCons (tXf a0 (.ref A.cW) (some d) A.cW "why" (tVar 2)) tNil))) { nx := fun _ H' => Q .non H', rt := Q } [some (.ref a), some (.int c), some (.ref a0)] H1 := by
      intro why d H1 W1 kk a0
      refine ⟨_, rfl, rfl, rfl, d, _, _, rfl, W1.get 0 rfl, look1 _ _, (by show 2 ≤ sizeLine; rw [sizeLine_eq]; decide), fun p hp => ?_⟩
      exact kk _ _ _ cs p rfl hS ((W1.new hp).sub ((List.Sublist.refl _).cons _ |>.cons_cons _))
    have good : ∀ (D1 : SpD) (cs1 : List Cell) (H1 : Hp), SpR A.CT A.CS a D1 cs1 → Own A.T (adr cs) H cs1 H1 → (ToldK A a (adr cs) H (fun told D' => (told, D') = (([.str "work", .int c] : List V), D1)) Q) → ∀ v : Option V, tRet (tLst (tCons (tC (.str "work")) (tCons (tVar 1) tNil))) { nx := fun _ H' => Q .non H', rt := Q } [some (.ref a), some (.int c), v] H1 := by
      intro D1 cs1 H1 hS1 W1 kk v
      exact ⟨_, rfl, (by show 2 ≤ sizeLine; rw [sizeLine_eq]; decide), fun p hp => kk _ _ _ cs1 p rfl hS1 (W1.new hp)⟩
    by_cases h17 : c = 17
    · refine itT (decide_eq_true h17) ?_
      refine ⟨_, rfl, a, dx, _, rfl, h1, spF_none (by decide +kernel), a, D, cs, rfl, hS, W, fun hs H1 cs1 hS1 R1 => ?_, fun hs d H1 R1 => ?_⟩
      · cases q : D.saved with
        | none => exact (hs q).elim
        | some S =>
          rw [q] at k
          simp only [if_pos h17] at k
          exact good _ cs1 H1 hS1 R1 k _
      · rw [hs] at k
        simp only [if_pos (show 16 < c by omega)] at k
        exact ⟨true, T.e_WW, fun _ a0 _ => wrong _ d H1 R1 k a0, fun q => Bool.noConfusion q⟩
    refine itF (decide_eq_false h17) ?_
    refine ⟨_, rfl, _, _, rfl, rfl, _, rfl, ?_⟩
    by_cases h18 : 17 < c
    · refine itT (decide_eq_true h18) ?_
      refine ⟨_, rfl, a, dx, _, rfl, h1, spF_none (by decide +kernel), a, D, cs, rfl, hS, W, fun S hs H1 cs1 hS1 R1 => ?_, fun hs d H1 R1 => ?_⟩
      · rw [hs] at k
        simp only [if_neg h17, if_pos h18] at k
        exact good _ cs1 H1 hS1 R1 k _
      · rw [hs] at k
        simp only [if_pos (show 16 < c by omega)] at k
        exact ⟨true, T.e_WW, fun _ a0 _ => wrong _ d H1 R1 k a0, fun q => Bool.noConfusion q⟩
    · refine itF (decide_eq_false h18) ?_
      refine ⟨_, rfl, a, dx, _, rfl, h1, spF_none (by decide +kernel), a, D, cs, rfl, hS, W, fun hs H1 cs1 hS1 R1 => ?_, fun hs d H1 R1 => ?_⟩
      · rw [hs] at k
        simp only [if_neg (show ¬ 16 < c by omega)] at k
        exact good _ cs1 H1 hS1 R1 k _
      · cases q : D.saved with
        | none => exact (hs q).elim
        | some S =>
          rw [q] at k
          simp only [if_neg h17, if_neg h18] at k
          exact ⟨true, T.e_WW, fun _ a0 _ => wrong _ d H1 R1 k a0, fun q => Bool.noConfusion q⟩
def spLColl (A : Ads) : Sp := fun vs H Q _ => ∃ (a : Addr) (D : SpD) (cs : List Cell), vs = [.ref a] ∧ SpR A.CT A.CS a D cs ∧ Own A.T (adr cs) H cs H ∧ ToldK A a (adr cs) H (fun told D' => (told, D') = collF D) Q
theorem ok_l_coll (T : Txt P K mg A) (TB : TabB base mg A.cc A.tb) : Okd P w K mg base 8 A.l_coll (spLColl A) := by
  refine okN T.f_l_coll sc_l_coll bh_l_coll (fun vs H Q E h => ?_) (fun cdv Ar outer s0 H vs Q E hr h => ?_)
  · obtain ⟨_, _, _, rfl, _⟩ := h
    rfl
  · obtain ⟨a, D, cs, rfl, hS, W, k⟩ := h
    have nd := sc_l_coll.nd
    obtain ⟨dx, s, pr, rt, hd, sv, h1⟩ := hS.ins W.has
    refine ⟨_, pss_cons (L2N.ps_try_as (i := 1) (tb := fun W => tDrop (L2H.tMethH A.CS "collect" (spPColl A) (fun σ => WE W σ) (tVar 0) tNil))
        (Wout := fun _ _ _ _ => False) rfl rfl nd rfl rfl ⟨rfl, by decide, .inl T.g_cE⟩ takesNo
        (fun W pn xe tk _ => pss_one (ps_expr (by exact (pe_mrun0 (pv 0) T.clS T.m_p_collect ((ok_p_collect T TB).runs hr (fun σ => L2N.passAt tk σ))))))
        (fun a0 oe cls d pn hz hf => pss_cons (ps_if (pt_val (by exact (pe_callB (call_isSame (C := A.cW) hz) (by rfl) T.b_isinstance (by decide +kernel) (pa_cons (pv 1) (pa_cons (pe_glob (v := .ref A.cW) rfl T.xW.gC rfl) pa_nil))))) (pss_one (ps_ret (by exact (pe_lst (pa_cons pe_str (pa_cons (pe_xf T.xW.xf T.xW.noN hz.zc hf (pv 1)) pa_nil)))))) pss_nil)
          (pss_one (ps_ret (by exact (pe_lst (pa_cons pe_str pa_nil)))))))
      (pss_one (ps_ret (pe_lst (pa_cons pe_str (pa_cons (pe_mrun0 (pv 0) T.clS T.m_p_live ((ok_p_live T).runs (hr.mono (by decide)) passN0)) pa_nil))))), ?_⟩
    unfold collF at k
    refine ⟨_, rfl, a, dx, _, rfl, h1, spF_none (by decide +kernel), a, D, cs, rfl, hS, W, fun hs m H1 cs1 hS1 R1 => ?_, fun hs d H1 R1 => ?_⟩
    · rw [hs] at k
      obtain ⟨dx1, s1, pr1, rt1, hd1, sv1, g1⟩ := hS1.ins R1.has
      refine ⟨_, rfl, a, dx1, _, rfl, g1, spF_none (by decide +kernel), a, _, cs1, rfl, hS1, R1.start, fun H2 R2 => ?_⟩
      refine ⟨(by show 2 ≤ sizeLine; rw [sizeLine_eq]; decide), fun p hp => ?_⟩
      exact k _ _ _ cs1 p rfl hS1 ((R1.whole R2).new hp)
    · cases q : D.saved with
      | none => exact (hs q).elim
      | some S =>
        rw [q] at k
        refine ⟨true, T.e_WE, fun _ a0 _ => ?_, fun q => Bool.noConfusion q⟩
        refine ⟨_, rfl, rfl, rfl, _, rfl, ?_⟩
        refine itT rfl ?_
        refine ⟨_, rfl, rfl, rfl, d, _, _, rfl, R1.get 0 rfl, look1 _ _, (by show 2 ≤ sizeLine; rw [sizeLine_eq]; decide), fun p hp => ?_⟩
        exact k _ _ _ cs p rfl hS ((R1.new hp).sub ((List.Sublist.refl _).cons _ |>.cons_cons _))
end
end K9
end
section
set_option Elab.async false
set_option linter.all false
set_option maxRecDepth 100000
set_option maxHeartbeats 4000000
/-! The law's defs: done, both. -/
namespace K9
open PySem PySem.Spec PyProof.Rows L2 LamX
theorem if_nextS {b : Bool} {N : L2.St → Hp → Prop} {I : Prop} {σ : L2.St} {H : Hp} (R : L2.St → Hp → Prop) (h1 : b = true → (∀ σ' H', R σ' H' → N σ' H') → I) (h2 : b = false → R σ H) (h3 : ∀ σ' H', R σ' H' → N σ' H') : if b = true then I else N σ H := by
  cases b with
  | true => rw [if_pos rfl]; exact h1 rfl h3
  | false => rw [if_neg Bool.false_ne_true]; exact h3 _ H (h2 rfl)
section
variable {P : Program} {w : World} {K : PySem.W.Frag} {mg : Str → Option Value} {base : Heap} {A : Ads}
def spDone (A : Ads) : Sp := fun vs H Q _ => ∃ (a : Addr) (x : Int) (D : SpD) (cs : List Cell), vs = [.ref a, .int x] ∧ SpR A.CT A.CS a D cs ∧ Own A.T (adr cs) H cs H ∧ RootsOk D ∧ D.held.length < 1000 ∧ x % 20 ≠ 14 ∧ ToldK A a (adr cs) H (DeedR D x) Q
theorem ok_l_done (T : Txt P K mg A) (TB : TabB base mg A.cc A.tb) : Okd P w K mg base 11 A.l_done (spDone A) := by
  refine okN T.f_l_done sc_l_done bh_l_done (fun vs H Q E h => ?_) (fun cdv Ar outer s0 H vs Q E hr h => ?_)
  · obtain ⟨_, _, _, _, rfl, _⟩ := h
    rfl
  · obtain ⟨a, x, D, cs, rfl, hS, W, hro, hhl, h14, k⟩ := h
    have nd := sc_l_done.nd
    have hr1 := hr.mono (j := 1) (by decide)
    have hr2 := hr.mono (j := 2) (by decide)
    have hr3 := hr.mono (j := 3) (by decide)
    have h16 := hS.r16
    obtain ⟨dx, s, pr, rt, hd, sv, h1⟩ := hS.ins W.has
    refine ⟨_, pss_cons (ps_set (i := 2) nd rfl (.inl rfl) (pe_op op_mod (pe_callTy call_int1 (by rfl) T.b_int (by decide +kernel) (pa_cons (pv 1) pa_nil)) pe_int))
      (pss_cons (ps_set (i := 3) nd rfl (.inl rfl) (pe_run ((ok_l_place T).runs hr1 passN0) T.g_l_place T.k_l_place (pa_cons (pe_op op_fdiv (pv 1) pe_int) pa_nil)))
      (pss_cons (ps_set (i := 4) nd rfl (.inl rfl) (pe_op op_fdiv (pv 1) pe_int))
      (pss_cons (ps_if (pt_cmpR op_lt (pv 2) pe_int (nomark _))
        (pss_cons (ps_set (i := 5) nd rfl (.inl rfl) (pe_op op_mod (pe_callTy call_int1 (by rfl) T.b_int (by decide +kernel) (pa_cons (pv 4) pa_nil)) pe_int))
        (pss_cons (ps_if (pt_cmpR op_eq (pe_op op_mod (pe_op op_fdiv (pv 4) pe_int) pe_int) pe_int (nomark _)) (pss_one (ps_set (i := 5) nd rfl (.inl rfl) (pe_op op_mod (pe_op op_fdiv (pv 4) pe_int) pe_int))) pss_nil)
        (pss_cons (ps_set (i := 6) nd rfl (.inl rfl) (pe_run ((ok_l_word T).runs hr2 passN0) T.g_l_word T.k_l_word (pa_cons (pv 0) (pa_cons (pe_op op_fdiv (pv 4) pe_int) pa_nil))))
        (pss_cons (ps_if (pt_cmpR op_eq (pv 2) pe_int (nomark _)) (pss_cons (ps_set (i := 6) nd rfl (.inl rfl) (pe_mrun (pv 0) T.clS T.m_p_root ((ok_p_root T).runs hr1 passN0) (pa_cons (pv 3) pa_nil)))
          (pss_one (ps_expr (pe_mrun (pv 0) T.clS T.m_p_set_root ((ok_p_set_root T).runs hr1 passN0) (pa_cons (pv 3) (pa_cons pe_int pa_nil)))))) pss_nil)
        (pss_one (ps_ret (pe_run ((ok_l_new T TB).runs hr passN0) T.g_l_new T.k_l_new (pa_cons (pv 0) (pa_cons (pv 6) (pa_cons (pv 5) (pa_cons (pv 3) pa_nil))))))))))) pss_nil)
      (pss_cons (ps_if (pt_cmpR op_eq (pv 2) pe_int (nomark _)) (pss_cons (ps_expr (pe_mrun (pv 0) T.clS T.m_p_set_root ((ok_p_set_root T).runs hr1 passN0) (pa_cons (pv 3) (pa_cons (pe_run ((ok_l_word T).runs hr2 passN0) T.g_l_word T.k_l_word (pa_cons (pv 0) (pa_cons (pv 4) pa_nil))) pa_nil))))
        (pss_one (ps_ret (pe_lst (pa_cons pe_str (pa_cons (pe_run ((ok_l_shown T).runs hr1 passN0) T.g_l_shown T.k_l_shown (pa_cons (pe_mrun (pv 0) T.clS T.m_p_root ((ok_p_root T).runs hr1 passN0) (pa_cons (pv 3) pa_nil)) pa_nil)) pa_nil)))))) pss_nil)
      (pss_cons (ps_if (pt_cmpR op_gt (pv 2) pe_int (nomark _)) (pss_one (ps_ret (pe_run ((ok_l_work T TB).runs (hr.mono (by decide)) passN0) T.g_l_work T.k_l_work (pa_cons (pv 0) (pa_cons (pv 2) pa_nil))))) pss_nil)
      (pss_cons (ps_if (pt_chain op_le op_lt pe_int (pv 2) pe_int) (pss_one (ps_ret (pe_run ((ok_l_held T).runs hr3 passN0) T.g_l_held T.k_l_held (pa_cons (pv 0) (pa_cons (pv 2) (pa_cons (pv 3) (pa_cons (pv 4) pa_nil))))))) pss_nil)
      (pss_one (ps_ret (pe_run ((ok_l_changed T).runs hr3 passN0) T.g_l_changed T.k_l_changed (pa_cons (pv 0) (pa_cons (pv 2) (pa_cons (pv 3) (pa_cons (pv 4) pa_nil)))))))))))))  , ?_⟩
    refine ⟨_, rfl, .inl ⟨_, rfl, _, _, rfl, rfl, (by show (0 : Int) < 20; decide), ?_⟩⟩
    refine ⟨_, rfl, _, _, rfl, rfl, ⟨by decide, by decide⟩, x / 20, rfl, ?_⟩
    refine ⟨_, rfl, _, _, rfl, rfl, ⟨by decide, by decide⟩, ?_⟩
    refine ⟨_, rfl, _, _, rfl, rfl, _, rfl, ?_⟩
    have hpl := placeN_lt (x / 20)
    by_cases h4 : x % 20 < 4
    · refine itT (decide_eq_true h4) ?_
      refine ⟨_, rfl, .inl ⟨_, rfl, _, _, rfl, rfl, (by show (0 : Int) < 5; decide), ?_⟩⟩
      refine ⟨_, rfl, _, _, rfl, rfl, ⟨by decide, by decide⟩, _, _, rfl, rfl, (by show (0 : Int) < 16; decide), rfl, _, rfl, ?_⟩
      rw [K9.dec_int]
      refine if_nextS (R := fun σ H' => H' = H ∧ σ = [some (.ref a), some (.int x), some (.int (x % 20)), some (.int (placeN (x / 20) : Int)), some (.int (x / 640)), some (.int (sizeX x : Int)), none]) (fun h3 nx => ?_) (fun h3 => ⟨rfl, ?_⟩) ?_
      · have h3 := of_decide_eq_true h3
        refine ⟨_, rfl, _, _, rfl, rfl, ⟨by decide, by decide⟩, _, _, rfl, rfl, (by show (0 : Int) < 60; decide), nx _ _ ⟨rfl, ?_⟩⟩
        have e : x / 640 / 80 % 60 = (sizeX x : Int) := by unfold sizeX; rw [if_pos h3]; omega
        show [_, _, _, _, _, some (V.int (x / 640 / 80 % 60)), _] = _
        rw [e]
      · have h3 := of_decide_eq_false h3
        have e : x / 640 % 5 = (sizeX x : Int) := by unfold sizeX; rw [if_neg h3]; omega
        show [_, _, _, _, _, some (V.int (x / 640 % 5)), _] = _
        rw [e]
      rintro σ H1 ⟨rfl, rfl⟩
      refine ⟨_, rfl, _, rfl, _, _, rfl, rfl, ⟨by decide, by decide⟩, a, x / 640 / 80, D, cs, rfl, hS, W.has, ?_⟩
      refine ⟨_, rfl, rfl, _, rfl, ?_⟩
      rw [K9.dec_int]
      have hsz : sizeX x ≤ 1000 := by have := sizeX_le x; omega
      by_cases hd3 : x % 20 = 3
      · refine itT (decide_eq_true hd3) ?_
        refine ⟨_, rfl, a, dx, _, rfl, h1, spF_none (by decide +kernel), _, rfl, a, placeN (x / 20), rootAt D (placeN (x / 20)), D, cs, rfl, hS, W.has, root_get h16 hpl, ?_⟩
        refine ⟨_, rfl, a, dx, _, rfl, h1, spF_none (by decide +kernel), _, rfl, a, placeN (x / 20), 0, D, cs, rfl, hS, W, hpl, fun H2 cs2 hS2 R2 => ?_⟩
        refine ⟨_, rfl, _, rfl, _, rfl, _, rfl, a, rootAt D (placeN (x / 20)), sizeX x, placeN (x / 20), _, cs2, rfl, hS2, R2.start, hsz, hpl, fun told D' H3 cs3 p hT hS3 R3 => ?_⟩
        refine k told D' H3 cs3 p ?_ hS3 (R2.whole R3)
        unfold DeedR
        rw [if_neg (by omega), if_pos hd3]
        exact hT
      · refine itF (decide_eq_false hd3) ?_
        refine ⟨_, rfl, _, rfl, _, rfl, _, rfl, a, _, sizeX x, placeN (x / 20), _, cs, rfl, hS, W, hsz, hpl, fun told D' H3 cs3 p hT hS3 R3 => ?_⟩
        refine k told D' H3 cs3 p ?_ hS3 R3
        unfold DeedR
        rw [if_pos (by omega)]
        exact hT
    refine itF (decide_eq_false h4) ?_
    refine ⟨_, rfl, rfl, _, rfl, ?_⟩
    rw [K9.dec_int]
    by_cases h44 : x % 20 = 4
    · refine itT (decide_eq_true h44) ?_
      refine ⟨_, rfl, a, dx, _, rfl, h1, spF_none (by decide +kernel), _, rfl, _, rfl, _, rfl, a, x / 640, D, cs, rfl, hS, W.has, ?_⟩
      refine ⟨a, placeN (x / 20), wordF D (x / 640), D, cs, rfl, hS, W, hpl, fun H2 cs2 hS2 R2 => ?_⟩
      obtain ⟨dx2, s2, pr2, rt2, hd2, sv2, g2⟩ := hS2.ins R2.has
      refine ⟨_, rfl, a, dx2, _, rfl, g2, spF_none (by decide +kernel), _, rfl, a, placeN (x / 20), _, _, cs2, rfl, hS2, R2.has, root_get hS2.r16 hpl, ?_⟩
      refine ⟨_, rfl, (by show 2 ≤ sizeLine; rw [sizeLine_eq]; decide), fun p hp => ?_⟩
      refine k _ _ _ cs2 p ?_ hS2 (R2.new hp)
      unfold DeedR
      rw [if_neg (by omega), if_neg (by omega), if_pos h44]
      exact ⟨rfl, rfl⟩
    refine itF (decide_eq_false h44) ?_
    refine ⟨_, rfl, _, _, rfl, rfl, _, rfl, ?_⟩
    by_cases h15 : 14 < x % 20
    · refine itT (decide_eq_true h15) ?_
      refine ⟨_, rfl, _, rfl, a, x % 20, D, cs, rfl, hS, W, h15, fun told D' H3 cs3 p hT hS3 R3 => ?_⟩
      refine k told D' H3 cs3 p ?_ hS3 R3
      unfold DeedR
      rw [if_neg (by omega), if_neg (by omega), if_neg h44, if_neg h14, if_pos h15]
      exact hT
    refine itF (decide_eq_false h15) ?_
    have last : ¬ (9 ≤ x % 20 ∧ x % 20 < 12) → tCallS (spChanged A) E0S (tCons (tVar 0) (tCons (tVar 2) (tCons (tVar 3) (tCons (tVar 4) tNil)))) [some (.ref a), some (.int x), some (.int (x % 20)), some (.int (placeN (x / 20) : Int)), some (.int (x / 640)), none, none] H (fun v H' => Q v H') := fun hn => by
      refine ⟨_, rfl, _, rfl, _, rfl, _, rfl, a, x % 20, x / 640, placeN (x / 20), D, cs, rfl, hS, W, hpl, hro, fun told D' H3 cs3 p hT hS3 R3 => ?_⟩
      refine k told D' H3 cs3 p ?_ hS3 R3
      unfold DeedR
      rw [if_neg (by omega), if_neg (by omega), if_neg h44, if_neg h14, if_neg h15, if_neg hn]
      exact hT
    refine ⟨_, rfl, _, _, rfl, rfl, _, rfl, ?_⟩
    refine ite2 (fun h9 => ?_) (fun h9 => ?_)
    · have h9 := of_decide_eq_true h9
      refine ⟨_, _, rfl, rfl, _, rfl, ?_⟩
      refine ite2 (fun h12 => ?_) (fun h12 => ?_)
      · have h12 := of_decide_eq_true h12
        refine ⟨_, rfl, _, rfl, _, rfl, _, rfl, a, x % 20, x / 640, placeN (x / 20), D, cs, rfl, hS, W, hpl, hhl, fun told D' H3 cs3 p hT hS3 R3 => ?_⟩
        refine k told D' H3 cs3 p ?_ hS3 R3
        unfold DeedR
        rw [if_neg (by omega), if_neg (by omega), if_neg h44, if_neg h14, if_neg h15, if_pos ⟨h9, h12⟩]
        exact hT
      · exact last fun z => h12 (decide_eq_true z.2)
    · refine ⟨_, rfl, ?_⟩
      refine itF rfl ?_
      exact last fun z => h9 (decide_eq_true z.1)
def spBoth (A : Ads) : Sp := fun vs H Q _ => ∃ (a : Addr) (x : Int) (D : SpD) (cs : List Cell), vs = [.ref a, .int x] ∧ SpR A.CT A.CS a D cs ∧ Own A.T (adr cs) H cs H ∧ RootsOk D ∧ D.held.length < 1000 ∧ ToldK A a (adr cs) H (DeedR D x) Q
theorem ok_l_both (T : Txt P K mg A) (TB : TabB base mg A.cc A.tb) : Okd P w K mg base 12 A.l_both (spBoth A) := by
  refine okN T.f_l_both sc_l_both bh_l_both (fun vs H Q E h => ?_) (fun cdv Ar outer s0 H vs Q E hr h => ?_)
  · obtain ⟨_, _, _, _, rfl, _⟩ := h
    rfl
  · obtain ⟨a, x, D, cs, rfl, hS, W, hro, hhl, k⟩ := h
    refine ⟨_, pss_cons (ps_if (pt_cmpR op_eq (pe_op op_mod (pe_callTy call_int1 (by rfl) T.b_int (by decide +kernel) (pa_cons (pv 1) pa_nil)) pe_int) pe_int (nomark _)) (pss_one (ps_ret (pe_run ((ok_l_coll T TB).runs (hr.mono (by decide)) passN0) T.g_l_coll T.k_l_coll (pa_cons (pv 0) pa_nil)))) pss_nil)
      (pss_one (ps_ret (pe_run ((ok_l_done T TB).runs hr passN0) T.g_l_done T.k_l_done (pa_cons (pv 0) (pa_cons (pv 1) pa_nil))))), ?_⟩
    refine ⟨_, rfl, .inl ⟨_, rfl, _, _, rfl, rfl, (by show (0 : Int) < 20; decide), rfl, _, rfl, ?_⟩⟩
    rw [K9.dec_int]
    by_cases h14 : x % 20 = 14
    · refine itT (decide_eq_true h14) ?_
      refine ⟨_, rfl, a, D, cs, rfl, hS, W, fun told D' H3 cs3 p hT hS3 R3 => ?_⟩
      refine k told D' H3 cs3 p ?_ hS3 R3
      unfold DeedR
      rw [if_neg (by omega), if_neg (by omega), if_neg (by omega), if_pos h14]
      exact hT
    · refine itF (decide_eq_false h14) ?_
      exact ⟨_, rfl, _, rfl, a, x, D, cs, rfl, hS, W, hro, hhl, h14, k⟩
end
end K9
end
section
set_option linter.all false
set_option autoImplicit false
/-! Two spaces that are alike do a deed alike. -/
namespace K9
open L2 (V)
theorem Sim.words {ρ : Int → Int → Prop} {l1 l2 : List Ob} {w1 w2 v1 v2 : List Int} (s : Sim ρ l1 l2 w1 w2) (r : F2 (wrel ρ) v1 v2) : Sim ρ l1 l2 v1 v2 := ⟨r, s.f, s.g, s.c⟩
theorem wrel.shown {ρ : Int → Int → Prop} {x y : Int} (r : wrel ρ x y) : shownF x = shownF y := by
  unfold shownF
  rcases r with ⟨h, rfl⟩ | ⟨h1, h2, _⟩
  · rfl
  · rw [if_neg (by omega), if_neg (by omega)]
theorem F2.getD {ρ : Int → Int → Prop} {x y : List Int} {i : Nat} (h : F2 (wrel ρ) x y) (hi : i < x.length) : wrel ρ (x.getD i 0) (y.getD i 0) := by
  have hy : i < y.length := by rw [← h.length]; exact hi
  obtain ⟨b, hb, r⟩ := h.get (show x[i]? = some x[i] by simp [hi])
  have e1 : x.getD i 0 = x[i] := by rw [List.getD_eq_getElem?_getD, List.getElem?_eq_getElem hi]; rfl
  have e2 : y.getD i 0 = b := by rw [List.getD_eq_getElem?_getD, hb]; rfl
  rw [e1, e2]
  exact r
section
variable {D E : SpD} {ρ : Int → Int → Prop}
theorem Rel.root (h : Rel D E) (s : Sim ρ D.objs E.objs (allW D) (allW E)) {i : Nat} (hi : i < 16) : wrel ρ (rootAt D i) (rootAt E i) :=
  (Rel.parts s h.r1 h.r2).2.1.getD (by rw [h.r1]; exact hi)
theorem Rel.word (h : Rel D E) (s : Sim ρ D.objs E.objs (allW D) (allW E)) (x : Int) : wrel ρ (wordF D x) (wordF E x) := by
  unfold wordF
  split
  · exact .inl ⟨by omega, rfl⟩
  · split
    · exact .inl ⟨by omega, rfl⟩
    · split
      · exact (Rel.parts s h.r1 h.r2).1
      · exact h.root s (placeN_lt _)
theorem Rel.mk' (h : Rel D E) {D' E' : SpD} (sim : ∃ ρ, Sim ρ D'.objs E'.objs (allW D') (allW E')) (n1 : (nums D'.objs).Nodup) (n2 : (nums E'.objs).Nodup) (r1 : D'.roots.length = 16) (r2 : E'.roots.length = 16)
    (a : D'.room = D.room) (b : E'.room = E.room) (c : D'.entries = D.entries) (d : E'.entries = E.entries) (e : D'.saved = D.saved) (f : E'.saved = E.saved) (o : D.saved ≠ none → tot D'.objs = tot E'.objs ∧ D'.objs.length = E'.objs.length) : Rel D' E' :=
  ⟨sim, by rw [a, b]; exact h.room, by rw [c, d]; exact h.ent, r1, r2, n1, n2, by rw [e, f]; exact h.sav, fun z => o (by rw [← e]; exact z)⟩
theorem F2.all {z z' : Int} {r r' q q' : List Int} (h0 : wrel ρ z z') (h1 : F2 (wrel ρ) r r') (h2 : F2 (wrel ρ) q q') : F2 (wrel ρ) (z :: (r ++ q)) (z' :: (r' ++ q')) := .cons h0 (h1.app h2)
theorem Rel.setRoot (h : Rel D E) (s : Sim ρ D.objs E.objs (allW D) (allW E)) {i : Nat} {z z' : Int} (r : wrel ρ z z') : Rel (setRoot D i z) (setRoot E i z') ∧ Sim ρ (K9.setRoot D i z).objs (K9.setRoot E i z').objs (allW (K9.setRoot D i z)) (allW (K9.setRoot E i z')) := by
  obtain ⟨p0, p1, p2⟩ := Rel.parts s h.r1 h.r2
  have s' : Sim ρ D.objs E.objs (allW (K9.setRoot D i z)) (allW (K9.setRoot E i z')) := s.words (F2.all p0 (p1.set r i) p2)
  exact ⟨h.mk' ⟨ρ, s'⟩ h.nd1 h.nd2 (by show (D.roots.set i z).length = 16; rw [List.length_set]; exact h.r1) (by show (E.roots.set i z').length = 16; rw [List.length_set]; exact h.r2) rfl rfl rfl rfl rfl rfl h.opn, s'⟩
theorem Rel.setHeld (h : Rel D E) (s : Sim ρ D.objs E.objs (allW D) (allW E)) {q q' : List Int} (r : F2 (wrel ρ) q q') : Rel { D with held := q } { E with held := q' } := by
  obtain ⟨p0, p1, p2⟩ := Rel.parts s h.r1 h.r2
  exact h.mk' ⟨ρ, s.words (F2.all p0 p1 r)⟩ h.nd1 h.nd2 h.r1 h.r2 rfl rfl rfl rfl rfl rfl h.opn
end
/-! ### objects changed -/
section
variable {ρ : Int → Int → Prop} {l1 l2 : List Ob} {w1 w2 : List Int}
theorem Sim.upd (s : Sim ρ l1 l2 w1 w2) {a b : Int} (hab : ρ a b) {f g : Ob → Ob} (hf : ∀ o, (f o).num = o.num) (hg : ∀ o, (g o).num = o.num)
    (hfg : ∀ o₁ o₂, ob? l1 a = some o₁ → ob? l2 b = some o₂ → wrel ρ o₁.kind o₂.kind → F2 (wrel ρ) o₁.slots o₂.slots → wrel ρ (f o₁).kind (g o₂).kind ∧ F2 (wrel ρ) (f o₁).slots (g o₂).slots) : Sim ρ (updN l1 a f) (updN l2 b g) w1 w2 := by
  refine ⟨s.r, s.f, s.g, fun n m hnm => ?_⟩
  obtain ⟨o₁, o₂, h1, h2, h3, h4⟩ := s.c n m hnm
  by_cases e : n = a
  · subst e
    have e2 : m = b := s.f _ _ _ hnm hab
    subst e2
    obtain ⟨q1, q2⟩ := hfg o₁ o₂ h1 h2 h3 h4
    exact ⟨f o₁, g o₂, by rw [updN_ob hf, if_pos rfl, h1]; rfl, by rw [updN_ob hg, if_pos rfl, h2]; rfl, q1, q2⟩
  · have e2 : m ≠ b := fun z => e (by subst z; exact s.g _ _ _ hnm hab)
    exact ⟨o₁, o₂, by rw [updN_ob hf, if_neg e]; exact h1, by rw [updN_ob hg, if_neg e2]; exact h2, h3, h4⟩
theorem Sim.exch (s : Sim ρ l1 l2 w1 w2) {a b a' b' : Int} (ha : ρ a a') (hb : ρ b b') : Sim ρ (exch l1 a b) (exch l2 a' b') w1 w2 := by
  refine ⟨s.r, s.f, s.g, fun n m hnm => ?_⟩
  have hs : ρ (swapN a b n) (swapN a' b' m) := by
    unfold swapN
    by_cases e : n = a
    · have e2 : m = a' := s.f _ _ _ (by rw [← e]; exact hnm) ha
      rw [if_pos e, if_pos e2]; exact hb
    · have e2 : m ≠ a' := fun z => e (s.g _ _ _ (by rw [← z]; exact hnm) ha)
      rw [if_neg e, if_neg e2]
      by_cases f : n = b
      · have f2 : m = b' := s.f _ _ _ (by rw [← f]; exact hnm) hb
        rw [if_pos f, if_pos f2]; exact ha
      · have f2 : m ≠ b' := fun z => f (s.g _ _ _ (by rw [← z]; exact hnm) hb)
        rw [if_neg f, if_neg f2]; exact hnm
  obtain ⟨o₁, o₂, h1, h2, h3, h4⟩ := s.c _ _ hs
  exact ⟨{ o₁ with num := n }, { o₂ with num := m }, by rw [exch_ob, h1]; rfl, by rw [exch_ob, h2]; rfl, h3, h4⟩
theorem ob_app : ∀ {l : List Ob} {o : Ob} {n : Int}, n ≠ o.num → ob? (l ++ [o]) n = ob? l n
  | [], o, n, h => if_neg (fun z => h z.symm)
  | q :: l, o, n, h => by
    show (if q.num = n then some q else ob? (l ++ [o]) n) = (if q.num = n then some q else ob? l n)
    rw [ob_app h]
theorem Sim.inn (s : Sim ρ l1 l2 w1 w2) {a b : Int} (h : ρ a b) : a ∈ nums l1 ∧ b ∈ nums l2 := by
  obtain ⟨o₁, o₂, h1, h2, _⟩ := s.c _ _ h
  exact ⟨mem_nums_of_ob h1, mem_nums_of_ob h2⟩
/-- a new object on both sides -/
theorem Sim.new (s : Sim ρ l1 l2 w1 w2) {n m k k' : Int} {size : Nat} (hn : n ∉ nums l1) (hm : m ∉ nums l2) (hk : wrel ρ k k') (h0 : wrel ρ 0 0) : ∃ τ, Sim τ (l1 ++ [newOb n k size]) (l2 ++ [newOb m k' size]) w1 w2 ∧ wrel τ (2 * n) (2 * m) ∧ ∀ x y, wrel ρ x y → wrel τ x y := by
  have up : ∀ x y, wrel ρ x y → wrel (fun a b => ρ a b ∨ (a = n ∧ b = m)) x y := fun x y h => h.imp fun a b q => .inl q
  refine ⟨fun a b => ρ a b ∨ (a = n ∧ b = m), ⟨s.r.imp fun a b h => up a b h, ?_, ?_, ?_⟩, .inr ⟨by omega, by omega, .inr ⟨by omega, by omega⟩⟩, up⟩
  · rintro a b b' (h | ⟨h1, h2⟩) (h' | ⟨h1', h2'⟩)
    · exact s.f _ _ _ h h'
    · exact (hn (h1' ▸ (s.inn h).1)).elim
    · exact (hn (h1 ▸ (s.inn h').1)).elim
    · rw [h2, h2']
  · rintro a a' b (h | ⟨h1, h2⟩) (h' | ⟨h1', h2'⟩)
    · exact s.g _ _ _ h h'
    · exact (hm (h2' ▸ (s.inn h).2)).elim
    · exact (hm (h2 ▸ (s.inn h').2)).elim
    · rw [h1, h1']
  · rintro a b (h | ⟨rfl, rfl⟩)
    · obtain ⟨o₁, o₂, h1, h2, h3, h4⟩ := s.c _ _ h
      have i := s.inn h
      have na : a ≠ (newOb n k size).num := fun z => hn (by have z : a = n := z; rw [← z]; exact i.1)
      have nb : b ≠ (newOb m k' size).num := fun z => hm (by have z : b = m := z; rw [← z]; exact i.2)
      exact ⟨o₁, o₂, by rw [ob_app na]; exact h1, by rw [ob_app nb]; exact h2, up _ _ h3, h4.imp fun a b h => up a b h⟩
    · refine ⟨newOb a k size, newOb b k' size, ob_snoc (o := newOb a k size) hn, ob_snoc (o := newOb b k' size) hm, up _ _ hk, ?_⟩
      exact (F2.replicate h0 size).imp fun a b h => up a b h
theorem F2.mems {α β : Type} {R : α → β → Prop} {x : List α} {y : List β} (h : F2 R x y) : x.length = y.length := h.length
/-- either side collected, or not -/
theorem Sim.bases (s : Sim ρ l1 l2 w1 w2) {m1 m2 : List Ob} (h1 : m1 = l1 ∨ m1 = kept l1 w1) (h2 : m2 = l2 ∨ m2 = kept l2 w2) : ∃ τ, Sim τ m1 m2 w1 w2 := by
  have a : ∃ τ, Sim τ m1 l2 w1 w2 := by
    rcases h1 with rfl | rfl
    · exact ⟨_, s⟩
    · exact ⟨_, s.keep1 fun _ h => h⟩
  obtain ⟨τ, t⟩ := a
  rcases h2 with rfl | rfl
  · exact ⟨_, t⟩
  · exact t.keep2 fun _ h => h
end
/-! ### new -/
def FitsK (D : SpD) (W : List Int) (size : Nat) : Out → Prop
  | .made _ => (tot (kept D.objs W) : Int) + 3 + (size : Int) ≤ D.room ∧ ((kept D.objs W).length : Int) < D.entries
  | .room => D.room < (tot (kept D.objs W) : Int) + 3 + (size : Int)
  | .num => (tot (kept D.objs W) : Int) + 3 + (size : Int) ≤ D.room ∧ D.entries ≤ ((kept D.objs W).length : Int)
theorem newR_closed {D D' : SpD} {kind : Int} {size : Nat} {o : Out} (h : NewR D kind size o D') (hs : D.saved = none) :
    ∃ base, (base = D.objs ∨ base = kept D.objs (allW D ++ [kind])) ∧ AllocR D.room D.entries base kind size o D'.objs ∧ FitsK D (allW D ++ [kind]) size o := by
  have kk : ∀ {all' : List Ob}, AllocR D.room D.entries (kept D.objs (allW D ++ [kind])) kind size o all' → FitsK D (allW D ++ [kind]) size o := fun {all'} h => by
    cases o with
    | made n => exact ⟨h.1, h.2.1⟩
    | room => exact h.1
    | num => exact ⟨h.1, h.2.1⟩
  have le1 := tot_kept D.objs (allW D ++ [kind])
  have le2 := length_kept D.objs (allW D ++ [kind])
  have same : kept (kept D.objs (allW D ++ [kind])) (allW D ++ [kind]) = kept D.objs (allW D ++ [kind]) := kept_kept fun _ h => h
  rcases h with ⟨z, _⟩ | ⟨_, ⟨_, h⟩ | ⟨_, h⟩⟩
  · exact (z hs).elim
  · rcases h with ⟨_, all', hA, rfl⟩ | ⟨_, all', hA, rfl⟩
    · exact ⟨_, .inr rfl, hA, kk hA⟩
    · have hA' : AllocR D.room D.entries (kept (kept D.objs (allW D ++ [kind])) (allW D ++ [kind])) kind size o all' := hA
      rw [same] at hA'
      exact ⟨_, .inr rfl, hA', kk hA'⟩
  · rcases h with ⟨hf, all', hA, rfl⟩ | ⟨_, all', hA, rfl⟩
    · refine ⟨_, .inl rfl, hA, ?_⟩
      have h1 : (tot D.objs : Int) + 3 + (size : Int) ≤ D.room := hf.1
      have h2 : (D.objs.length : Int) < D.entries := hf.2
      cases o with
      | made n => exact ⟨by omega, by omega⟩
      | room => have q : D.room < (tot D.objs : Int) + 3 + (size : Int) := hA.1; omega
      | num => have q : D.entries ≤ (D.objs.length : Int) := hA.2.1; omega
    · exact ⟨_, .inr rfl, hA, kk hA⟩
theorem newR_open {D D' : SpD} {kind : Int} {size : Nat} {o : Out} (h : NewR D kind size o D') (hs : D.saved ≠ none) : AllocR D.room D.entries D.objs kind size o D'.objs := by
  rcases h with ⟨_, all', hA, rfl⟩ | ⟨z, _⟩
  · exact hA
  · exact (hs z).elim
/-- the same outcome -/
def Alike : Out → Out → Prop
  | .made _, .made _ => True
  | .room, .room => True
  | .num, .num => True
  | _, _ => False
theorem AllocR.len {room entries : Int} {all all' : List Ob} {kind : Int} {size : Nat} {o : Out} (h : AllocR room entries all kind size o all') : tot all' = (match o with | .made _ => tot all + (3 + size) | _ => tot all) ∧ all'.length = (match o with | .made _ => all.length + 1 | _ => all.length) := by
  cases o with
  | made n => obtain ⟨_, _, _, rfl⟩ := h; exact ⟨tot_new _ _ _ _, by simp⟩
  | room => obtain ⟨_, rfl⟩ := h; exact ⟨rfl, rfl⟩
  | num => obtain ⟨_, _, rfl⟩ := h; exact ⟨rfl, rfl⟩
theorem AllocR.nodup {room entries : Int} {all all' : List Ob} {kind : Int} {size : Nat} {o : Out} (h : AllocR room entries all kind size o all') (hn : (nums all).Nodup) : (nums all').Nodup := by
  cases o with
  | made n =>
    obtain ⟨_, _, h, rfl⟩ := h
    rw [nums_new]
    exact L2.nd_snoc hn h.1
  | room => obtain ⟨_, rfl⟩ := h; exact hn
  | num => obtain ⟨_, _, rfl⟩ := h; exact hn
theorem AllocR.sim {ρ : Int → Int → Prop} {r1 e1 r2 e2 : Int} {b1 b2 a1 a2 : List Ob} {w1 w2 : List Int} {k1 k2 : Int} {size : Nat} {o1 o2 : Out} (s : Sim ρ b1 b2 w1 w2) (h0 : wrel ρ 0 0) (hk : wrel ρ k1 k2) (h1 : AllocR r1 e1 b1 k1 size o1 a1) (h2 : AllocR r2 e2 b2 k2 size o2 a2) (ho : Alike o1 o2) :
    ∃ τ, Sim τ a1 a2 w1 w2 ∧ (∀ n m, o1 = .made n → o2 = .made m → wrel τ (2 * n) (2 * m)) := by
  cases o1 with
  | made n =>
    cases o2 with
    | made m =>
      obtain ⟨_, _, hn, rfl⟩ := h1
      obtain ⟨_, _, hm, rfl⟩ := h2
      obtain ⟨τ, t, r, _⟩ := s.new (size := size) hn.1 hm.1 hk h0
      exact ⟨τ, t, fun n' m' e1 e2 => by cases e1; cases e2; exact r⟩
    | room => exact ho.elim
    | num => exact ho.elim
  | room =>
    cases o2 with
    | made m => exact ho.elim
    | room =>
      obtain ⟨_, rfl⟩ := h1
      obtain ⟨_, rfl⟩ := h2
      exact ⟨ρ, s, fun n m e => by cases e⟩
    | num => exact ho.elim
  | num =>
    cases o2 with
    | made m => exact ho.elim
    | room => exact ho.elim
    | num =>
      obtain ⟨_, _, rfl⟩ := h1
      obtain ⟨_, _, rfl⟩ := h2
      exact ⟨ρ, s, fun n m e => by cases e⟩
theorem RelS.iff {S S' : Option Sav} (h : RelS S S') : S = none ↔ S' = none := by
  cases S <;> cases S' <;> first | exact Iff.rfl | exact h.elim | simp
theorem F2.last {ρ : Int → Int → Prop} : ∀ {x y : List Int} {a b : Int}, F2 (wrel ρ) (x ++ [a]) (y ++ [b]) → x.length = y.length → F2 (wrel ρ) x y ∧ wrel ρ a b := fun {x y a b} h hl => by
  obtain ⟨h1, h2⟩ := F2.split h hl
  cases h2 with
  | cons r t => exact ⟨h1, r⟩
theorem new_sim {D E D' E' : SpD} {ρ : Int → Int → Prop} (h : Rel D E) (s : Sim ρ D.objs E.objs (allW D) (allW E)) {k1 k2 : Int} {size : Nat} {o1 o2 : Out} (hk : wrel ρ k1 k2) (h1 : NewR D k1 size o1 D') (h2 : NewR E k2 size o2 E') :
    Alike o1 o2 ∧ Rel D' E' ∧ ∃ τ, Sim τ D'.objs E'.objs (allW D') (allW E') ∧ (∀ n m, o1 = .made n → o2 = .made m → wrel τ (2 * n) (2 * m)) := by
  obtain ⟨p0, p1, p2⟩ := Rel.parts s h.r1 h.r2
  obtain ⟨a1, a2, a3, a4, a5, a6, _⟩ := h1.rest
  obtain ⟨b1, b2, b3, b4, b5, b6, _⟩ := h2.rest
  have ew1 : allW D' = allW D := by unfold allW; rw [a3, a4]
  have ew2 : allW E' = allW E := by unfold allW; rw [b3, b4]
  have hlen : (allW D).length = (allW E).length := s.r.length
  by_cases hs : D.saved = none
  · have hs2 : E.saved = none := h.sav.iff.mp hs
    obtain ⟨m1, c1, A1, f1⟩ := newR_closed h1 hs
    obtain ⟨m2, c2, A2, f2⟩ := newR_closed h2 hs2
    have s2 : Sim ρ D.objs E.objs (allW D ++ [k1]) (allW E ++ [k2]) := s.words (s.r.app (.cons hk .nil))
    obtain ⟨l1, l2⟩ := s2.live h.nd1 h.nd2
    have er := h.room
    have ee := h.ent
    have ho : Alike o1 o2 := by
      cases o1 <;> cases o2 <;> first | trivial | (unfold FitsK at f1 f2; rw [l1, l2, er, ee] at f1; omega) | (unfold FitsK at f1 f2; rw [l1, er] at f1; omega) | (unfold FitsK at f1 f2; simp only at f1 f2; omega)
    obtain ⟨τ, t⟩ := s2.bases c1 c2
    obtain ⟨tw, tk⟩ := F2.last t.r hlen
    obtain ⟨υ, u, hm⟩ := AllocR.sim t (by
      have := tw
      unfold allW at this
      cases this with
      | cons r _ => exact r) tk A1 A2 ho
    have uw := (F2.last u.r hlen).1
    have n1 : (nums m1).Nodup := by
      rcases c1 with rfl | rfl
      · exact h.nd1
      · exact kept_nodup h.nd1
    have n2 : (nums m2).Nodup := by
      rcases c2 with rfl | rfl
      · exact h.nd2
      · exact kept_nodup h.nd2
    have sim : Sim υ D'.objs E'.objs (allW D') (allW E') := by rw [ew1, ew2]; exact u.words uw
    exact ⟨ho, h.mk' ⟨υ, sim⟩ (A1.nodup n1) (A2.nodup n2) (by rw [a3]; exact h.r1) (by rw [b3]; exact h.r2) a1 b1 a2 b2 a5 b5 (fun z => (z hs).elim), υ, sim, hm⟩
  · have hs2 : E.saved ≠ none := fun z => hs (h.sav.iff.mpr z)
    have A1 := newR_open h1 hs
    have A2 := newR_open h2 hs2
    obtain ⟨q1, q2⟩ := h.opn hs
    have er := h.room
    have ee := h.ent
    have ho : Alike o1 o2 := by
      cases o1 <;> cases o2 <;> first | trivial | (have x1 := A1.1; have x2 := A2.1; rw [q1, er] at x1; omega) | (have x1 := A1.2.1; have x2 := A2.2.1; rw [q2, ee] at x1; omega)
    obtain ⟨υ, u, hm⟩ := AllocR.sim s p0 hk A1 A2 ho
    have sim : Sim υ D'.objs E'.objs (allW D') (allW E') := by rw [ew1, ew2]; exact u
    refine ⟨ho, h.mk' ⟨υ, sim⟩ (A1.nodup h.nd1) (A2.nodup h.nd2) (by rw [a3]; exact h.r1) (by rw [b3]; exact h.r2) a1 b1 a2 b2 a5 b5 (fun _ => ?_), υ, sim, hm⟩
    obtain ⟨g1, g2⟩ := A1.len
    obtain ⟨g3, g4⟩ := A2.len
    rw [g1, g2, g3, g4]
    cases o1 <;> cases o2 <;> first | exact ho.elim | exact ⟨by simp only; omega, by simp only; omega⟩
end K9
end
section
set_option linter.all false
set_option autoImplicit false
/-! Two spaces that are alike do a deed alike: all deeds. -/
namespace K9
open L2 (V)
theorem NewT.sim {D E D' E' : SpD} {ρ : Int → Int → Prop} {t1 t2 : List V} (h : Rel D E) (s : Sim ρ D.objs E.objs (allW D) (allW E)) {k1 k2 : Int} {size pl : Nat} (hk : wrel ρ k1 k2) (h1 : NewT D k1 size pl t1 D') (h2 : NewT E k2 size pl t2 E') : t1 = t2 ∧ Rel D' E' := by
  obtain ⟨o1, D1, N1, q1⟩ := h1
  obtain ⟨o2, E1, N2, q2⟩ := h2
  obtain ⟨ho, hR, τ, t, hm⟩ := new_sim h s hk N1 N2
  cases o1 <;> cases o2 <;> first | exact ho.elim | skip
  · obtain ⟨rfl, rfl⟩ := q1
    obtain ⟨rfl, rfl⟩ := q2
    exact ⟨rfl, (hR.setRoot t (hm _ _ rfl rfl)).1⟩
  · obtain ⟨rfl, rfl⟩ := q1
    obtain ⟨rfl, rfl⟩ := q2
    exact ⟨rfl, hR⟩
  · obtain ⟨rfl, rfl⟩ := q1
    obtain ⟨rfl, rfl⟩ := q2
    exact ⟨by rw [h.ent], hR⟩
theorem held_sim {D E : SpD} (h : Rel D E) (c : Int) {pl : Nat} (hpl : pl < 16) (rest : Int) : (heldF D c pl rest).1 = (heldF E c pl rest).1 ∧ Rel (heldF D c pl rest).2 (heldF E c pl rest).2 := by
  obtain ⟨ρ, s⟩ := h.sim
  obtain ⟨p0, p1, p2⟩ := Rel.parts s h.r1 h.r2
  have hl := h.held
  have hr := h.root s hpl
  unfold heldF
  by_cases c9 : c = 9
  · rw [if_pos c9, if_pos c9]
    exact ⟨by rw [hr.shown], h.setHeld s (p2.app (.cons hr .nil))⟩
  rw [if_neg c9, if_neg c9]
  by_cases c10 : c = 10
  · rw [if_pos c10, if_pos c10]
    refine ⟨?_, ?_⟩
    · simp only [List.length_take, hl]
    · rw [hl]
      exact h.setHeld s (p2.take _)
  rw [if_neg c10, if_neg c10]
  refine ⟨by rw [hl], ?_⟩
  cases e : D.held with
  | nil =>
    have e2 : E.held = [] := List.length_eq_zero_iff.mp (by rw [← hl, e]; rfl)
    rw [e2]
    exact h
  | cons x y =>
    have e2 : E.held.isEmpty = false := by
      cases q : E.held with
      | nil => rw [e, q] at hl; cases hl
      | cons _ _ => rfl
    rw [e2, ← e]
    have e3 : D.held.isEmpty = false := by rw [e]; rfl
    rw [e3]
    have hpos : 0 < D.held.length := by rw [e]; simp
    have hlt := Int.emod_lt_of_pos rest (b := (D.held.length : Int)) (by omega)
    have hge := Int.emod_nonneg rest (b := (D.held.length : Int)) (by omega)
    rw [if_neg Bool.false_ne_true, if_neg Bool.false_ne_true, ← hl]
    exact (h.setRoot s (p2.getD (by omega))).1
theorem slotOf_rel {ρ : Int → Int → Prop} {l1 l2 : List Ob} {w1 w2 : List Int} (s : Sim ρ l1 l2 w1 w2) {a b : Int} (hab : ρ a b) {i : Nat} (hi : i < sizeOf l1 a) : wrel ρ (slotOf l1 a i) (slotOf l2 b i) := by
  obtain ⟨o₁, o₂, h1, h2, h3, h4⟩ := s.c _ _ hab
  rw [sizeOf_ob h1] at hi
  unfold slotOf
  rw [h1, h2]
  exact h4.getD hi
theorem kindOf_rel {ρ : Int → Int → Prop} {l1 l2 : List Ob} {w1 w2 : List Int} (s : Sim ρ l1 l2 w1 w2) {a b : Int} (hab : ρ a b) : wrel ρ (kindOf l1 a) (kindOf l2 b) := by
  obtain ⟨o₁, o₂, h1, h2, h3, h4⟩ := s.c _ _ hab
  rw [kindOf_ob h1, kindOf_ob h2]
  exact h3
theorem sizeOf_rel {ρ : Int → Int → Prop} {l1 l2 : List Ob} {w1 w2 : List Int} (s : Sim ρ l1 l2 w1 w2) {a b : Int} (hab : ρ a b) : sizeOf l1 a = sizeOf l2 b := by
  obtain ⟨o₁, o₂, h1, h2, h3, h4⟩ := s.c _ _ hab
  rw [sizeOf_ob h1, sizeOf_ob h2]
  exact h4.length
theorem Rel.objs {D E : SpD} (h : Rel D E) {l1 l2 : List Ob} (s : ∃ ρ, Sim ρ l1 l2 (allW D) (allW E)) (n1 : nums l1 = nums D.objs) (n2 : nums l2 = nums E.objs) (t1 : tot l1 = tot D.objs) (t2 : tot l2 = tot E.objs) (c1 : l1.length = D.objs.length) (c2 : l2.length = E.objs.length) : Rel { D with objs := l1 } { E with objs := l2 } :=
  h.mk' s (by show (nums l1).Nodup; rw [n1]; exact h.nd1) (by show (nums l2).Nodup; rw [n2]; exact h.nd2) h.r1 h.r2 rfl rfl rfl rfl rfl rfl fun z => by
    obtain ⟨a, b⟩ := h.opn z
    exact ⟨by show tot l1 = tot l2; rw [t1, t2]; exact a, by show l1.length = l2.length; rw [c1, c2]; exact b⟩
theorem changed_sim {D E : SpD} (h : Rel D E) (c : Int) {pl : Nat} (hpl : pl < 16) (rest : Int) : (changedF D c pl rest).1 = (changedF E c pl rest).1 ∧ Rel (changedF D c pl rest).2 (changedF E c pl rest).2 := by
  obtain ⟨ρ, s⟩ := h.sim
  have hr := h.root s hpl
  rcases hr with ⟨h1, h2⟩ | ⟨h1, h2, h3⟩
  · unfold changedF
    rw [← h2]
    simp only [if_pos h1, true_and]
    exact h
  have o1 : ¬ rootAt D pl % 2 = 1 := by omega
  have o2 : ¬ rootAt E pl % 2 = 1 := by omega
  have es := sizeOf_rel s h3
  unfold changedF
  simp only [if_neg o1, if_neg o2, ← es]
  by_cases hA : c < 9 ∧ 0 < sizeOf D.objs (rootAt D pl / 2)
  · simp only [if_pos hA]
    have hlt := Int.emod_lt_of_pos (rest % 64) (b := (sizeOf D.objs (rootAt D pl / 2) : Int)) (by omega)
    have hge := Int.emod_nonneg (rest % 64) (b := (sizeOf D.objs (rootAt D pl / 2) : Int)) (by omega)
    have hi : (rest % 64 % (sizeOf D.objs (rootAt D pl / 2) : Int)).toNat < sizeOf D.objs (rootAt D pl / 2) := by omega
    generalize (rest % 64 % (sizeOf D.objs (rootAt D pl / 2) : Int)).toNat = i at hi
    by_cases h8 : c = 8
    · simp only [if_pos h8]
      have r8 := slotOf_rel s h3 hi
      exact ⟨by show [V.str _, V.int _, V.int (shownF (slotOf D.objs _ i))] = [V.str _, V.int _, V.int (shownF (slotOf E.objs _ i))]; rw [r8.shown], (h.setRoot s r8).1⟩
    · simp only [if_neg h8]
      have hw := h.word s (rest / 64)
      have s2 : Sim ρ (updN D.objs (rootAt D pl / 2) (obSlot i (wordF D (rest / 64)))) (updN E.objs (rootAt E pl / 2) (obSlot i (wordF E (rest / 64)))) (allW D) (allW E) :=
        s.upd h3 (fun _ => rfl) (fun _ => rfl) fun p q _ _ hk hs => ⟨hk, hs.set hw i⟩
      have hi2 : i < sizeOf (updN D.objs (rootAt D pl / 2) (obSlot i (wordF D (rest / 64)))) (rootAt D pl / 2) := by
        obtain ⟨o₁, _, e1, _⟩ := s.c _ _ h3
        rw [sizeOf_ob e1] at hi
        rw [sizeOf_ob (o := obSlot i (wordF D (rest / 64)) o₁) (by rw [updN_ob (f := obSlot i (wordF D (rest / 64))) (fun _ => rfl), if_pos rfl, e1]; rfl)]
        unfold obSlot
        simpa using hi
      refine ⟨by rw [(slotOf_rel s2 h3 hi2).shown], h.objs ⟨ρ, s2⟩ (updN_nums fun _ => rfl) (updN_nums fun _ => rfl) (updN_tot fun o => obSlot_len _ _ o) (updN_tot fun o => obSlot_len _ _ o) updN_length updN_length⟩
  · simp only [if_neg hA]
    -- the kind
    have hD1 : ∃ D1 E1, D1 = (if c = 12 then { D with objs := updN D.objs (rootAt D pl / 2) (obKind (wordF D rest)) } else D) ∧ E1 = (if c = 12 then { E with objs := updN E.objs (rootAt E pl / 2) (obKind (wordF E rest)) } else E) ∧ Rel D1 E1 ∧ Sim ρ D1.objs E1.objs (allW D1) (allW E1) := by
      refine ⟨_, _, rfl, rfl, ?_⟩
      by_cases h12 : c = 12
      · rw [if_pos h12, if_pos h12]
        have hw := h.word s rest
        have s2 : Sim ρ (updN D.objs (rootAt D pl / 2) (obKind (wordF D rest))) (updN E.objs (rootAt E pl / 2) (obKind (wordF E rest))) (allW D) (allW E) :=
          s.upd h3 (fun _ => rfl) (fun _ => rfl) fun p q _ _ hk hs => ⟨hw, hs⟩
        exact ⟨h.objs ⟨ρ, s2⟩ (updN_nums fun _ => rfl) (updN_nums fun _ => rfl) (updN_tot fun o => obKind_len _ o) (updN_tot fun o => obKind_len _ o) updN_length updN_length, s2⟩
      · rw [if_neg h12, if_neg h12]
        exact ⟨h, s⟩
    obtain ⟨D1, E1, e1, e2, R1, s1⟩ := hD1
    rw [← e1, ← e2]
    have ra : rootAt D1 pl = rootAt D pl ∧ rootAt E1 pl = rootAt E pl := by rw [e1, e2]; constructor <;> (unfold rootAt; split <;> rfl)
    have hu := R1.root s1 (placeN_lt rest)
    have hpar := hu.par
    by_cases h13 : c = 13 ∧ rootAt D1 (placeN rest) % 2 = 0
    · have h13' : c = 13 ∧ rootAt E1 (placeN rest) % 2 = 0 := ⟨h13.1, by rw [← hpar]; exact h13.2⟩
      simp only [if_pos h13, if_pos h13']
      have hu3 : ρ (rootAt D1 (placeN rest) / 2) (rootAt E1 (placeN rest) / 2) := by
        rcases hu with ⟨z, _⟩ | ⟨_, _, z⟩
        · omega
        · exact z
      have s2 := s1.exch h3 hu3
      have i1 := s1.inn h3
      have i2 := s1.inn hu3
      refine ⟨by rw [(kindOf_rel s2 h3).shown], ?_⟩
      refine R1.mk' ⟨ρ, s2⟩ (exch_nodup _ _ R1.nd1) (exch_nodup _ _ R1.nd2) R1.r1 R1.r2 rfl rfl rfl rfl rfl rfl fun z => ?_
      obtain ⟨a, b⟩ := R1.opn z
      exact ⟨by show tot (exch _ _ _) = tot (exch _ _ _); rw [exch_tot, exch_tot]; exact a, by show (exch _ _ _).length = (exch _ _ _).length; rw [exch_length, exch_length]; exact b⟩
    · have h13' : ¬ (c = 13 ∧ rootAt E1 (placeN rest) % 2 = 0) := fun z => h13 ⟨z.1, by rw [hpar]; exact z.2⟩
      simp only [if_neg h13, if_neg h13']
      exact ⟨by rw [(kindOf_rel s1 h3).shown], R1⟩
theorem coll_sim {D E : SpD} (h : Rel D E) {ρ : Int → Int → Prop} (s : Sim ρ D.objs E.objs (allW D) (allW E)) (hs : D.saved = none) : Rel (collD D 0) (collD E 0) ∧ tot (collD D 0).objs = tot (collD E 0).objs ∧ (collD D 0).objs.length = (collD E 0).objs.length ∧
    tot (kept (collD D 0).objs (allW D)) = tot (kept (collD E 0).objs (allW E)) := by
  obtain ⟨p0, p1, p2⟩ := Rel.parts s h.r1 h.r2
  have s2 : Sim ρ D.objs E.objs (allW D ++ [0]) (allW E ++ [0]) := s.words (s.r.app (.cons p0 .nil))
  obtain ⟨l1, l2⟩ := s2.live h.nd1 h.nd2
  obtain ⟨τ, t⟩ := s2.bases (.inr rfl) (.inr rfl)
  have tw := (F2.last t.r s.r.length).1
  have tt : Sim τ (collD D 0).objs (collD E 0).objs (allW D) (allW E) := t.words tw
  have n1 : (nums (collD D 0).objs).Nodup := kept_nodup h.nd1
  have n2 : (nums (collD E 0).objs).Nodup := kept_nodup h.nd2
  exact ⟨h.mk' ⟨τ, tt⟩ n1 n2 h.r1 h.r2 rfl rfl rfl rfl rfl rfl fun z => (z hs).elim, l1, l2, (tt.live n1 n2).1⟩
theorem begin_sim {D E : SpD} (h : Rel D E) (hs : D.saved = none) : Rel (beginD D) (beginD E) := by
  obtain ⟨ρ, s⟩ := h.sim
  obtain ⟨R, l1, l2, _⟩ := coll_sim h s hs
  exact ⟨R.sim, R.room, R.ent, R.r1, R.r2, R.nd1, R.nd2, ⟨R.sim, R.r1, R.r2, R.nd1, R.nd2⟩, fun _ => ⟨l1, l2⟩⟩
theorem abort_sim {D E : SpD} (h : Rel D E) {S S' : Sav} (h1 : D.saved = some S) (h2 : E.saved = some S') : Rel (abortD D S) (abortD E S') := by
  have q := h.sav
  rw [h1, h2] at q
  obtain ⟨sim, a, b, c, d⟩ := q
  exact ⟨sim, h.room, h.ent, a, b, c, d, trivial, fun z => (z rfl).elim⟩
theorem commit_sim {D E : SpD} (h : Rel D E) : Rel { D with saved := none } { E with saved := none } := ⟨h.sim, h.room, h.ent, h.r1, h.r2, h.nd1, h.nd2, trivial, fun z => (z rfl).elim⟩
theorem work_sim {D E : SpD} (h : Rel D E) (c : Int) : (workF D c).1 = (workF E c).1 ∧ Rel (workF D c).2 (workF E c).2 := by
  unfold workF
  cases hs : D.saved with
  | none =>
    have hs2 : E.saved = none := h.sav.iff.mp hs
    rw [hs2]
    dsimp only
    by_cases c16 : 16 < c
    · rw [if_pos c16, if_pos c16]; exact ⟨rfl, h⟩
    · rw [if_neg c16, if_neg c16]; exact ⟨rfl, begin_sim h hs⟩
  | some S =>
    cases hs2 : E.saved with
    | none => have := h.sav.iff.mpr hs2; rw [hs] at this; cases this
    | some S' =>
      dsimp only
      by_cases c17 : c = 17
      · rw [if_pos c17, if_pos c17]; exact ⟨rfl, commit_sim h⟩
      rw [if_neg c17, if_neg c17]
      by_cases c18 : 17 < c
      · rw [if_pos c18, if_pos c18]; exact ⟨rfl, abort_sim h hs hs2⟩
      · rw [if_neg c18, if_neg c18]; exact ⟨rfl, h⟩
theorem collF_sim {D E : SpD} (h : Rel D E) : (collF D).1 = (collF E).1 ∧ Rel (collF D).2 (collF E).2 := by
  obtain ⟨ρ, s⟩ := h.sim
  unfold collF
  cases hs : D.saved with
  | none =>
    rw [h.sav.iff.mp hs]
    obtain ⟨R, _, _, l⟩ := coll_sim h s hs
    exact ⟨by simp only [l], R⟩
  | some S =>
    cases hs2 : E.saved with
    | none => have := h.sav.iff.mpr hs2; rw [hs] at this; cases this
    | some S' => exact ⟨rfl, h⟩
/-- THE STEP: alike before, alike behind, and told alike -/
theorem deed_sim {D E D' E' : SpD} {x : Int} {t1 t2 : List V} (h : Rel D E) (h1 : DeedR D x t1 D') (h2 : DeedR E x t2 E') : t1 = t2 ∧ Rel D' E' := by
  obtain ⟨ρ, s⟩ := h.sim
  have hpl := placeN_lt (x / 20)
  unfold DeedR at h1 h2
  by_cases c1 : x % 20 < 3
  · rw [if_pos c1] at h1 h2
    exact NewT.sim h s (h.word s _) h1 h2
  rw [if_neg c1] at h1 h2
  by_cases c2 : x % 20 = 3
  · rw [if_pos c2] at h1 h2
    obtain ⟨p0, _, _⟩ := Rel.parts s h.r1 h.r2
    obtain ⟨R, s2⟩ := h.setRoot s (i := placeN (x / 20)) p0
    exact NewT.sim R s2 (h.root s hpl) h1 h2
  rw [if_neg c2] at h1 h2
  by_cases c3 : x % 20 = 4
  · rw [if_pos c3] at h1 h2
    obtain ⟨rfl, rfl⟩ := h1
    obtain ⟨rfl, rfl⟩ := h2
    obtain ⟨R, s2⟩ := h.setRoot s (i := placeN (x / 20)) (h.word s (x / 640))
    exact ⟨by rw [(R.root s2 hpl).shown], R⟩
  rw [if_neg c3] at h1 h2
  by_cases c4 : x % 20 = 14
  · rw [if_pos c4] at h1 h2
    obtain ⟨a, b⟩ := collF_sim h
    rw [← h1, ← h2] at a b
    exact ⟨a, b⟩
  rw [if_neg c4] at h1 h2
  by_cases c5 : 14 < x % 20
  · rw [if_pos c5] at h1 h2
    obtain ⟨a, b⟩ := work_sim h (x % 20)
    rw [← h1, ← h2] at a b
    exact ⟨a, b⟩
  rw [if_neg c5] at h1 h2
  by_cases c6 : 9 ≤ x % 20 ∧ x % 20 < 12
  · rw [if_pos c6] at h1 h2
    obtain ⟨a, b⟩ := held_sim h (x % 20) hpl (x / 640)
    rw [← h1, ← h2] at a b
    exact ⟨a, b⟩
  rw [if_neg c6] at h1 h2
  obtain ⟨a, b⟩ := changed_sim h (x % 20) hpl (x / 640)
  rw [← h1, ← h2] at a b
  exact ⟨a, b⟩
theorem Rel.rootsOk {D E : SpD} (h : Rel D E) : RootsOk D := fun i hi he => by
  obtain ⟨ρ, s⟩ := h.sim
  rcases h.root s hi with ⟨z, _⟩ | ⟨_, _, z⟩
  · omega
  · exact (s.inn z).1
end K9
end
section
set_option Elab.async false
set_option linter.all false
set_option maxRecDepth 100000
set_option maxHeartbeats 4000000
/-! The law's defs: begun. -/
namespace K9
open PySem PySem.Spec PyProof.Rows L2 LamX
def iL (l : List Int) : PyData := .list (l.map PyData.int)
theorem ints_ok : ∀ l : List Int, PyData.canLayAll0 (l.map PyData.int) = true ∧ PyData.depthAll (l.map PyData.int) = 0
  | [] => ⟨by simp [PyData.canLayAll0], by simp [PyData.depthAll]⟩
  | a :: l => by
    obtain ⟨h1, h2⟩ := ints_ok l
    exact ⟨by simp [PyData.canLayAll0, PyData.canLay0, h1], by simp [PyData.depthAll, PyData.depth, h2]⟩
theorem iL_can (l : List Int) : (iL l).canLay0 = true := by unfold iL; simp [PyData.canLay0, (ints_ok l).1]
theorem iL_dep (l : List Int) : (iL l).depth = 1 := by unfold iL; simp [PyData.depth, (ints_ok l).2]
theorem iL_sh (l : List Int) : SeqAt.shaped (iL l) = true := by unfold SeqAt.shaped; rw [iL_can, iL_dep]; rfl
theorem lists_ok : ∀ ls : List (List Int), PyData.canLayAll0 (ls.map iL) = true ∧ PyData.depthAll (ls.map iL) ≤ 1
  | [] => ⟨by simp [PyData.canLayAll0], by simp [PyData.depthAll]⟩
  | a :: l => by
    obtain ⟨h1, h2⟩ := lists_ok l
    exact ⟨by simp [PyData.canLayAll0, iL_can, h1], by simp only [List.map_cons, PyData.depthAll, iL_dep]; omega⟩
def lL (ls : List (List Int)) : PyData := .list (ls.map iL)
theorem lL_sh (ls : List (List Int)) : SeqAt.shaped (lL ls) = true := by
  obtain ⟨h1, h2⟩ := lists_ok ls
  unfold SeqAt.shaped lL
  rw [Bool.and_eq_true_iff]
  refine ⟨by simp [PyData.canLay0, h1], decide_eq_true ?_⟩
  simp only [PyData.depth]
  omega
theorem eqv_same {d : PyData} (h : SeqAt.shaped d = true) : PyData.eqv d d = true := SeqAt.eqv_refl d (SeqAt.canLay_of_shaped h)
section
variable {K : PySem.W.Frag} {H : Hp}
theorem dp_ints : ∀ l : List Int, DpAll K H (l.map V.int) (l.map PyData.int)
  | [] => .nil
  | a :: l => .cons (.int a) (dp_ints l)
theorem dp_iL {p : Addr} {l : List Int} (h : H p = some (.lst (l.map V.int))) : Dp K H (.ref p) (iL l) := .lst (SqL.of h) (dp_ints l)
def stC (p w n r c : Addr) (S : Snap) : List Cell := [(p, .lst [.ref w, .ref n, .ref r, .ref c]), (c, .lst [.int S.al, .int S.co]), (r, .lst (S.rs.map V.int)), (n, .lst (S.ns.map V.int)), (w, .lst (S.ws.map V.int))]
theorem StL.cut {p : Addr} {S : Snap} {cs : List Cell} (h : StL p S cs) : ∃ w n r c : Addr, cs = stC p w n r c S := h
theorem StL.mk {p w n r c : Addr} {S : Snap} : StL p S (stC p w n r c S) := ⟨w, n, r, c, rfl⟩
theorem stC_at {p w n r c : Addr} {S : Snap} (hh : Has (stC p w n r c S) H) : H p = some (.lst [.ref w, .ref n, .ref r, .ref c]) ∧ H w = some (.lst (S.ws.map V.int)) ∧ H n = some (.lst (S.ns.map V.int)) ∧ H r = some (.lst (S.rs.map V.int)) ∧ H c = some (.lst ([S.al, S.co].map V.int)) :=
  ⟨hh (p, .lst [.ref w, .ref n, .ref r, .ref c]) (by simp [stC]), hh (w, .lst (S.ws.map V.int)) (by simp [stC]), hh (n, .lst (S.ns.map V.int)) (by simp [stC]), hh (r, .lst (S.rs.map V.int)) (by simp [stC]), hh (c, .lst [.int S.al, .int S.co]) (by simp [stC])⟩
/-- the parts of a snapshot -/
theorem StL.open {p : Addr} {S : Snap} {cs : List Cell} (h : StL p S cs) (hh : Has cs H) : ∃ w n r c : Addr, cs = [(p, .lst [.ref w, .ref n, .ref r, .ref c]), (c, .lst [.int S.al, .int S.co]), (r, .lst (S.rs.map V.int)), (n, .lst (S.ns.map V.int)), (w, .lst (S.ws.map V.int))] ∧
    H p = some (.lst [.ref w, .ref n, .ref r, .ref c]) ∧ H w = some (.lst (S.ws.map V.int)) ∧ H n = some (.lst (S.ns.map V.int)) ∧ H r = some (.lst (S.rs.map V.int)) ∧ H c = some (.lst ([S.al, S.co].map V.int)) := by
  obtain ⟨w, n, r, c, rfl⟩ := h
  exact ⟨w, n, r, c, rfl, hh (p, _) (by simp), hh (w, _) (by simp), hh (n, _) (by simp), hh (r, _) (by simp), hh (c, _) (by simp)⟩
theorem StL.plain {p : Addr} {S : Snap} {cs : List Cell} (h : StL p S cs) : ∀ c ∈ cs, Plain c.2 := by
  obtain ⟨w, n, r, c, rfl⟩ := h
  intro x hx
  simp only [List.mem_cons, List.not_mem_nil, or_false] at hx
  rcases hx with rfl | rfl | rfl | rfl | rfl <;> trivial
def snD (S : Snap) : PyData := lL [S.ws, S.ns, S.rs, [S.al, S.co]]
theorem StL.dp {p : Addr} {S : Snap} {cs : List Cell} (h : StL p S cs) (hh : Has cs H) : Dp K H (.ref p) (snD S) := by
  obtain ⟨w, n, r, c, _, h1, h2, h3, h4, h5⟩ := h.open hh
  exact .lst (SqL.of h1) (.cons (dp_iL h2) (.cons (dp_iL h3) (.cons (dp_iL h4) (.cons (dp_iL h5) .nil))))
end
theorem use_next {t u : L2.TS} {k : L2.Ends} {σ : L2.St} {H : Hp} (R : Hp → Prop) (h1 : (∀ H', R H' → u k σ H') → L2.tSeq t u k σ H) (h2 : ∀ H', R H' → u k σ H') : L2.tSeq t u k σ H := h1 h2
theorem at0 {α : Type} {a : α} {l : List α} : atI (a :: l) 0 = some a := atI_nat (j := 0) rfl
theorem at1 {α : Type} {a b : α} {l : List α} : atI (a :: b :: l) 1 = some b := atI_nat (j := 1) rfl
theorem at2 {α : Type} {a b c : α} {l : List α} : atI (a :: b :: c :: l) 2 = some c := atI_nat (j := 2) rfl
theorem at3 {α : Type} {a b c d : α} {l : List α} : atI (a :: b :: c :: d :: l) 3 = some d := atI_nat (j := 3) rfl
theorem srt_tot {all : List Ob} (h : (nums all).Nodup) : ((srt (nums all)).map (lenN all)).sum = tot all := by
  rw [tot_nums h, ((srt_perm (nums all)).map (lenN all)).sum_nat]
theorem srt_len (l : List Int) : (srt l).length = l.length := (srt_perm l).length_eq
section
variable {P : Program} {w : World} {K : PySem.W.Frag} {mg : Str → Option Value} {base : Heap} {A : Ads}
def spBegun (A : Ads) : Sp := fun vs H Q _ => ∃ (a pb pt : Addr) (D : SpD) (N : Snap) (cs bs : List Cell) (c : Int), vs = [.ref a, .ref pb, .ref pt] ∧ SpR A.CT A.CS a D cs ∧ StL pb N bs ∧ Own A.T (adr (cs ++ (bs ++ [(pt, .lst [.str "work", .int c])]))) H (cs ++ (bs ++ [(pt, .lst [.str "work", .int c])])) H ∧
  (c = 15 ∨ c = 16) ∧ N.rs = allW D ∧ N.al = D.allocs ∧ D.colls = N.co + 1 ∧ tot D.objs = tot (kept D.objs (allW D)) ∧
  ∀ H' : Hp, Own A.T (adr (cs ++ (bs ++ [(pt, .lst [.str "work", .int c])]))) H (cs ++ (bs ++ [(pt, .lst [.str "work", .int c])])) H' → Q (.bl true) H'
theorem ok_l_begun (T : Txt P K mg A) : Okd P w K mg base 6 A.l_begun (spBegun A) := by
  refine okN T.f_l_begun sc_l_begun bh_l_begun (fun vs H Q E h => ?_) (fun cdv Ar outer s0 H vs Q E hr h => ?_)
  · obtain ⟨_, _, _, _, _, _, _, _, rfl, _⟩ := h
    rfl
  · obtain ⟨a, pb, pt, D, N, cs, bs, c, rfl, hS, hN, W, hc, hrs, hal, hco, htot, k⟩ := h
    have nd := sc_l_begun.nd
    have hr1 := hr.mono (j := 1) (by decide)
    have hrH := L2H.roomH_of hr
    refine ⟨_, pss_cons (ps_if (PW.pt (pw_and (pt_not (pt_val (pe_run ((ok_l_equal T).runs hr1 passN0) T.g_l_equal T.k_l_equal (pa_cons (pv 2) (pa_cons (pe_lst (pa_cons pe_str (pa_cons pe_int pa_nil))) pa_nil))))) (pw_and1 (pt_not (pt_val (pe_run ((ok_l_equal T).runs hr1 passN0) T.g_l_equal T.k_l_equal (pa_cons (pv 2) (pa_cons (pe_lst (pa_cons pe_str (pa_cons pe_int pa_nil))) pa_nil)))))))) (pss_one (ps_ret pe_bl)) pss_nil)
      (pss_cons (ps_set (i := 3) nd rfl (.inl rfl) (pe_run ((ok_l_state T).runs (hr.mono (by decide)) passN0) T.g_l_state T.k_l_state (pa_cons (pv 0) pa_nil)))
      (pss_cons (ps_if (PW.pt (pw_or (pt_cmpR (op_neD hr.units) (pe_ix ix_list (pv 3) pe_int (fun _ _ => rfl)) (pe_ix ix_list (pv 1) pe_int (fun _ _ => rfl)) (nomark _))
          (pw_or (pt_cmpR op_ne (pe_ix ix_list (pe_ix ix_list (pv 3) pe_int (fun _ _ => rfl)) pe_int (fun _ _ => rfl)) (pe_ix ix_list (pe_ix ix_list (pv 1) pe_int (fun _ _ => rfl)) pe_int (fun _ _ => rfl)) (nomark _))
          (pw_or1 (pt_cmpR op_ne (pe_ix ix_list (pe_ix ix_list (pv 3) pe_int (fun _ _ => rfl)) pe_int (fun _ _ => rfl)) (pe_op op_add (pe_ix ix_list (pe_ix ix_list (pv 1) pe_int (fun _ _ => rfl)) pe_int (fun _ _ => rfl)) pe_int) (nomark _)))))) (pss_one (ps_ret pe_bl)) pss_nil)
      (pss_cons (ps_if (pt_cmpR op_ne (pe_callB call_len_seq (by rfl) T.b_len PySem.boot_len (pa_cons (pe_ix ix_list (pv 3) pe_int (fun _ _ => rfl)) pa_nil)) (pe_mrun0 (pv 0) T.clS T.m_p_live ((ok_p_live T).runs hr passN0)) (nomark _)) (pss_one (ps_ret pe_bl)) pss_nil)
      (pss_one (ps_ret (pe_cmpR op_eq (pe_callB (cr_sum rfl) (by rfl) T.b_sum (by decide +kernel) (pa_cons (pe_lc (te := tOp (rI0 fun i j => .int (i + j)) (tC (.int 3)) (L2H.tMethH A.CT "size" (spSize A) E0S (tFld K (tVar 0) "store") (tCons (tVar 4) tNil))) (own := [("_law_number_here", 4)]) (g := gName 4) (by rfl) nd (pi_list (pe_ix ix_list (pv 3) pe_int (fun _ _ => rfl))) (blkOk_by (N := ["_law_space", "_law_before", "_law_told", "_law_after", "_law_number_here"]) (sc := defScope st_l_begun) (by decide +kernel)) (fun _ _ _ _ _ => pg_name (i := 4) nd rfl (.inl rfl)) (fun _ _ _ _ _ => pts_nil)
        (fun _ _ _ _ _ => by exact (pe_op op_add pe_int (pe_mrun (pe_fld (pv 0) rfl) T.clT T.m_s_size ((ok_s_size T).runs (hrH.mono (by decide)) (.inl rfl)) (pa_cons (pv 4) pa_nil))))) pa_nil))
        (pe_callB call_len_seq (by rfl) T.b_len PySem.boot_len (pa_cons (pe_ix ix_list (pv 3) pe_int (fun _ _ => rfl)) pa_nil)) (nomark _))))))), ?_⟩
    have hX : Own A.T (adr (cs ++ (bs ++ [(pt, .lst [.str "work", .int c])]))) H (cs ++ (bs ++ [(pt, .lst [.str "work", .int c])])) H := W
    have hpt : ∀ {H1 : Hp} {F : List Addr} {H0 : Hp}, Own A.T F H0 (cs ++ (bs ++ [(pt, .lst [.str "work", .int c])])) H1 → H1 pt = some (.lst [.str "work", .int c]) := fun {H1 F H0} W1 => W1.is (pt, .lst [.str "work", .int c]) (by simp)
    have isw : ∀ x ∈ ([.str "work", .int c] : List V), isIS x := fun x hx => by
      simp only [List.mem_cons, List.not_mem_nil, or_false] at hx
      rcases hx with rfl | rfl <;> trivial
    have isk : ∀ n : Int, ∀ x ∈ ([.str "work", .int n] : List V), isIS x := fun n x hx => by
      simp only [List.mem_cons, List.not_mem_nil, or_false] at hx
      rcases hx with rfl | rfl <;> trivial
    refine use_next (R := fun H1 => Own A.T (adr (cs ++ (bs ++ [(pt, .lst [.str "work", .int c])]))) H (cs ++ (bs ++ [(pt, .lst [.str "work", .int c])])) H1) (fun nx => ?_) (fun H1 W1 => ?_)
    · refine ⟨_, rfl, (by show 2 ≤ sizeLine; rw [sizeLine_eq]; decide), fun l hl => ?_⟩
      have W1 := W.new (o := .lst [.str "work", .int 15]) hl
      refine ⟨pt, l, _, _, rfl, hpt W1.tail, W1.get 0 rfl, isw, isk 15, by simp, _, rfl, ?_⟩
      by_cases h15 : c = 15
      · refine itF (by rw [h15]; simp) ?_
        refine itF rfl ?_
        exact nx _ W1.tail
      · refine itT (by simp [h15]) ?_
        refine ⟨_, rfl, (by show 2 ≤ sizeLine; rw [sizeLine_eq]; decide), fun l2 hl2 => ?_⟩
        have W2 := W1.tail.new (o := .lst [.str "work", .int 16]) hl2
        refine ⟨pt, l2, _, _, rfl, hpt W2.tail, W2.get 0 rfl, isw, isk 16, by simp, _, rfl, ?_⟩
        refine itF (by rw [hc.resolve_left h15]; simp) ?_
        exact nx _ W2.tail
    refine ⟨_, rfl, a, D, cs, rfl, hS, W1.left.has, W1.tb, fun H2 pa as hA R2 => ?_⟩
    have W2 := W1.call0 R2
    obtain ⟨w1, n1, r1, c1, rfl⟩ := hA.cut
    obtain ⟨f1, f2, f3, f4, f5⟩ := stC_at W2.left.has
    obtain ⟨w2, n2, r2, c2, ebs, g1, g2, g3, g4, g5⟩ := hN.open W2.right.right.left.has
    have hO : StOk D.room D.entries D.objs := by
      obtain ⟨_, _, _, _, _, _, _, _, _, _, hSt, h5, _⟩ := hS.store W1.left.has
      obtain ⟨_, _, _, _, _, _, _, hO, _⟩ := hSt.open h5
      exact hO
    refine ⟨_, rfl, pa, _, _, _, rfl, rfl, SqL.of f1, at2, _, rfl, pb, _, _, _, rfl, rfl, SqL.of g1, at2, iL (allW D), iL (allW D), dp_iL f4, by rw [← hrs]; exact dp_iL g4, iL_sh _, iL_sh _, _, rfl, ?_⟩
    refine itF (by rw [eqv_same (iL_sh _)]; rfl) ?_
    refine ⟨_, rfl, pa, _, _, _, rfl, rfl, SqL.of f1, at3, c1, _, _, _, rfl, rfl, SqL.of f5, at0, _, rfl, pb, _, _, _, rfl, rfl, SqL.of g1, at3, c2, _, _, _, rfl, rfl, SqL.of g5, at0, rfl, _, rfl, ?_⟩
    refine itF (by rw [K9.dec_int, decide_eq_true (show (snapOf D).al = N.al from hal.symm)]; rfl) ?_
    refine ⟨_, rfl, pa, _, _, _, rfl, rfl, SqL.of f1, at3, c1, _, _, _, rfl, rfl, SqL.of f5, at1, _, rfl, pb, _, _, _, rfl, rfl, SqL.of g1, at3, c2, _, _, _, rfl, rfl, SqL.of g5, at1, _, _, rfl, rfl, rfl, _, rfl, ?_⟩
    refine itF (by rw [K9.dec_int, decide_eq_true (show (snapOf D).co = N.co + 1 from hco)]; rfl) ?_
    obtain ⟨dx, s, pr, rt, hd, sv, h1⟩ := hS.ins W2.right.left.has
    refine ⟨_, rfl, pa, _, _, _, rfl, rfl, SqL.of f1, at0, w1, _, rfl, .inl (SqL.of f2), _, rfl, a, dx, _, rfl, h1, spF_none (by decide +kernel), a, D, cs, rfl, hS, W2.right.left.start, fun H3 R3 => ?_⟩
    have W3 := W2.mid R3
    refine ⟨rfl, _, rfl, ?_⟩
    have elen : ((List.map V.int (snapOf D).ws).length : Int) = ((tot (kept D.objs (allW D)) : Nat) : Int) := by rw [← htot]; show (((flat D.objs).map V.int).length : Int) = _; rw [flat_len]
    refine itF (by rw [K9.dec_int, decide_eq_true elen]; rfl) ?_
    obtain ⟨f1', f2', f3', f4', f5'⟩ := stC_at W3.left.has
    refine ⟨_, rfl, pa, _, _, _, rfl, rfl, SqL.of f1', at1, n1, rfl, ⟨_, SqL.of f3'⟩, fun D' hD' => ?_⟩
    have W4 := W3.new (o := .lst []) hD'
    refine lc_list (K := K) (a := n1) (xs := (srt (nums D.objs)).map V.int) (fun i H' => Own A.T (adr (cs ++ (bs ++ [(pt, .lst [.str "work", .int c])]))) H ((D', .lst (((srt (nums D.objs)).take i).map fun n => V.int (lenN D.objs n : Int))) :: (stC pa w1 n1 r1 c1 (snapOf D) ++ (cs ++ (bs ++ [(pt, .lst [.str "work", .int c])])))) H') W4 (fun i H' _ W5 => ?_) ?_ ?_
    · exact SqL.of (stC_at W5.tail.left.has).2.2.1
    · intro i y H5 hi W5
      rw [List.getElem?_map] at hi
      obtain ⟨x, hx, rfl⟩ : ∃ x, (srt (nums D.objs))[i]? = some x ∧ y = V.int x := by
        cases e : (srt (nums D.objs))[i]? with
        | none => rw [e] at hi; cases hi
        | some x => rw [e] at hi; exact ⟨x, rfl, (Option.some.inj hi).symm⟩
      have hxm : x ∈ nums D.objs := (srt_perm _).mem_iff.mp (List.mem_of_getElem? hx)
      obtain ⟨o, ho⟩ := ob_of_nums hxm
      obtain ⟨dx5, s5, pr5, rt5, hd5, sv5, c5, fs5, dxs5, q1, hSt5, q5, q6, hno5⟩ := hS.store W5.tail.right.left.has
      refine ⟨rfl, ?_⟩
      dsimp only [tYes]
      rw [if_pos rfl]
      refine ⟨_, rfl, a, _, dx5, _, _, rfl, q1, T.clS, T.nS_store, spF_store, s5, _, _, rfl, q6, hno5 _ (by decide +kernel), _, rfl, s5, x, _, _, _, c5, o, rfl, hSt5, q5, ho, _, _, rfl, rfl, _, W5.get 0 rfl, ?_, ?_⟩
      · refine line1000 ?_
        rw [List.length_map, List.length_take, srt_len, nums_length]
        have := hO.lenle
        omega
      · have W6 := W5.put 0 rfl rfl (b := D') (o' := .lst ((((srt (nums D.objs)).take i).map fun n => V.int (lenN D.objs n : Int)) ++ [.int (3 + (o.slots.length : Int))]))
        have e5 : (((srt (nums D.objs)).take i).map fun n => V.int (lenN D.objs n : Int)) ++ [.int (3 + (o.slots.length : Int))] = ((srt (nums D.objs)).take (i + 1)).map fun n => V.int (lenN D.objs n : Int) := by
          rw [take_snoc hx, List.map_append]
          show _ = _ ++ [V.int (lenN D.objs x : Int)]
          rw [lenN_of ho]
          simp
        rw [e5] at W6 ⊢
        exact W6
    · intro H5 W5
      rw [List.length_map, List.take_length] at W5
      obtain ⟨p1, p2, _, _, _⟩ := stC_at W5.tail.left.has
      refine ⟨D', ((srt (nums D.objs)).map (lenN D.objs)).map fun n : Nat => (n : Int), rfl, ?_, ?_⟩
      · have e : ((((srt (nums D.objs)).map (lenN D.objs)).map fun n : Nat => (n : Int)).map V.int) = (srt (nums D.objs)).map fun n => V.int (lenN D.objs n : Int) := by
          rw [List.map_map, List.map_map]; rfl
        rw [e]
        exact SqL.of (W5.get 0 rfl)
      rw [sum_cast, srt_tot hO.nd]
      refine ⟨_, rfl, pa, _, _, _, rfl, rfl, SqL.of p1, at0, w1, _, rfl, .inl (SqL.of p2), rfl, ?_⟩
      have e : decide (V.int ((tot D.objs : Nat) : Int) = V.int ((List.map V.int (snapOf D).ws).length : Int)) = true := by
        rw [K9.dec_int]
        refine decide_eq_true ?_
        show _ = (((flat D.objs).map V.int).length : Int)
        rw [flat_len]
      rw [e]
      exact k _ W5.tail.right
end
end K9
end
section
set_option Elab.async false
set_option linter.all false
set_option maxRecDepth 100000
set_option maxHeartbeats 4000000
/-! The law's defs: grown. -/
namespace K9
open PySem PySem.Spec PyProof.Rows L2 LamX
theorem cut_to {xs : List V} {j : Nat} (h : j ≤ xs.length) : cutV xs none (some (j : Int)) = xs.take j := by
  unfold cutV
  have s0 : HT.sIx xs.length 0 none = 0 := HT.sIx_none _ _
  have s1 : HT.sIx xs.length xs.length (some (j : Int)) = j := by rw [HT.sIx_nat]; omega
  rw [s0, s1]
  rfl
def GrowF (D : SpD) (x : Int) (told : List V) (D' : SpD) : Prop := D'.allocs = D.allocs + 1 ∧ D'.colls = D.colls ∧ D'.room = D.room ∧ D'.entries = D.entries ∧ ∃ o k, AllocR D.room D.entries D.objs k (sizeX x) o D'.objs ∧
  match o with
  | .made _ => told = [.str "made", .int (sizeX x : Int)]
  | .room => told = [.str "room", .int (3 + (sizeX x : Int))]
  | .num => told = [.str "number", .int D.entries]
theorem is2 (z : Str) (n : Int) : ∀ x ∈ ([.str z, .int n] : List V), isIS x := fun x hx => by
  simp only [List.mem_cons, List.not_mem_nil, or_false] at hx
  rcases hx with rfl | rfl <;> trivial
section
variable {P : Program} {w : World} {K : PySem.W.Frag} {mg : Str → Option Value} {base : Heap} {A : Ads}
abbrev grX (cs bs : List Cell) (pt lp : Addr) (told : List V) (room entries : Int) : List Cell := cs ++ (bs ++ [(pt, .lst told), (lp, .tup [.int room, .int entries])])
def spGrown (A : Ads) : Sp := fun vs H Q _ => ∃ (a lp pb pt : Addr) (x : Int) (D D' : SpD) (cs bs : List Cell) (told : List V), vs = [.ref a, .ref lp, .ref pb, .int x, .ref pt] ∧ SpR A.CT A.CS a D' cs ∧ StL pb (snapOf D) bs ∧
  Own A.T (adr (grX cs bs pt lp told D.room D.entries)) H (grX cs bs pt lp told D.room D.entries) H ∧ (nums D.objs).Nodup ∧ GrowF D x told D' ∧
  ∀ H' : Hp, Own A.T (adr (grX cs bs pt lp told D.room D.entries)) H (grX cs bs pt lp told D.room D.entries) H' → Q (.bl true) H'
theorem ok_l_grown (T : Txt P K mg A) : Okd P w K mg base 6 A.l_grown (spGrown A) := by
  refine okN T.f_l_grown sc_l_grown bh_l_grown (fun vs H Q E h => ?_) (fun cdv Ar outer s0 H vs Q E hr h => ?_)
  · obtain ⟨_, _, _, _, _, _, _, _, _, _, rfl, _⟩ := h
    rfl
  · obtain ⟨a, lp, pb, pt, x, D, D', cs, bs, told, rfl, hS, hN, W, hnd, ⟨hal, hco, hrm, hen, o, kd, hA, ht⟩, k⟩ := h
    have nd := sc_l_grown.nd
    have hr1 := hr.mono (j := 1) (by decide)
    have hrH := L2H.roomH_of hr
    refine ⟨_, pss_cons (ps_set (i := 5) nd rfl (.inl rfl) (pe_op op_fdiv (pv 3) pe_int))
      (pss_cons (ps_set (i := 6) nd rfl (.inl rfl) (pe_op op_mod (pe_callTy call_int1 (by rfl) T.b_int (by decide +kernel) (pa_cons (pv 5) pa_nil)) pe_int))
      (pss_cons (ps_if (pt_cmpR op_eq (pe_op op_mod (pe_op op_fdiv (pv 5) pe_int) pe_int) pe_int (nomark _)) (pss_one (ps_set (i := 6) nd rfl (.inl rfl) (pe_op op_mod (pe_op op_fdiv (pv 5) pe_int) pe_int))) pss_nil)
      (pss_cons (ps_set (i := 7) nd rfl (.inl rfl) (pe_run ((ok_l_state T).runs (hr.mono (by decide)) passN0) T.g_l_state T.k_l_state (pa_cons (pv 0) pa_nil)))
      (pss_cons (ps_if (pt_cmpR (op_neD hr.units) (pe_ix ix_list (pv 7) pe_int (fun _ _ => rfl)) (pe_lst (pa_cons (pe_op op_add (pe_ix ix_list (pe_ix ix_list (pv 2) pe_int (fun _ _ => rfl)) pe_int (fun _ _ => rfl)) pe_int) (pa_cons (pe_ix ix_list (pe_ix ix_list (pv 2) pe_int (fun _ _ => rfl)) pe_int (fun _ _ => rfl)) pa_nil))) (nomark _)) (pss_one (ps_ret pe_bl)) pss_nil)
      (pss_cons (ps_if (pt_cmpR op_gt (pe_op op_add (pe_op op_add (pe_callB call_len_seq (by rfl) T.b_len PySem.boot_len (pa_cons (pe_ix ix_list (pv 2) pe_int (fun _ _ => rfl)) pa_nil)) pe_int) (pv 6)) (pe_ix ix_tup (pv 1) pe_int (fun _ _ => rfl)) (nomark _))
        (pss_one (ps_ret (pe_and (pe_run ((ok_l_equal T).runs hr1 passN0) T.g_l_equal T.k_l_equal (pa_cons (pv 4) (pa_cons (pe_lst (pa_cons pe_str (pa_cons (pe_op op_add pe_int (pv 6)) pa_nil))) pa_nil)))
          (pe_one (pe_cmpR (op_eqD hr.units) (pe_slice sl_list (pv 7) po_none (po_some pe_int)) (pe_slice sl_list (pv 2) po_none (po_some pe_int)) (nomark _)))))) pss_nil)
      (pss_cons (ps_if (pt_cmpR op_ge (pe_callB call_len_seq (by rfl) T.b_len PySem.boot_len (pa_cons (pe_ix ix_list (pv 2) pe_int (fun _ _ => rfl)) pa_nil)) (pe_ix ix_tup (pv 1) pe_int (fun _ _ => rfl)) (nomark _))
        (pss_one (ps_ret (pe_and (pe_run ((ok_l_equal T).runs hr1 passN0) T.g_l_equal T.k_l_equal (pa_cons (pv 4) (pa_cons (pe_lst (pa_cons pe_str (pa_cons (pe_ix ix_tup (pv 1) pe_int (fun _ _ => rfl)) pa_nil))) pa_nil)))
          (pe_one (pe_cmpR (op_eqD hr.units) (pe_slice sl_list (pv 7) po_none (po_some pe_int)) (pe_slice sl_list (pv 2) po_none (po_some pe_int)) (nomark _)))))) pss_nil)
      (pss_cons (ps_if (PW.pt (pw_or (pt_not (pt_val (pe_run ((ok_l_equal T).runs hr1 passN0) T.g_l_equal T.k_l_equal (pa_cons (pv 4) (pa_cons (pe_lst (pa_cons pe_str (pa_cons (pv 6) pa_nil))) pa_nil)))))
        (pw_or1 (pt_cmpR op_ne (pe_callB call_len_seq (by rfl) T.b_len PySem.boot_len (pa_cons (pe_ix ix_list (pv 7) pe_int (fun _ _ => rfl)) pa_nil)) (pe_op op_add (pe_callB call_len_seq (by rfl) T.b_len PySem.boot_len (pa_cons (pe_ix ix_list (pv 2) pe_int (fun _ _ => rfl)) pa_nil)) pe_int) (nomark _))))) (pss_one (ps_ret pe_bl)) pss_nil)
      (pss_one (ps_ret (pe_and (pe_cmpR (op_eqD hr.units) (pe_slice sl_list (pe_ix ix_list (pv 7) pe_int (fun _ _ => rfl)) po_none (po_some (pe_callB call_len_seq (by rfl) T.b_len PySem.boot_len (pa_cons (pe_ix ix_list (pv 2) pe_int (fun _ _ => rfl)) pa_nil)))) (pe_ix ix_list (pv 2) pe_int (fun _ _ => rfl)) (nomark _))
        (pe_one (pe_cmpR op_eq (pe_callB call_len_seq (by rfl) T.b_len PySem.boot_len (pa_cons (pe_ix ix_list (pv 7) pe_int (fun _ _ => rfl)) pa_nil)) (pe_op op_add (pe_op op_add (pe_callB call_len_seq (by rfl) T.b_len PySem.boot_len (pa_cons (pe_ix ix_list (pv 2) pe_int (fun _ _ => rfl)) pa_nil)) pe_int) (pv 6)) (nomark _)))))))))))))  , ?_⟩
    refine ⟨_, rfl, _, _, rfl, rfl, ⟨by decide, by decide⟩, ?_⟩
    refine ⟨_, rfl, .inl ⟨_, rfl, _, _, rfl, rfl, (by show (0 : Int) < 5; decide), ?_⟩⟩
    refine ⟨_, rfl, _, _, rfl, rfl, ⟨by decide, by decide⟩, _, _, rfl, rfl, (by show (0 : Int) < 16; decide), rfl, _, rfl, ?_⟩
    rw [K9.dec_int]
    refine if_nextS (R := fun σ H' => H = H' ∧ σ = [some (.ref a), some (.ref lp), some (.ref pb), some (.int x), some (.ref pt), some (.int (x / 640)), some (.int (sizeX x : Int)), none]) (fun h3 nx => ?_) (fun h3 => ⟨rfl, ?_⟩) ?_
    · have h3 := of_decide_eq_true h3
      refine ⟨_, rfl, _, _, rfl, rfl, ⟨by decide, by decide⟩, _, _, rfl, rfl, (by show (0 : Int) < 60; decide), nx _ _ ⟨rfl, ?_⟩⟩
      have e : x / 640 / 80 % 60 = (sizeX x : Int) := by unfold sizeX; rw [if_pos h3]; omega
      show [_, _, _, _, _, _, some (V.int (x / 640 / 80 % 60)), _] = _
      rw [e]
    · have h3 := of_decide_eq_false h3
      have e : x / 640 % 5 = (sizeX x : Int) := by unfold sizeX; rw [if_neg h3]; omega
      show [_, _, _, _, _, _, some (V.int (x / 640 % 5)), _] = _
      rw [e]
    rintro σ H1 ⟨rfl, rfl⟩
    refine ⟨_, rfl, a, D', cs, rfl, hS, W.left.has, W.tb, fun H2 pa as hA2 R2 => ?_⟩
    have W2 := W.call0 R2
    obtain ⟨w1, n1, r1, c1, rfl⟩ := hA2.cut
    obtain ⟨w2, n2, r2, c2, rfl⟩ := hN.cut
    have hlen := hA.len
    have hsz := sizeX_le x
    obtain ⟨f1, f2, f3, f4, f5⟩ := stC_at W2.left.has
    obtain ⟨g1, g2, g3, g4, g5⟩ := stC_at W2.right.right.left.has
    refine ⟨_, rfl, pa, _, _, _, rfl, rfl, SqL.of f1, at3, ?_⟩
    refine ⟨_, rfl, pb, _, _, _, rfl, rfl, SqL.of g1, at3, c2, _, _, _, rfl, rfl, SqL.of g5, at0, _, _, rfl, rfl, _, rfl, pb, _, _, _, rfl, rfl, SqL.of g1, at3, c2, _, _, _, rfl, rfl, SqL.of g5, at1, (by show 2 ≤ sizeLine; rw [sizeLine_eq]; decide), fun l hl => ?_⟩
    have W3 := W2.new (o := .lst [.int (D.allocs + 1), .int D.colls]) hl
    obtain ⟨f1, f2, f3, f4, f5⟩ := stC_at W3.tail.left.has
    obtain ⟨g1, g2, g3, g4, g5⟩ := stC_at W3.tail.right.right.left.has
    refine ⟨iL [D'.allocs, D'.colls], iL [D.allocs + 1, D.colls], dp_iL f5, dp_iL (W3.get 0 rfl), iL_sh _, iL_sh _, _, rfl, ?_⟩
    rw [hal, hco]
    refine itF (by rw [eqv_same (iL_sh _)]; rfl) ?_
    have ft := W3.tail.is (lp, .tup [.int D.room, .int D.entries]) (by simp [grX])
    have fp := W3.tail.is (pt, .lst told) (by simp [grX])
    refine ⟨_, rfl, pb, _, _, _, rfl, rfl, SqL.of g1, at0, w2, _, rfl, .inl (SqL.of g2), _, _, rfl, rfl, _, rfl, _, _, rfl, rfl, _, rfl, lp, _, _, _, rfl, rfl, SqT.of ft, at0, _, _, rfl, rfl, _, rfl, ?_⟩
    have el : ((List.map V.int (snapOf D).ws).length : Int) = (tot D.objs : Int) := by rw [List.length_map]; show ((flat D.objs).length : Int) = _; rw [← List.length_map (f := V.int), flat_len]
    rw [el]
    have same2 : ∀ (H9 : Hp) (Z : List Cell), D'.objs = D.objs → Own A.T (adr (grX cs (stC pb w2 n2 r2 c2 (snapOf D)) pt lp told D.room D.entries)) H (Z ++ (stC pa w1 n1 r1 c1 (snapOf D') ++ grX cs (stC pb w2 n2 r2 c2 (snapOf D)) pt lp told D.room D.entries)) H9 →
        L2.tOp (rEqD K) (tSl (rSlL K) (tVar 7) tNoPart (tPart (tC (.int 2)))) (tSl (rSlL K) (tVar 2) tNoPart (tPart (tC (.int 2)))) [some (.ref a), some (.ref lp), some (.ref pb), some (.int x), some (.ref pt), some (.int (x / 640)), some (.int (sizeX x : Int)), some (.ref pa)] H9 (fun v H' => Q v H') := by
      intro H9 Z ho W9
      obtain ⟨f1, f2, f3, f4, f5⟩ := stC_at W9.right.left.has
      refine ⟨_, rfl, _, rfl, pa, _, rfl, SqL.of f1, fun u hu => ?_⟩
      have W10 := W9.new (o := .lst (cutV [.ref w1, .ref n1, .ref r1, .ref c1] none (some 2))) hu
      obtain ⟨g1, g2, g3, g4, g5⟩ := stC_at W10.tail.right.right.right.left.has
      refine ⟨_, rfl, _, rfl, pb, _, rfl, SqL.of g1, fun v hv => ?_⟩
      have W11 := W10.new (o := .lst (cutV [.ref w2, .ref n2, .ref r2, .ref c2] none (some 2))) hv
      obtain ⟨f1, f2, f3, f4, f5⟩ := stC_at W11.tail.tail.right.left.has
      obtain ⟨g1, g2, g3, g4, g5⟩ := stC_at W11.tail.tail.right.right.right.left.has
      have d1 : Dp K _ (.ref u) (lL [(snapOf D').ws, (snapOf D').ns]) := .lst (SqL.of (W11.get 1 rfl)) (.cons (dp_iL f2) (.cons (dp_iL f3) .nil))
      have d2 : Dp K _ (.ref v) (lL [(snapOf D).ws, (snapOf D).ns]) := .lst (SqL.of (W11.get 0 rfl)) (.cons (dp_iL g2) (.cons (dp_iL g3) .nil))
      have es : lL [(snapOf D').ws, (snapOf D').ns] = lL [(snapOf D).ws, (snapOf D).ns] := by unfold snapOf; rw [ho]
      rw [es] at d1
      refine ⟨_, _, d1, d2, lL_sh _, lL_sh _, ?_⟩
      rw [eqv_same (lL_sh _)]
      exact k _ W11.tail.tail.right.right
    by_cases hroom : D.room < (tot D.objs : Int) + 3 + (sizeX x : Int)
    · refine itT (decide_eq_true hroom) ?_
      have ho : o = .room := by
        cases o with
        | made n => have := hA.1; omega
        | room => rfl
        | num => have := hA.1; omega
      subst ho
      obtain ⟨_, hobj⟩ := hA
      have ht : told = [.str "room", .int (3 + (sizeX x : Int))] := ht
      refine ⟨_, rfl, _, rfl, _, _, rfl, rfl, (by show 2 ≤ sizeLine; rw [sizeLine_eq]; decide), fun m hm => ?_⟩
      have W4 := W3.new (o := .lst [.str "room", .int (3 + (sizeX x : Int))]) hm
      refine ⟨pt, m, _, _, rfl, W4.tail.is (pt, .lst told) (by simp [grX]), W4.get 0 rfl, by rw [ht]; exact is2 _ _, is2 _ _, (by show 2 ≤ 1000; decide), _, rfl, ?_⟩
      refine itT (decide_eq_true ht) ?_
      exact same2 _ [_, _] hobj W4
    refine itF (decide_eq_false hroom) ?_
    have en : ((List.map V.int (snapOf D).ns).length : Int) = (D.objs.length : Int) := by rw [List.length_map]; show ((srt (nums D.objs)).length : Int) = _; rw [srt_len, nums_length]
    refine ⟨_, rfl, pb, _, _, _, rfl, rfl, SqL.of g1, at1, n2, _, rfl, .inl (SqL.of g3), _, rfl, lp, _, _, _, rfl, rfl, SqT.of ft, at1, _, _, rfl, rfl, _, rfl, ?_⟩
    rw [en]
    by_cases hnum : D.entries ≤ (D.objs.length : Int)
    · refine itT (decide_eq_true hnum) ?_
      have ho : o = .num := by
        cases o with
        | made n => have := hA.2.1; omega
        | room => have := hA.1; omega
        | num => rfl
      subst ho
      obtain ⟨_, _, hobj⟩ := hA
      have ht : told = [.str "number", .int D.entries] := ht
      refine ⟨_, rfl, _, rfl, lp, _, _, _, rfl, rfl, SqT.of ft, at1, (by show 2 ≤ sizeLine; rw [sizeLine_eq]; decide), fun m hm => ?_⟩
      have W4 := W3.new (o := .lst [.str "number", .int D.entries]) hm
      refine ⟨pt, m, _, _, rfl, W4.tail.is (pt, .lst told) (by simp [grX]), W4.get 0 rfl, by rw [ht]; exact is2 _ _, is2 _ _, (by show 2 ≤ 1000; decide), _, rfl, ?_⟩
      refine itT (decide_eq_true ht) ?_
      exact same2 _ [_, _] hobj W4
    refine itF (decide_eq_false hnum) ?_
    cases o with
    | room => have := hA.1; omega
    | num => have := hA.2.1; omega
    | made n =>
    have ht : told = [.str "made", .int (sizeX x : Int)] := ht
    obtain ⟨hA1, hA2', hA3, hobj⟩ := hA
    refine ⟨_, rfl, _, rfl, (by show 2 ≤ sizeLine; rw [sizeLine_eq]; decide), fun m hm => ?_⟩
    have W4 := W3.new (o := .lst [.str "made", .int (sizeX x : Int)]) hm
    refine ⟨pt, m, _, _, rfl, W4.tail.is (pt, .lst told) (by simp [grX]), W4.get 0 rfl, by rw [ht]; exact is2 _ _, is2 _ _, (by show 2 ≤ 1000; decide), _, rfl, ?_⟩
    rw [decide_eq_true ht]
    obtain ⟨f1, f2, f3, f4, f5⟩ := stC_at W4.tail.tail.left.has
    obtain ⟨g1, g2, g3, g4, g5⟩ := stC_at W4.tail.tail.right.right.left.has
    refine itF rfl ?_
    have en' : ((List.map V.int (snapOf D').ns).length : Int) = (D.objs.length : Int) + 1 := by rw [List.length_map]; show ((srt (nums D'.objs)).length : Int) = _; rw [srt_len, nums_length, hobj]; simp
    have el' : ((List.map V.int (snapOf D').ws).length : Int) = (tot D.objs : Int) + 3 + (sizeX x : Int) := by rw [List.length_map]; show ((flat D'.objs).length : Int) = _; rw [← List.length_map (f := V.int), flat_len, hobj, tot_new]; omega
    refine ⟨_, rfl, pa, _, _, _, rfl, rfl, SqL.of f1, at1, n1, _, rfl, .inl (SqL.of f3), _, rfl, pb, _, _, _, rfl, rfl, SqL.of g1, at1, n2, _, rfl, .inl (SqL.of g3), _, _, rfl, rfl, rfl, _, rfl, ?_⟩
    rw [en, en']
    refine itF (by rw [K9.dec_int]; simp) ?_
    refine ⟨_, rfl, pa, _, _, _, rfl, rfl, SqL.of f1, at0, _, rfl, pb, _, _, _, rfl, rfl, SqL.of g1, at0, w2, _, rfl, .inl (SqL.of g2), _, rfl, w1, _, rfl, SqL.of f2, fun u hu => ?_⟩
    have e0 : (List.map V.int (snapOf D).ws).length = tot D.objs := by show ((flat D.objs).map V.int).length = _; rw [flat_len]
    have ec : cutV (List.map V.int (snapOf D').ws) none (some ((List.map V.int (snapOf D).ws).length : Int)) = (snapOf D).ws.map V.int := by
      have le : (List.map V.int (snapOf D).ws).length ≤ (List.map V.int (snapOf D').ws).length := by omega
      rw [cut_to le]
      show List.take _ ((flat D'.objs).map V.int) = (flat D.objs).map V.int
      rw [hobj, flat_append, List.map_append, e0, ← flat_len D.objs, List.take_left]
    rw [ec]
    have W5 := W4.new (o := .lst ((snapOf D).ws.map V.int)) hu
    obtain ⟨f1, f2, f3, f4, f5⟩ := stC_at W5.tail.tail.tail.left.has
    obtain ⟨g1, g2, g3, g4, g5⟩ := stC_at W5.tail.tail.tail.right.right.left.has
    refine ⟨_, rfl, pb, _, _, _, rfl, rfl, SqL.of g1, at0, iL (snapOf D).ws, iL (snapOf D).ws, dp_iL (W5.get 0 rfl), dp_iL g2, iL_sh _, iL_sh _, _, rfl, ?_⟩
    refine itT (eqv_same (iL_sh _)) ?_
    refine ⟨_, rfl, pa, _, _, _, rfl, rfl, SqL.of f1, at0, w1, _, rfl, .inl (SqL.of f2), _, rfl, pb, _, _, _, rfl, rfl, SqL.of g1, at0, w2, _, rfl, .inl (SqL.of g2), _, _, rfl, rfl, _, rfl, _, _, rfl, rfl, rfl, ?_⟩
    rw [el, el', K9.dec_int, decide_eq_true rfl]
    exact k _ W5.tail.tail.tail.right
end
end K9
end
section
set_option Elab.async false
set_option linter.all false
set_option maxRecDepth 100000
set_option maxHeartbeats 4000000
/-! The law's defs: first. -/
namespace K9
open PySem PySem.Spec PyProof.Rows L2 LamX
theorem NewR.saved_allocs {D D' : SpD} {kind : Int} {size : Nat} {o : Out} (h : NewR D kind size o D') (hs : D.saved ≠ none) : D'.colls = D.colls ∧ AllocR D.room D.entries D.objs kind size o D'.objs := by
  rcases h with ⟨_, all', hA, rfl⟩ | ⟨h, _⟩
  · exact ⟨rfl, hA⟩
  · exact absurd h hs
theorem NewT.grow {D D' : SpD} {kind x : Int} {pl : Nat} {told : List V} (h : NewT D kind (sizeX x) pl told D') (hs : D.saved ≠ none) : GrowF D x told D' := by
  obtain ⟨o, D1, hN, hT⟩ := h
  obtain ⟨r1, r2, r3, r4, r5, r6, _⟩ := hN.rest
  obtain ⟨q1, q2⟩ := hN.saved_allocs hs
  cases o with
  | made n => obtain ⟨rfl, rfl⟩ := hT; exact ⟨r6, q1, r1, r2, .made n, kind, q2, rfl⟩
  | room => obtain ⟨rfl, rfl⟩ := hT; exact ⟨r6, q1, r1, r2, .room, kind, q2, rfl⟩
  | num => obtain ⟨rfl, rfl⟩ := hT; exact ⟨r6, q1, r1, r2, .num, kind, q2, rfl⟩
theorem NewT.saved {D D' : SpD} {kind : Int} {size pl : Nat} {told : List V} (h : NewT D kind size pl told D') : D'.saved = D.saved ∧ D'.room = D.room ∧ D'.entries = D.entries := by
  obtain ⟨o, D1, hN, hT⟩ := h
  obtain ⟨r1, r2, r3, r4, r5, r6, _⟩ := hN.rest
  cases o with
  | made n => obtain ⟨rfl, rfl⟩ := hT; exact ⟨r5, r1, r2⟩
  | room => obtain ⟨rfl, rfl⟩ := hT; exact ⟨r5, r1, r2⟩
  | num => obtain ⟨rfl, rfl⟩ := hT; exact ⟨r5, r1, r2⟩
theorem held_quiet {D D' : SpD} {told : List V} {c : Int} {pl : Nat} {rest : Int} (h : (told, D') = heldF D c pl rest) : D'.allocs = D.allocs ∧ D'.colls = D.colls ∧ D'.saved = D.saved ∧ D'.room = D.room ∧ D'.entries = D.entries := by
  unfold heldF at h
  split at h
  · injection h with _ h; subst h; exact ⟨rfl, rfl, rfl, rfl, rfl⟩
  split at h
  · injection h with _ h; subst h; exact ⟨rfl, rfl, rfl, rfl, rfl⟩
  · injection h with _ h; subst h; split <;> exact ⟨rfl, rfl, rfl, rfl, rfl⟩
theorem changed_quiet {D D' : SpD} {told : List V} {c : Int} {pl : Nat} {rest : Int} (h : (told, D') = changedF D c pl rest) : D'.allocs = D.allocs ∧ D'.colls = D.colls ∧ D'.saved = D.saved ∧ D'.room = D.room ∧ D'.entries = D.entries := by
  unfold changedF at h
  dsimp only at h
  split at h
  · injection h with _ h; subst h; exact ⟨rfl, rfl, rfl, rfl, rfl⟩
  split at h
  · injection h with _ h; subst h; split <;> exact ⟨rfl, rfl, rfl, rfl, rfl⟩
  · injection h with _ h; subst h; split <;> split <;> exact ⟨rfl, rfl, rfl, rfl, rfl⟩
theorem DeedR.grow {D D' : SpD} {x : Int} {told : List V} (h : DeedR D x told D') (h4 : x % 20 < 4) (hs : D.saved ≠ none) : GrowF D x told D' := by
  unfold DeedR at h
  split at h
  · exact h.grow hs
  rw [if_pos (by omega)] at h
  exact NewT.grow (D := setRoot D (placeN (x / 20)) 0) h hs
theorem DeedR.quiet {D D' : SpD} {x : Int} {told : List V} (h : DeedR D x told D') (h4 : ¬ x % 20 < 4) (h14 : x % 20 < 14) : D'.allocs = D.allocs ∧ D'.colls = D.colls ∧ D'.saved = D.saved ∧ D'.room = D.room ∧ D'.entries = D.entries := by
  unfold DeedR at h
  rw [if_neg (by omega), if_neg (by omega)] at h
  split at h
  · obtain ⟨_, rfl⟩ := h; exact ⟨rfl, rfl, rfl, rfl, rfl⟩
  rw [if_neg (by omega), if_neg (by omega)] at h
  split at h
  · exact held_quiet h
  · exact changed_quiet h
theorem DeedR.saved {D D' : SpD} {x : Int} {told : List V} (h : DeedR D x told D') (h14 : x % 20 < 14) : D'.saved = D.saved ∧ D'.room = D.room ∧ D'.entries = D.entries := by
  by_cases h4 : x % 20 < 4
  · unfold DeedR at h
    split at h
    · exact h.saved
    rw [if_pos (by omega)] at h
    exact NewT.saved (D := setRoot D (placeN (x / 20)) 0) h
  · obtain ⟨_, _, a, b, c⟩ := h.quiet h4 h14
    exact ⟨a, b, c⟩
theorem DeedR.coll {D D' : SpD} {x : Int} {told : List V} (h : DeedR D x told D') (h14 : x % 20 = 14) : (told, D') = collF D := by
  unfold DeedR at h
  rw [if_neg (by omega), if_neg (by omega), if_neg (by omega), if_pos h14] at h
  exact h
theorem DeedR.work {D D' : SpD} {x : Int} {told : List V} (h : DeedR D x told D') (h14 : 14 < x % 20) : (told, D') = workF D (x % 20) := by
  unfold DeedR at h
  rw [if_neg (by omega), if_neg (by omega), if_neg (by omega), if_neg (by omega), if_pos h14] at h
  exact h
theorem kept_cong {l : List Ob} {u v : List Int} (h : ∀ w, w ∈ u ↔ w ∈ v) : kept l u = kept l v := by
  classical
  unfold kept
  refine List.filter_congr fun o _ => ?_
  exact decide_eq_decide.mpr ⟨fun z => z.mono fun w q => (h w).mp q, fun z => z.mono fun w q => (h w).mpr q⟩
theorem kept_zero {l : List Ob} {D : SpD} : kept l (allW D ++ [0]) = kept l (allW D) := kept_cong fun w => by
  unfold allW
  simp only [List.mem_append, List.mem_cons, List.not_mem_nil, or_false]
  constructor
  · rintro (h | h)
    · exact h
    · exact .inl h
  · exact .inl
theorem coll_tot (D : SpD) : tot (collD D 0).objs = tot (kept (collD D 0).objs (allW (collD D 0))) := by
  show tot (kept D.objs (allW D ++ [0])) = tot (kept (kept D.objs (allW D ++ [0])) (allW D))
  rw [kept_zero, kept_kept fun w h => h]
theorem pm5 {α : Type} (A B C D E : List α) : (A ++ ((B ++ C) ++ (D ++ E))).Perm ((C ++ (A ++ (B ++ E))) ++ D) := by
  classical
  rw [List.perm_iff_count]
  intro a
  simp only [List.count_append]
  omega
theorem pm6 {α : Type} (A B C D E : List α) : ((C ++ (A ++ (B ++ E))) ++ D).Perm (C ++ (D ++ (B ++ (E ++ A)))) := by
  classical
  rw [List.perm_iff_count]
  intro a
  simp only [List.count_append]
  omega
theorem pm7 {α : Type} (A B C D E : List α) : (A ++ ((B ++ C) ++ (D ++ E))).Perm (A ++ (C ++ (D ++ (B ++ E)))) := by
  classical
  rw [List.perm_iff_count]
  intro a
  simp only [List.count_append]
  omega
theorem pm8 {α : Type} (A C D E : List α) : (A ++ (C ++ (D ++ E))).Perm ((C ++ (A ++ E)) ++ D) := by
  classical
  rw [List.perm_iff_count]
  intro a
  simp only [List.count_append]
  omega
theorem pm9 {α : Type} (A C D E G : List α) : (A ++ (C ++ (D ++ (E ++ G)))).Perm ((C ++ (A ++ E)) ++ (D ++ G)) := by
  classical
  rw [List.perm_iff_count]
  intro a
  simp only [List.count_append]
  omega
theorem pm10 {α : Type} (L N B C D E : List α) : (L ++ (N ++ (B ++ (C ++ (D ++ E))))).Perm ((B ++ D) ++ (C ++ ((L ++ N) ++ E))) := by
  classical
  rw [List.perm_iff_count]
  intro a
  simp only [List.count_append]
  omega
theorem pm11 {α : Type} (L B C D E : List α) : (L ++ (B ++ (C ++ (D ++ E)))).Perm ((B ++ D) ++ (C ++ (L ++ E))) := by
  classical
  rw [List.perm_iff_count]
  intro a
  simp only [List.count_append]
  omega
theorem snD_sh (S : Snap) : SeqAt.shaped (snD S) = true := lL_sh _
/-- the list that keeps what begin left -/
def SavL (ps : Addr) (D : SpD) (qs : List Cell) : Prop := (D.saved = none ∧ qs = [(ps, .lst [])]) ∨
  ∃ (S : Sav) (p : Addr) (N : Snap) (ss : List Cell), D.saved = some S ∧ StL p N ss ∧ N.ws = flat S.objs ∧ N.ns = srt (nums S.objs) ∧ N.rs = savW S ∧ qs = (ps, .lst [.ref p]) :: ss
theorem SavL.to {ps : Addr} {D D' : SpD} {qs : List Cell} (h : SavL ps D qs) (e : D'.saved = D.saved) : SavL ps D' qs := by
  unfold SavL
  rw [e]
  exact h
section
variable {P : Program} {w : World} {K : PySem.W.Frag} {mg : Str → Option Value} {base : Heap} {A : Ads}
theorem SavL.tru {ps : Addr} {D : SpD} {qs : List Cell} {H : Hp} (h : SavL ps D qs) (hh : Has qs H) : TruV K (.ref ps) H (decide (D.saved ≠ none)) := by
  rcases h with ⟨e, rfl⟩ | ⟨S, p, N, ss, e, _, _, _, _, rfl⟩
  · refine .inl ⟨[], SqL.of (hh (ps, .lst []) (by simp)), by rw [e]; simp⟩
  · refine .inl ⟨[.ref p], SqL.of (hh (ps, .lst [.ref p]) (by simp)), by rw [e]; simp⟩
def FirstK (A : Ads) (a lp : Addr) (F : List Addr) (H : Hp) (D : SpD) (x : Int) (Q : VK) : Prop := ∀ (told : List V) (D' : SpD) (H' : Hp) (cs' : List Cell) (ps' : Addr) (qs' : List Cell) (pt tp : Addr), DeedR D x told D' → SpR A.CT A.CS a D' cs' → SavL ps' D' qs' →
  Own A.T F H ((tp, .tup [.bl true, .ref ps', .ref pt]) :: (cs' ++ (qs' ++ [(pt, .lst told), (lp, .tup [.int D.room, .int D.entries])]))) H' → Q (.ref tp) H'
abbrev fiX (cs qs : List Cell) (lp : Addr) (D : SpD) : List Cell := cs ++ (qs ++ [(lp, .tup [.int D.room, .int D.entries])])
def spFirst (A : Ads) : Sp := fun vs H Q _ => ∃ (a lp ps : Addr) (x : Int) (D : SpD) (cs qs : List Cell), vs = [.ref a, .ref lp, .ref ps, .int x] ∧ SpR A.CT A.CS a D cs ∧ SavL ps D qs ∧ Own A.T (adr (fiX cs qs lp D)) H (fiX cs qs lp D) H ∧ RootsOk D ∧ D.held.length < 1000 ∧
  FirstK A a lp (adr (fiX cs qs lp D)) H D x Q
theorem ok_l_first (T : Txt P K mg A) (TB : TabB base mg A.cc A.tb) : Okd P w K mg base 13 A.l_first (spFirst A) := by
  refine okN T.f_l_first sc_l_first bh_l_first (fun vs H Q E h => ?_) (fun cdv Ar outer s0 H vs Q E hr h => ?_)
  · obtain ⟨_, _, _, _, _, _, _, rfl, _⟩ := h
    rfl
  · obtain ⟨a, lp, ps, x, D, cs, qs, rfl, hS, hV, W, hro, hhl, k⟩ := h
    have nd := sc_l_first.nd
    have hr1 := hr.mono (j := 1) (by decide)
    have hr2 := hr.mono (j := 2) (by decide)
    have hr5 := hr.mono (j := 5) (by decide)
    have hr6 := hr.mono (j := 6) (by decide)
    have hrH := L2H.roomH_of hr
    refine ⟨_, pss_cons (ps_set (i := 4) nd rfl (.inl rfl) (pe_op op_mod (pe_callTy call_int1 (by rfl) T.b_int (by decide +kernel) (pa_cons (pv 3) pa_nil)) pe_int))
      (pss_cons (ps_set (i := 5) nd rfl (.inl rfl) (pe_run ((ok_l_state T).runs hr2 passN0) T.g_l_state T.k_l_state (pa_cons (pv 0) pa_nil)))
      (pss_cons (ps_set (i := 6) nd rfl (.inl rfl) (pe_run ((ok_l_both T TB).runs hr passN0) T.g_l_both T.k_l_both (pa_cons (pv 0) (pa_cons (pv 3) pa_nil))))
      (pss_cons (ps_if (PW.pt (pw_and (pt_cmpR op_lt (pv 4) pe_int (nomark _)) (pw_and1 (PW.pt (pw_or (pt_truth (pv 2) (by intro _; rfl)) (pw_or1 (pt_cmpR op_gt (pv 4) pe_int (nomark _))))))))
        (pss_cons (ps_if (pt_cmpR op_lt (pv 4) pe_int (nomark _)) (pss_one (ps_ret (pe_tup (pa_cons (pe_run ((ok_l_grown T).runs hr6 passN0) T.g_l_grown T.k_l_grown (pa_cons (pv 0) (pa_cons (pv 1) (pa_cons (pv 5) (pa_cons (pv 3) (pa_cons (pv 6) pa_nil)))))) (pa_cons (pv 2) (pa_cons (pv 6) pa_nil)))))) pss_nil)
        (pss_one (ps_ret (pe_tup (pa_cons (pe_and (pe_cmpR op_eq (pe_fld (pv 0) rfl) (pe_ix ix_list (pe_ix ix_list (pv 5) pe_int (fun _ _ => rfl)) pe_int (fun _ _ => rfl)) (nomark _)) (pe_one (pe_cmpR op_eq (pe_fld (pv 0) rfl) (pe_ix ix_list (pe_ix ix_list (pv 5) pe_int (fun _ _ => rfl)) pe_int (fun _ _ => rfl)) (nomark _)))) (pa_cons (pv 2) (pa_cons (pv 6) pa_nil))))))) pss_nil)
      (pss_cons (ps_if (pt_cmpR op_lt (pv 4) pe_int (nomark _)) (pss_one (ps_ret (pe_tup (pa_cons pe_bl (pa_cons (pv 2) (pa_cons (pv 6) pa_nil)))))) pss_nil)
      (pss_cons (ps_if (PW.pt (pw_and (pt_truth (pv 2) (by intro _; rfl)) (pw_and1 (pt_cmpR op_lt (pv 4) pe_int (nomark _)))))
        (pss_one (ps_ret (pe_tup (pa_cons (pe_and (pe_run ((ok_l_equal T).runs hr1 passN0) T.g_l_equal T.k_l_equal (pa_cons (pv 6) (pa_cons (pe_lst (pa_cons pe_str (pa_cons pe_str pa_nil))) pa_nil))) (pe_one (pe_cmpR (op_eqD hr.units) (pe_run ((ok_l_state T).runs hr2 passN0) T.g_l_state T.k_l_state (pa_cons (pv 0) pa_nil)) (pv 5) (nomark _)))) (pa_cons (pv 2) (pa_cons (pv 6) pa_nil)))))) pss_nil)
      (pss_cons (ps_if (PW.pt (pw_and (pt_not (pt_truth (pv 2) (by intro _; rfl))) (pw_and1 (pt_cmpR op_gt (pv 4) pe_int (nomark _)))))
        (pss_one (ps_ret (pe_tup (pa_cons (pe_and (pe_run ((ok_l_equal T).runs hr1 passN0) T.g_l_equal T.k_l_equal (pa_cons (pv 6) (pa_cons (pe_lst (pa_cons pe_str (pa_cons pe_str pa_nil))) pa_nil))) (pe_one (pe_cmpR (op_eqD hr.units) (pe_run ((ok_l_state T).runs hr2 passN0) T.g_l_state T.k_l_state (pa_cons (pv 0) pa_nil)) (pv 5) (nomark _)))) (pa_cons (pv 2) (pa_cons (pv 6) pa_nil)))))) pss_nil)
      (pss_cons (ps_if (pt_cmpR op_eq (pv 4) pe_int (nomark _))
        (pss_one (ps_ret (pe_tup (pa_cons (pe_and (pe_cmpR op_eq (pe_ix ix_list (pv 6) pe_int (fun _ _ => rfl)) pe_str (nomark _)) (pe_one (pe_cmpR op_eq (pe_callB call_len_seq (by rfl) T.b_len PySem.boot_len (pa_cons (pe_fld (pe_fld (pv 0) rfl) rfl) pa_nil)) (pe_mrun0 (pv 0) T.clS T.m_p_live ((ok_p_live T).runs hr5 passN0)) (nomark _)))) (pa_cons (pv 2) (pa_cons (pv 6) pa_nil)))))) pss_nil)
      (pss_cons (ps_if (pt_cmpR op_lt (pv 4) pe_int (nomark _))
        (pss_one (ps_ret (pe_tup (pa_cons (pe_run ((ok_l_begun T).runs hr6 passN0) T.g_l_begun T.k_l_begun (pa_cons (pv 0) (pa_cons (pv 5) (pa_cons (pv 6) pa_nil)))) (pa_cons (pe_lst (pa_cons (pe_run ((ok_l_state T).runs hr2 passN0) T.g_l_state T.k_l_state (pa_cons (pv 0) pa_nil)) pa_nil)) (pa_cons (pv 6) pa_nil)))))) pss_nil)
      (pss_cons (ps_if (pt_cmpR op_eq (pv 4) pe_int (nomark _))
        (pss_one (ps_ret (pe_tup (pa_cons (pe_and (pe_run ((ok_l_equal T).runs hr1 passN0) T.g_l_equal T.k_l_equal (pa_cons (pv 6) (pa_cons (pe_lst (pa_cons pe_str (pa_cons pe_int pa_nil))) pa_nil))) (pe_one (pe_cmpR (op_eqD hr.units) (pe_run ((ok_l_state T).runs hr2 passN0) T.g_l_state T.k_l_state (pa_cons (pv 0) pa_nil)) (pv 5) (nomark _)))) (pa_cons (pe_lst pa_nil) (pa_cons (pv 6) pa_nil)))))) pss_nil)
      (pss_cons (ps_set (i := 7) nd rfl (.inl rfl) (pe_lst (pa_cons (pe_ix ix_list (pe_ix ix_list (pv 2) pe_int (fun _ _ => rfl)) pe_int (fun _ _ => rfl)) (pa_cons (pe_ix ix_list (pe_ix ix_list (pv 2) pe_int (fun _ _ => rfl)) pe_int (fun _ _ => rfl)) (pa_cons (pe_ix ix_list (pe_ix ix_list (pv 2) pe_int (fun _ _ => rfl)) pe_int (fun _ _ => rfl)) (pa_cons (pe_ix ix_list (pv 5) pe_int (fun _ _ => rfl)) pa_nil))))))
      (pss_one (ps_ret (pe_tup (pa_cons (pe_and (pe_run ((ok_l_equal T).runs hr1 passN0) T.g_l_equal T.k_l_equal (pa_cons (pv 6) (pa_cons (pe_lst (pa_cons pe_str (pa_cons (pv 4) pa_nil))) pa_nil))) (pe_one (pe_cmpR (op_eqD hr.units) (pe_run ((ok_l_state T).runs hr2 passN0) T.g_l_state T.k_l_state (pa_cons (pv 0) pa_nil)) (pv 7) (nomark _)))) (pa_cons (pe_lst pa_nil) (pa_cons (pv 6) pa_nil)))))))))))))))), ?_⟩
    refine ⟨_, rfl, .inl ⟨_, rfl, _, _, rfl, rfl, (by show (0 : Int) < 20; decide), ?_⟩⟩
    have hO : StOk D.room D.entries D.objs := by
      obtain ⟨_, _, _, _, _, _, _, _, _, _, hSt, h5, _⟩ := hS.store W.left.has
      obtain ⟨_, _, _, _, _, _, _, hO, _⟩ := hSt.open h5
      exact hO
    refine ⟨_, rfl, a, D, cs, rfl, hS, W.left.has, W.tb, fun H1 pb bs hB R1 => ?_⟩
    have W1 := W.call0 R1
    refine ⟨_, rfl, _, rfl, a, x, D, cs, rfl, hS, W1.right.left.start, hro, hhl, fun told D' H2 cs' pt hD hS' R2 => ?_⟩
    have W2 := W1.mid R2
    -- what is told at last
    have fin : ∀ (H3 : Hp) (Z : List Cell) (ps' : Addr) (qs' : List Cell) (p : Addr), SavL ps' D' qs' → Own A.T (adr (fiX cs qs lp D)) H (Z ++ (cs' ++ (qs' ++ [(pt, .lst told), (lp, .tup [.int D.room, .int D.entries])]))) H3 → H3 p = none → Q (.ref p) (upd H3 p (.tup [.bl true, .ref ps', .ref pt])) :=
      fun H3 Z ps' qs' p hq W3 hp => k told D' _ cs' ps' qs' pt p hD hS' hq (W3.right.new hp)
    have W3 : Own A.T (adr (fiX cs qs lp D)) H (bs ++ (cs' ++ (qs ++ [(pt, .lst told), (lp, .tup [.int D.room, .int D.entries])]))) H2 := W2.perm (pm7 bs [(pt, .lst told)] cs' qs [(lp, .tup [.int D.room, .int D.entries])])
    obtain ⟨w2, n2, r2, c2, rfl⟩ := hB.cut
    obtain ⟨g1, g2, g3, g4, g5⟩ := stC_at W3.left.has
    obtain ⟨dx, s, pr, rt, hd, sv, h1⟩ := hS'.ins W3.right.left.has
    refine ⟨_, rfl, _, _, rfl, rfl, _, rfl, ?_⟩
    by_cases h14 : x % 20 < 14
    · refine itT (decide_eq_true h14) ?_
      obtain ⟨es, er, ee⟩ := hD.saved h14
      have hV' : SavL ps D' qs := hV.to es
      refine ⟨_, rfl, _, hV.tru W3.right.right.left.has, ?_⟩
      by_cases h4 : x % 20 < 4
      · by_cases hs : D.saved = none
        · refine itF (by simp [hs]) ?_
          refine ⟨_, rfl, _, _, rfl, rfl, _, rfl, ?_⟩
          refine itF (decide_eq_false (by omega)) ?_
          refine ⟨_, rfl, _, _, rfl, rfl, _, rfl, ?_⟩
          refine itT (decide_eq_true h14) ?_
          refine ⟨_, rfl, _, rfl, (by show 3 ≤ sizeLine; rw [sizeLine_eq]; decide), fun p hp => fin _ _ _ _ p hV' W3 hp⟩
        · refine itT (decide_eq_true hs) ?_
          refine itT rfl ?_
          refine ⟨_, rfl, _, _, rfl, rfl, _, rfl, ?_⟩
          refine itT (decide_eq_true h4) ?_
          have W4 := W3.perm (pm8 (stC pb w2 n2 r2 c2 (snapOf D)) cs' qs [(pt, .lst told), (lp, .tup [.int D.room, .int D.entries])])
          refine ⟨_, rfl, _, rfl, _, rfl, _, rfl, _, rfl, a, lp, pb, pt, x, D, D', cs', _, told, rfl, hS', hB, W4.left.start, hO.nd, hD.grow h4 hs, fun H3 R3 => ?_⟩
          have W5 := (W4.call R3).perm (pm8 (stC pb w2 n2 r2 c2 (snapOf D)) cs' qs [(pt, .lst told), (lp, .tup [.int D.room, .int D.entries])]).symm
          refine ⟨_, rfl, _, rfl, (by show 3 ≤ sizeLine; rw [sizeLine_eq]; decide), fun p hp => fin _ _ _ _ p hV' W5 hp⟩
      · obtain ⟨ea, ec, _⟩ := hD.quiet h4 h14
        have last : L2.tRet (tTup (tCons (tAndV (tOp rEq (tFld K (tVar 0) "collections") (tOp (rIxL K) (tOp (rIxL K) (tVar 5) (tC (.int 3))) (tC (.int 1)))) (tOp rEq (tFld K (tVar 0) "allocations") (tOp (rIxL K) (tOp (rIxL K) (tVar 5) (tC (.int 3))) (tC (.int 0))))) (tCons (tVar 2) (tCons (tVar 6) tNil)))) { nx := fun _ H' => Q .non H', rt := Q } [some (.ref a), some (.ref lp), some (.ref ps), some (.int x), some (.int (x % 20)), some (.ref pb), some (.ref pt), none] H2 := by
          refine ⟨_, rfl, a, _, dx, _, _, rfl, h1, T.clS, T.nS_collections, spF_collections, _, rfl, pb, _, _, _, rfl, rfl, SqL.of g1, at3, c2, _, _, _, rfl, rfl, SqL.of g5, at1, rfl, _, rfl, ?_⟩
          refine itT (by rw [K9.dec_int]; exact decide_eq_true ec) ?_
          refine ⟨_, rfl, a, _, dx, _, _, rfl, h1, T.clS, T.nS_allocations, spF_allocations, _, rfl, pb, _, _, _, rfl, rfl, SqL.of g1, at3, c2, _, _, _, rfl, rfl, SqL.of g5, at0, rfl, ?_⟩
          rw [K9.dec_int, decide_eq_true (show D'.allocs = (snapOf D).al from ea)]
          refine ⟨_, rfl, _, rfl, (by show 3 ≤ sizeLine; rw [sizeLine_eq]; decide), fun p hp => fin _ _ _ _ p hV' W3 hp⟩
        by_cases hs : D.saved = none
        · refine itF (by simp [hs]) ?_
          refine ⟨_, rfl, _, _, rfl, rfl, _, rfl, ?_⟩
          refine itT (decide_eq_true (by omega)) ?_
          refine ⟨_, rfl, _, _, rfl, rfl, _, rfl, ?_⟩
          refine itF (decide_eq_false h4) ?_
          exact last
        · refine itT (decide_eq_true hs) ?_
          refine itT rfl ?_
          refine ⟨_, rfl, _, _, rfl, rfl, _, rfl, ?_⟩
          refine itF (decide_eq_false h4) ?_
          exact last
    refine itF (decide_eq_false h14) ?_
    refine itF rfl ?_
    refine ⟨_, rfl, _, _, rfl, rfl, _, rfl, ?_⟩
    refine itF (decide_eq_false h14) ?_
    -- equal to what is told; the state is as it was
    have wrong : ∀ why : Str, told = [.str "wrong", .str why] → D' = D → L2.tRet (tTup (tCons (tAndV (tCallS spEqual E0S (tCons (tVar 6) (tCons (tLst (tCons (tC (.str "wrong")) (tCons (tC (.str why)) tNil))) tNil))) (tOp (rEqD K) (tCallS (spState A) E0S (tCons (tVar 0) tNil)) (tVar 5))) (tCons (tVar 2) (tCons (tVar 6) tNil)))) { nx := fun _ H' => Q .non H', rt := Q } [some (.ref a), some (.ref lp), some (.ref ps), some (.int x), some (.int (x % 20)), some (.ref pb), some (.ref pt), none] H2 := by
      intro why ht hd'
      have isw : ∀ z ∈ ([.str "wrong", .str why] : List V), isIS z := fun z hz => by
        simp only [List.mem_cons, List.not_mem_nil, or_false] at hz
        rcases hz with rfl | rfl <;> trivial
      refine ⟨_, rfl, (by show 2 ≤ sizeLine; rw [sizeLine_eq]; decide), fun m hm => ?_⟩
      have W4 := W3.new (o := .lst [.str "wrong", .str why]) hm
      refine ⟨pt, m, _, _, rfl, W4.tail.right.right.right.is (pt, .lst told) (by simp), W4.get 0 rfl, by rw [ht]; exact isw, isw, (by show 2 ≤ 1000; decide), _, rfl, ?_⟩
      refine itT (decide_eq_true ht) ?_
      refine ⟨_, rfl, a, D', cs', rfl, hS', W4.tail.right.left.has, W4.tb, fun H3 pa as hA R4 => ?_⟩
      have W5 := W4.tail.call0 R4
      refine ⟨_, rfl, snD (snapOf D'), snD (snapOf D), hA.dp W5.left.has, hB.dp W5.right.left.has, lL_sh _, lL_sh _, ?_⟩
      rw [hd', eqv_same (snD_sh _)]
      refine ⟨_, rfl, _, rfl, (by show 3 ≤ sizeLine; rw [sizeLine_eq]; decide), fun p hp => fin _ _ _ _ p (hV.to (by rw [hd'])) W5.right hp⟩
    refine ⟨_, rfl, _, hV.tru W3.right.right.left.has, ?_⟩
    by_cases hs : D.saved = none
    · refine itF (by simp [hs]) ?_
      refine itF rfl ?_
      refine ⟨_, rfl, _, hV.tru W3.right.right.left.has, ?_⟩
      rw [decide_eq_false (fun z => z hs)]
      refine itT rfl ?_
      refine ⟨_, rfl, _, _, rfl, rfl, _, rfl, ?_⟩
      by_cases h16 : 16 < x % 20
      · refine itT (decide_eq_true h16) ?_
        have hw := hD.work (by omega)
        unfold workF at hw
        rw [hs] at hw
        dsimp only at hw
        rw [if_pos h16] at hw
        injection hw with e1 e2
        exact wrong "closed" e1 e2
      refine itF (decide_eq_false h16) ?_
      refine ⟨_, rfl, rfl, _, rfl, ?_⟩
      rw [K9.dec_int]
      by_cases hc : x % 20 = 14
      · refine itT (decide_eq_true hc) ?_
        have hw := hD.coll hc
        unfold collF at hw
        rw [hs] at hw
        dsimp only at hw
        injection hw with e1 e2
        have ft := W3.right.right.right.is (pt, .lst told) (by simp)
        rw [e1] at ft
        obtain ⟨dx9, s9, pr9, rt9, hd9, sv9, c9, fs9, dxs9, q1, hSt9, q5, _, _⟩ := hS'.store W3.right.left.has
        obtain ⟨dxt, wd, pl, kvs, least, _, _, _, _, q2, q3, q4⟩ := hSt9.open q5
        refine ⟨_, rfl, pt, _, _, _, rfl, rfl, SqL.of ft, at0, rfl, _, rfl, ?_⟩
        refine itT (decide_eq_true rfl) ?_
        refine ⟨_, rfl, a, _, dx9, _, _, rfl, q1, T.clS, T.nS_store, spF_store, s9, _, dxt, _, _, rfl, q2, T.clT, T.nT_words, stF_words, wd, _, rfl, .inl (SqL.of q3), _, rfl, a, dx9, _, rfl, q1, spF_none (by decide +kernel), a, D', cs', rfl, hS', W3.right.left.start, fun H3 R3 => ?_⟩
        have W4 := W3.mid R3
        refine ⟨rfl, ?_⟩
        have elen : ((List.map V.int (flat D'.objs)).length : Int) = ((tot (kept D'.objs (allW D')) : Nat) : Int) := by
          rw [flat_len, e2, coll_tot]
        rw [K9.dec_int, decide_eq_true elen]
        refine ⟨_, rfl, _, rfl, (by show 3 ≤ sizeLine; rw [sizeLine_eq]; decide), fun p hp => fin _ _ _ _ p (hV.to (by rw [e2]; rfl)) W4 hp⟩
      refine itF (decide_eq_false hc) ?_
      refine ⟨_, rfl, _, _, rfl, rfl, _, rfl, ?_⟩
      refine itT (decide_eq_true (by omega)) ?_
      have hw := hD.work (by omega)
      unfold workF at hw
      rw [hs] at hw
      dsimp only at hw
      rw [if_neg h16] at hw
      injection hw with e1 e2
      have W4 := W3.perm (pm9 (stC pb w2 n2 r2 c2 (snapOf D)) cs' qs [(pt, .lst told)] [(lp, .tup [.int D.room, .int D.entries])])
      have W4' : Own A.T (adr (cs' ++ (stC pb w2 n2 r2 c2 (snapOf D) ++ [(pt, .lst told)]))) H2 (cs' ++ (stC pb w2 n2 r2 c2 (snapOf D) ++ [(pt, .lst told)])) H2 := W4.left.start
      rw [e1] at W4'
      refine ⟨_, rfl, _, rfl, _, rfl, a, pb, pt, D', snapOf D, cs', _, x % 20, rfl, hS', hB, W4', by omega, by rw [e2]; rfl, by rw [e2]; rfl, by rw [e2]; rfl, by rw [e2]; exact coll_tot D, fun H3 R3 => ?_⟩
      rw [← e1] at R3
      have W5 := (W4.call R3).perm (pm9 (stC pb w2 n2 r2 c2 (snapOf D)) cs' qs [(pt, .lst told)] [(lp, .tup [.int D.room, .int D.entries])]).symm
      refine ⟨_, rfl, a, D', cs', rfl, hS', W5.right.left.has, W5.tb, fun H4 pn ns hN R4 => ?_⟩
      have W6 := W5.call0 R4
      refine ⟨(by show 1 ≤ sizeLine; rw [sizeLine_eq]; decide), fun l hl => ?_⟩
      have W7 := (W6.new (o := .lst [.ref pn]) hl).perm (pm10 [(l, .lst [.ref pn])] ns (stC pb w2 n2 r2 c2 (snapOf D)) cs' qs ([(pt, .lst told)] ++ [(lp, .tup [.int D.room, .int D.entries])]))
      have hq : SavL l D' ([(l, .lst [.ref pn])] ++ ns) := .inr ⟨⟨(collD D 0).objs, D.roots, D.held⟩, pn, snapOf D', ns, by rw [e2]; rfl, hN, by rw [e2]; rfl, by rw [e2]; rfl, by rw [e2]; rfl, rfl⟩
      refine ⟨_, rfl, (by show 3 ≤ sizeLine; rw [sizeLine_eq]; decide), fun p hp => fin _ _ _ _ p hq W7 hp⟩
    · refine itT (decide_eq_true hs) ?_
      obtain ⟨S, hS0⟩ : ∃ S, D.saved = some S := by
        cases e : D.saved with
        | none => exact absurd e hs
        | some S => exact ⟨S, rfl⟩
      refine ⟨_, rfl, _, _, rfl, rfl, _, rfl, ?_⟩
      by_cases h17 : x % 20 < 17
      · refine itT (decide_eq_true h17) ?_
        by_cases hc : x % 20 = 14
        · have hw := hD.coll hc
          unfold collF at hw
          rw [hS0] at hw
          dsimp only at hw
          injection hw with e1 e2
          exact wrong "open" e1 e2
        · have hw := hD.work (by omega)
          unfold workF at hw
          rw [hS0] at hw
          dsimp only at hw
          rw [if_neg (by omega), if_neg (by omega)] at hw
          injection hw with e1 e2
          exact wrong "open" e1 e2
      refine itF (decide_eq_false h17) ?_
      refine ⟨_, rfl, _, hV.tru W3.right.right.left.has, ?_⟩
      rw [decide_eq_true hs]
      refine itF rfl ?_
      refine itF rfl ?_
      refine ⟨_, rfl, rfl, _, rfl, ?_⟩
      refine itF (by rw [K9.dec_int]; exact decide_eq_false (by omega)) ?_
      refine ⟨_, rfl, _, _, rfl, rfl, _, rfl, ?_⟩
      refine itF (decide_eq_false h17) ?_
      refine ⟨_, rfl, rfl, _, rfl, ?_⟩
      rw [K9.dec_int]
      have hw := hD.work (by omega)
      unfold workF at hw
      rw [hS0] at hw
      dsimp only at hw
      by_cases hc : x % 20 = 17
      · refine itT (decide_eq_true hc) ?_
        rw [if_pos hc] at hw
        injection hw with e1 e2
        rw [hc] at e1
        refine ⟨_, rfl, (by show 2 ≤ sizeLine; rw [sizeLine_eq]; decide), fun m hm => ?_⟩
        have W4 := W3.new (o := .lst [.str "work", .int 17]) hm
        refine ⟨pt, m, _, _, rfl, W4.tail.right.right.right.is (pt, .lst told) (by simp), W4.get 0 rfl, by rw [e1]; exact is2 _ _, is2 _ _, (by show 2 ≤ 1000; decide), _, rfl, ?_⟩
        refine itT (decide_eq_true e1) ?_
        refine ⟨_, rfl, a, D', cs', rfl, hS', W4.tail.right.left.has, W4.tb, fun H3 pa as hA R4 => ?_⟩
        have W5 := W4.tail.call0 R4
        refine ⟨_, rfl, snD (snapOf D'), snD (snapOf D), hA.dp W5.left.has, hB.dp W5.right.left.has, lL_sh _, lL_sh _, ?_⟩
        rw [show snapOf D' = snapOf D by rw [e2]; rfl, eqv_same (snD_sh _)]
        refine ⟨Nat.zero_le _, fun l hl => ?_⟩
        have W6 := (W5.right.new (o := .lst []) hl).perm (pm11 [(l, .lst [])] (stC pb w2 n2 r2 c2 (snapOf D)) cs' qs ([(pt, .lst told)] ++ [(lp, .tup [.int D.room, .int D.entries])]))
        have hq : SavL l D' [(l, .lst [])] := .inl ⟨by rw [e2], rfl⟩
        refine ⟨_, rfl, (by show 3 ≤ sizeLine; rw [sizeLine_eq]; decide), fun p hp => fin _ _ _ _ p hq W6 hp⟩
      refine itF (decide_eq_false hc) ?_
      rw [if_neg hc, if_pos (by omega)] at hw
      injection hw with e1 e2
      rcases hV with ⟨z, _⟩ | ⟨S', p0, N, ss, e0, hN, en1, en2, en3, rfl⟩
      · exact absurd z hs
      obtain rfl : S = S' := Option.some.inj (hS0.symm.trans e0)
      obtain ⟨w3, n3, r3, c3, rfl⟩ := hN.cut
      have q0 := W3.right.right.is (ps, .lst [.ref p0]) (by simp)
      obtain ⟨k1, k2, k3, k4, k5⟩ := stC_at (W3.right.right.left.tail.has)
      refine ⟨_, rfl, ps, _, _, _, rfl, rfl, SqL.of q0, at0, p0, _, _, _, rfl, rfl, SqL.of k1, at0, _, rfl, ps, _, _, _, rfl, rfl, SqL.of q0, at0, p0, _, _, _, rfl, rfl, SqL.of k1, at1, _, rfl, ps, _, _, _, rfl, rfl, SqL.of q0, at0, p0, _, _, _, rfl, rfl, SqL.of k1, at2, _, rfl, pb, _, _, _, rfl, rfl, SqL.of g1, at3, (by show 4 ≤ sizeLine; rw [sizeLine_eq]; decide), fun u hu => ?_⟩
      have W4 := W3.new (o := .lst [.ref w3, .ref n3, .ref r3, .ref c2]) hu
      refine ⟨_, rfl, _, rfl, (by show 2 ≤ sizeLine; rw [sizeLine_eq]; decide), fun m hm => ?_⟩
      have W5 := W4.new (o := .lst [.str "work", .int (x % 20)]) hm
      refine ⟨pt, m, _, _, rfl, W5.tail.tail.right.right.right.is (pt, .lst told) (by simp), W5.get 0 rfl, by rw [e1]; exact is2 _ _, is2 _ _, (by show 2 ≤ 1000; decide), _, rfl, ?_⟩
      refine itT (decide_eq_true e1) ?_
      refine ⟨_, rfl, a, D', cs', rfl, hS', W5.tail.tail.right.left.has, W5.tb, fun H3 pa as hA R4 => ?_⟩
      have W6 := W5.call0 R4
      obtain ⟨k1, k2, k3, k4, k5⟩ := stC_at (W6.right.tail.tail.right.right.left.tail.has)
      obtain ⟨g1, g2, g3, g4, g5⟩ := stC_at W6.right.tail.tail.left.has
      have hk : Dp K H3 (.ref u) (lL [N.ws, N.ns, N.rs, [D.allocs, D.colls]]) := .lst (SqL.of (W6.right.get 1 rfl)) (.cons (dp_iL k2) (.cons (dp_iL k3) (.cons (dp_iL k4) (.cons (dp_iL g5) .nil))))
      have ek : lL [N.ws, N.ns, N.rs, [D.allocs, D.colls]] = snD (snapOf D') := by rw [en1, en2, en3, e2]; rfl
      rw [ek] at hk
      refine ⟨_, rfl, snD (snapOf D'), snD (snapOf D'), hA.dp W6.left.has, hk, lL_sh _, lL_sh _, ?_⟩
      rw [eqv_same (snD_sh _)]
      refine ⟨Nat.zero_le _, fun l hl => ?_⟩
      have W7 := (W6.right.tail.tail.new (o := .lst []) hl).perm (pm11 [(l, .lst [])] (stC pb w2 n2 r2 c2 (snapOf D)) cs' ((ps, .lst [.ref p0]) :: stC p0 w3 n3 r3 c3 N) ([(pt, .lst told)] ++ [(lp, .tup [.int D.room, .int D.entries])]))
      have hq : SavL l D' [(l, .lst [])] := .inl ⟨by rw [e2]; rfl, rfl⟩
      refine ⟨_, rfl, (by show 3 ≤ sizeLine; rw [sizeLine_eq]; decide), fun p hp => fin _ _ _ _ p hq W7 hp⟩
end
end K9
end
section
set_option Elab.async false
set_option linter.all false
set_option maxRecDepth 100000
set_option maxHeartbeats 4000000
/-! Which deeds are undone, plain. -/
namespace K9
def nxtS (s : Option Nat) (k : Nat) (c : Int) : Option Nat :=
  match s with
  | none => if 14 < c ∧ c < 17 then some k else none
  | some s => if 16 < c then none else some s
def opS (c : Nat → Int) : Nat → Option Nat
  | 0 => none
  | k + 1 => nxtS (opS c k) k (c k)
def flN (f : Nat → Bool) (s : Option Nat) (k : Nat) (c : Int) (j : Nat) : Bool :=
  match s with
  | some s => if 17 < c ∧ s ≤ j ∧ j ≤ k then true else f j
  | none => f j
def flS (c : Nat → Int) : Nat → Nat → Bool
  | 0 => fun _ => false
  | k + 1 => flN (flS c k) (opS c k) k (c k)
structure FlOk (c : Nat → Int) (i : Nat) : Prop where
  q1 : ∀ j, i ≤ j → flS c i j = false
  q3 : ∀ s, opS c i = some s → s < i ∧ opS c s = none ∧ (14 < c s ∧ c s < 17) ∧ (∀ j, s ≤ j → j < i → flS c i j = false) ∧ ∀ j, s < j → j < i → opS c j = some s ∧ ¬ 16 < c j
  q2 : ∀ j, j < i → opS c j = none → ¬ (14 < c j ∧ c j < 17) → flS c i j = false
  q5 : ∀ j s, j < i → opS c j = some s → s < j ∧ flS c i j = flS c i s ∧ (c j = 17 → flS c i j = false) ∧ (17 < c j → flS c i j = true)
theorem flOk (c : Nat → Int) : ∀ i, FlOk c i
  | 0 => ⟨fun _ _ => rfl, fun s h => (by cases h), fun j h => absurd h (Nat.not_lt_zero _), fun j s h => absurd h (Nat.not_lt_zero _)⟩
  | i + 1 => by
    have I := flOk c i
    cases e : opS c i with
    | none =>
      have ef : flS c (i + 1) = flS c i := by
        show flN (flS c i) (opS c i) i (c i) = _
        rw [e]; rfl
      have eo : opS c (i + 1) = if 14 < c i ∧ c i < 17 then some i else none := by
        show nxtS (opS c i) i (c i) = _
        rw [e]; rfl
      refine ⟨fun j hj => by rw [ef]; exact I.q1 j (by omega), fun s hs => ?_, fun j hj h1 h2 => ?_, fun j s hj h1 => ?_⟩
      · rw [eo] at hs
        split at hs
        · rename_i hc
          have hs : i = s := Option.some.inj hs
          subst hs
          refine ⟨by omega, e, hc, fun j h1 h2 => by rw [ef]; exact I.q1 j h1, fun j h1 h2 => absurd h1 (by omega)⟩
        · cases hs
      · rw [ef]
        by_cases hji : j = i
        · exact I.q1 j (by omega)
        · exact I.q2 j (by omega) h1 h2
      · rw [ef]
        have hji : j ≠ i := fun z => by rw [z, e] at h1; cases h1
        exact I.q5 j s (by omega) h1
    | some s0 =>
      obtain ⟨a1, a2, a3, a4, a5⟩ := I.q3 s0 e
      have eo : opS c (i + 1) = if 16 < c i then none else some s0 := by
        show nxtS (opS c i) i (c i) = _
        rw [e]; rfl
      by_cases hc : 17 < c i
      · have ef : ∀ j, flS c (i + 1) j = if s0 ≤ j ∧ j ≤ i then true else flS c i j := fun j => by
          show flN (flS c i) (opS c i) i (c i) j = _
          rw [e]
          show (if 17 < c i ∧ s0 ≤ j ∧ j ≤ i then true else flS c i j) = _
          by_cases hj : s0 ≤ j ∧ j ≤ i
          · rw [if_pos ⟨hc, hj⟩, if_pos hj]
          · rw [if_neg (fun z => hj z.2), if_neg hj]
        refine ⟨fun j hj => by rw [ef, if_neg (by omega)]; exact I.q1 j (by omega), fun s hs => ?_, fun j hj h1 h2 => ?_, fun j s hj h1 => ?_⟩
        · rw [eo, if_pos (by omega)] at hs
          cases hs
        · have hji : j ≠ i := fun z => by rw [z, e] at h1; cases h1
          have hs0 : ¬ (s0 ≤ j) := fun z => by
            by_cases q : j = s0
            · exact h2 (by rw [q]; exact a3)
            · have := (a5 j (by omega) (by omega)).1
              rw [h1] at this
              cases this
          rw [ef, if_neg (fun z => hs0 z.1)]
          exact I.q2 j (by omega) h1 h2
        · by_cases hji : j = i
          · subst hji
            rw [e] at h1
            have h1 : s0 = s := Option.some.inj h1
            subst h1
            rw [ef, ef, if_pos (by omega), if_pos (by omega)]
            exact ⟨a1, rfl, fun z => by omega, fun _ => rfl⟩
          · obtain ⟨b1, b2, b3, b4⟩ := I.q5 j s (by omega) h1
            by_cases hin : s0 < j
            · obtain ⟨d1, d2⟩ := a5 j hin (by omega)
              rw [h1] at d1
              have d1 : s = s0 := Option.some.inj d1
              subst d1
              rw [ef, ef, if_pos (by omega), if_pos (by omega)]
              exact ⟨b1, rfl, fun z => by omega, fun _ => rfl⟩
            · have hne : j ≠ s0 := fun z => by rw [z, a2] at h1; cases h1
              rw [ef, ef, if_neg (by omega), if_neg (by omega)]
              exact ⟨b1, b2, b3, b4⟩
      · have ef : flS c (i + 1) = flS c i := funext fun j => by
          show flN (flS c i) (opS c i) i (c i) j = _
          rw [e]
          exact if_neg (fun z => hc z.1)
        refine ⟨fun j hj => by rw [ef]; exact I.q1 j (by omega), fun s hs => ?_, fun j hj h1 h2 => ?_, fun j s hj h1 => ?_⟩
        · rw [eo] at hs
          split at hs
          · cases hs
          · rename_i h16
            have hs : s0 = s := Option.some.inj hs
            subst hs
            refine ⟨by omega, a2, a3, fun j h1 h2 => ?_, fun j h1 h2 => ?_⟩
            · rw [ef]
              by_cases q : j = i
              · exact I.q1 j (by omega)
              · exact a4 j h1 (by omega)
            · by_cases q : j = i
              · rw [q]; exact ⟨e, h16⟩
              · exact a5 j h1 (by omega)
        · rw [ef]
          by_cases hji : j = i
          · exact I.q1 j (by omega)
          · exact I.q2 j (by omega) h1 h2
        · rw [ef]
          by_cases hji : j = i
          · subst hji
            rw [e] at h1
            have h1 : s0 = s := Option.some.inj h1
            subst h1
            rw [I.q1 j (Nat.le_refl _), a4 s0 (Nat.le_refl _) a1]
            exact ⟨a1, rfl, fun _ => rfl, fun z => absurd z hc⟩
          · exact I.q5 j s (by omega) h1
end K9
end
section
set_option Elab.async false
set_option linter.all false
set_option maxRecDepth 100000
set_option maxHeartbeats 4000000
/-! The law's defs: undone. -/
namespace K9
open PySem PySem.Spec PyProof.Rows L2 LamX
def cf (xs : List Int) (k : Nat) : Int := xs.getD k 0 % 20
def flL (n : Nat) (f : Nat → Bool) : List V := (List.range n).map fun j => V.bl (f j)
theorem flL_len (n : Nat) (f : Nat → Bool) : (flL n f).length = n := by unfold flL; simp
theorem flL_get {n : Nat} {f : Nat → Bool} {j : Nat} (h : j < n) : (flL n f)[j]? = some (V.bl (f j)) := by unfold flL; simp [h]
theorem flL_set {n : Nat} {f : Nat → Bool} {i : Nat} : (flL n f).set i (V.bl true) = flL n fun j => if j = i then true else f j := by
  refine List.ext_getElem? fun j => ?_
  rw [List.getElem?_set]
  by_cases hj : j < n
  · rw [flL_get hj, flL_get hj, flL_len]
    by_cases e : i = j
    · subst e
      simp [hj]
    · rw [if_neg e, if_neg (fun z => e z.symm)]
  · have h1 : ∀ g, (flL n g)[j]? = none := fun g => List.getElem?_eq_none (by rw [flL_len]; omega)
    rw [h1, h1, flL_len]
    by_cases e : i = j
    · subst e; simp [hj]
    · rw [if_neg e]
theorem flL_rep (n : Nat) : (List.replicate n [V.bl false]).flatten = flL n fun _ => false := by
  unfold flL
  rw [repeat_one]
  refine List.ext_getElem? fun j => ?_
  by_cases hj : j < n
  · simp [hj]
  · simp [hj]
def stI : Option Nat → Int
  | none => -1
  | some s => (s : Int)
section
variable {P : Program} {w : World} {K : PySem.W.Frag} {mg : Str → Option Value} {base : Heap} {A : Ads}
def spUndone (A : Ads) : Sp := fun vs H Q _ => ∃ (pd : Addr) (xs : List Int), vs = [.ref pd] ∧ H pd = some (.lst (xs.map V.int)) ∧ xs.length ≤ 1000 ∧ Tabs A.T H ∧ ∀ (H' : Hp) (p : Addr), Own A.T [] H [(p, .lst (flL xs.length (flS (cf xs) xs.length)))] H' → Q (.ref p) H'
theorem ok_l_undone (T : Txt P K mg A) : Okd P w K mg base 1 A.l_undone (spUndone A) := by
  refine okN T.f_l_undone sc_l_undone bh_l_undone (fun vs H Q E h => ?_) (fun cdv Ar outer s0 H vs Q E hr h => ?_)
  · obtain ⟨_, _, rfl, _⟩ := h
    rfl
  · obtain ⟨pd, xs, rfl, hp, hl, ht, k⟩ := h
    have nd := sc_l_undone.nd
    refine ⟨_, pss_cons (ps_set (i := 1) nd rfl (.inl rfl) (pe_op op_rep (pe_lst (pa_cons pe_bl pa_nil)) (pe_callB call_len_seq (by rfl) T.b_len PySem.boot_len (pa_cons (pv 0) pa_nil))))
      (pss_cons (ps_set (i := 2) nd rfl (.inl rfl) (pe_un un_neg pe_int))
      (pss_cons (ps_for PassesOwn.never rfl (pi_range1 rfl T.b_range (pa_cons (pe_callB call_len_seq (by rfl) T.b_len PySem.boot_len (pa_cons (pv 0) pa_nil)) pa_nil)) (pg_name (i := 3) nd rfl (.inl rfl))
        (pss_cons (ps_set (i := 4) nd rfl (.inl rfl) (pe_op op_mod (pe_callTy call_int1 (by rfl) T.b_int (by decide +kernel) (pa_cons (pe_ix ix_list (pv 0) (pv 3) (fun _ _ => rfl)) pa_nil)) pe_int))
        (pss_one (ps_if (PW.pt (pw_and (pt_cmpR op_lt (pv 2) pe_int (nomark _)) (pw_and1 (pt_chain op_lt op_lt pe_int (pv 4) pe_int))))
          (pss_one (ps_set (i := 2) nd rfl (.inl rfl) (pv 3)))
          (pss_one (ps_if (PW.pt (pw_and (pt_cmpR op_ge (pv 2) pe_int (nomark _)) (pw_and1 (pt_cmpR op_gt (pv 4) pe_int (nomark _)))))
            (pss_cons (ps_if (pt_cmpR op_gt (pv 4) pe_int (nomark _))
              (pss_one (ps_for PassesOwn.never rfl (pi_range2 rfl T.b_range (pa_cons (pv 2) (pa_cons (pe_op op_add (pv 3) pe_int) pa_nil))) (pg_name (i := 5) nd rfl (.inl rfl)) (pss_one (ps_asg pe_bl (pg_sub (pv 1) (pv 5) set_list))))) pss_nil)
            (pss_one (ps_set (i := 2) nd rfl (.inl rfl) (pe_un un_neg pe_int)))) pss_nil))))))
      (pss_one (ps_ret (pv 1))))), ?_⟩
    have W0 : Own A.T [] H [] H := Own.nil ht
    have hk : ∀ {H1 : Hp} {ds : List Cell}, Own A.T [] H ds H1 → H1 pd = some (.lst (xs.map V.int)) := fun W => W.keeps rfl hp trivial
    have hz : 1 * ((xs.map V.int).length : Int).toNat ≤ sizeLine := by
      rw [List.length_map]
      exact Nat.le_of_lt (line1000 (by omega))
    refine ⟨(by show 1 ≤ sizeLine; rw [sizeLine_eq]; decide), fun l hl1 => ?_⟩
    have W1 := W0.new (o := .lst [.bl false]) hl1
    refine ⟨_, rfl, pd, _, rfl, .inl (SqL.of (hk W1)), l, _, _, rfl, rfl, W1.get 0 rfl, by omega, by rw [List.length_map]; omega, hz, fun m hm => ?_⟩
    have hrp : (List.replicate ((xs.map V.int).length : Int).toNat [V.bl false]).flatten = flL xs.length fun _ => false := by rw [List.length_map, Int.toNat_natCast, flL_rep]
    rw [hrp]
    have W2 := W1.new (o := .lst (flL xs.length fun _ => false)) hm
    have W3 := W2.sub (ds := [(m, .lst (flL xs.length fun _ => false))]) (by simp)
    refine ⟨_, rfl, ?_⟩
    refine ⟨_, rfl, pd, _, rfl, .inl (SqL.of (hk W3)), _, rfl, by omega, by rw [List.length_map]; omega, ?_⟩
    rw [List.length_map, Int.toNat_natCast]
    refine for_range (n := xs.length) (lo := 0) (Pv := fun i σ H' => ∃ v3 v4 v5 : Option V, σ = [some (.ref pd), some (.ref m), some (.int (stI (opS (cf xs) i))), v3, v4, v5] ∧ Own A.T [] H [(m, .lst (flL xs.length (flS (cf xs) i)))] H') ⟨_, _, _, rfl, W3⟩ ?_ ?_
    · rintro i σ H1 hi ⟨v3, v4, v5, rfl, W4⟩
      have z0 : ((0 : Int) + (i : Int)) = (i : Int) := by omega
      rw [z0]
      have ex : (xs.map V.int)[i]? = some (V.int (xs.getD i 0)) := by rw [List.getElem?_map, List.getD_eq_getElem?_getD, List.getElem?_eq_getElem hi]; rfl
      have ho : opS (cf xs) (i + 1) = nxtS (opS (cf xs) i) i (cf xs i) := rfl
      have hf : flS (cf xs) (i + 1) = flN (flS (cf xs) i) (opS (cf xs) i) i (cf xs i) := rfl
      rw [ho, hf]
      have hb := (flOk (cf xs) i).q3
      cases hso : opS (cf xs) i with
      | none =>
        refine ⟨_, rfl, _, rfl, pd, _, _, _, rfl, rfl, SqL.of (hk W4), atI_nat ex, .inl ⟨_, rfl, _, _, rfl, rfl, (by show (0 : Int) < 20; decide), ?_⟩⟩
        refine ⟨_, rfl, _, _, rfl, rfl, _, rfl, ?_⟩
        refine itT rfl ?_
        refine ⟨_, rfl, _, _, rfl, rfl, _, rfl, ?_⟩
        have no : ∀ (hn : nxtS none i (cf xs i) = none) (v : Option V) (v' v'' : Option V), ∃ v3 v4 v5 : Option V, ([some (.ref pd), some (.ref m), some (.int (-1)), v, v', v''] : L2.St) = [some (.ref pd), some (.ref m), some (.int (stI (nxtS none i (cf xs i)))), v3, v4, v5] ∧ Own A.T [] H [(m, .lst (flL xs.length (flN (flS (cf xs) i) none i (cf xs i))))] H1 := fun hn v v' v'' => ⟨v, v', v'', by rw [hn]; rfl, W4⟩
        by_cases h14 : 14 < cf xs i
        · refine itT (decide_eq_true h14) ?_
          refine ⟨_, _, rfl, rfl, _, rfl, ?_⟩
          by_cases h17 : cf xs i < 17
          · refine itT (decide_eq_true h17) ?_
            rw [show nxtS none i (cf xs i) = some i from if_pos ⟨h14, h17⟩]
            exact ⟨_, rfl, _, _, _, rfl, W4⟩
          · refine itF (decide_eq_false h17) ?_
            refine ⟨_, rfl, _, _, rfl, rfl, _, rfl, ?_⟩
            refine itF rfl ?_
            refine itF rfl ?_
            exact no (if_neg fun z => h17 z.2) _ _ _
        · refine itF (decide_eq_false h14) ?_
          refine ⟨_, rfl, ?_⟩
          refine itF rfl ?_
          refine ⟨_, rfl, _, _, rfl, rfl, _, rfl, ?_⟩
          refine itF rfl ?_
          refine itF rfl ?_
          exact no (if_neg fun z => h14 z.1) _ _ _
      | some s =>
        obtain ⟨hs, _, _, _, _⟩ := hb s hso
        refine ⟨_, rfl, _, rfl, pd, _, _, _, rfl, rfl, SqL.of (hk W4), atI_nat ex, .inl ⟨_, rfl, _, _, rfl, rfl, (by show (0 : Int) < 20; decide), ?_⟩⟩
        refine ⟨_, rfl, _, _, rfl, rfl, _, rfl, ?_⟩
        refine itF (decide_eq_false (by show ¬ ((s : Int) < 0); omega)) ?_
        refine itF rfl ?_
        refine ⟨_, rfl, _, _, rfl, rfl, _, rfl, ?_⟩
        refine itT (decide_eq_true (by show (0 : Int) ≤ (s : Int); omega)) ?_
        refine ⟨_, rfl, _, _, rfl, rfl, _, rfl, ?_⟩
        by_cases h16 : 16 < cf xs i
        · refine itT (decide_eq_true h16) ?_
          have hn : nxtS (some s) i (cf xs i) = none := if_pos h16
          rw [hn]
          refine ⟨_, rfl, _, _, rfl, rfl, _, rfl, ?_⟩
          by_cases h17 : 17 < cf xs i
          · refine itT (decide_eq_true h17) ?_
            refine ⟨_, rfl, _, rfl, _, _, rfl, rfl, (s : Int), ((i : Int) + 1), rfl, ⟨by omega, by omega, by omega, by omega⟩, ?_⟩
            refine for_range (lo := (s : Int)) (Pv := fun t σ H' => ∃ v5 : Option V, σ = [some (.ref pd), some (.ref m), some (.int (s : Int)), some (.int (i : Int)), some (.int (cf xs i)), v5] ∧ Own A.T [] H [(m, .lst (flL xs.length fun j => if s ≤ j ∧ j < s + t then true else flS (cf xs) i j))] H') ⟨v5, rfl, ?_⟩ ?_ ?_
            · have e : (fun j => if s ≤ j ∧ j < s + 0 then true else flS (cf xs) i j) = flS (cf xs) i := funext fun j => if_neg (by omega)
              rw [e]
              exact W4
            · rintro t σ H2 hti ⟨v6, rfl, W5⟩
              have et : ((s : Int) + (t : Int)) = ((s + t : Nat) : Int) := by omega
              rw [et]
              refine ⟨_, rfl, _, rfl, m, _, _, s + t, rfl, rfl, W5.get 0 rfl, ixN_nat (by rw [flL_len]; omega), ?_⟩
              rw [flL_set]
              refine ⟨_, rfl, ?_⟩
              have e : (fun j => if j = s + t then true else if s ≤ j ∧ j < s + t then true else flS (cf xs) i j) = fun j => if s ≤ j ∧ j < s + (t + 1) then true else flS (cf xs) i j := funext fun j => by
                by_cases h1 : j = s + t
                · rw [if_pos h1, if_pos (by omega)]
                · rw [if_neg h1]
                  by_cases h2 : s ≤ j ∧ j < s + t
                  · rw [if_pos h2, if_pos (by omega)]
                  · rw [if_neg h2, if_neg (by omega)]
              rw [e]
              exact W5.put 0 rfl rfl
            · rintro σ H2 ⟨v6, rfl, W5⟩
              refine ⟨_, rfl, _, _, _, rfl, ?_⟩
              have e : (fun j => if s ≤ j ∧ j < s + ((i : Int) + 1 - (s : Int)).toNat then true else flS (cf xs) i j) = flN (flS (cf xs) i) (some s) i (cf xs i) := funext fun j => by
                show _ = if 17 < cf xs i ∧ s ≤ j ∧ j ≤ i then true else flS (cf xs) i j
                by_cases h2 : s ≤ j ∧ j ≤ i
                · rw [if_pos (by omega), if_pos ⟨h17, h2⟩]
                · rw [if_neg (by omega), if_neg (fun z => h2 z.2)]
              rw [← e]
              exact W5
          · refine itF (decide_eq_false h17) ?_
            refine ⟨_, rfl, _, _, _, rfl, ?_⟩
            have e : flN (flS (cf xs) i) (some s) i (cf xs i) = flS (cf xs) i := funext fun j => if_neg (fun z => h17 z.1)
            rw [e]
            exact W4
        · refine itF (decide_eq_false h16) ?_
          have hn : nxtS (some s) i (cf xs i) = some s := if_neg h16
          rw [hn]
          have e : flN (flS (cf xs) i) (some s) i (cf xs i) = flS (cf xs) i := funext fun j => if_neg (fun z => h16 (by omega))
          rw [e]
          exact ⟨_, _, _, rfl, W4⟩
    · rintro σ H1 ⟨v3, v4, v5, rfl, W4⟩
      exact ⟨_, rfl, k _ _ W4⟩
end
end K9
end
section
set_option Elab.async false
set_option linter.all false
set_option maxRecDepth 100000
set_option maxHeartbeats 4000000
/-! The law's defs: paired. -/
namespace K9
open PySem PySem.Spec PyProof.Rows L2 LamX
structure PairOk (ρ : Int → Int → Prop) (l1 : List Ob) (ks : List Int) (kv1 kv2 : List (Key × V)) : Prop where
  k1 : kv1.length = ks.length
  k2 : kv2.length = ks.length
  nd : ks.Nodup
  sub : ∀ a ∈ ks, a ∈ nums l1
  v1 : ∀ a b, ρ a b → valV kv1 (Sum.inl a) = if a ∈ ks then some (.int b) else none
  v2 : ∀ a b, ρ a b → valV kv2 (Sum.inl b) = if a ∈ ks then some (.int a) else none
theorem PairOk.new {ρ : Int → Int → Prop} {l1 l2 : List Ob} {w1 w2 : List Int} {ks : List Int} {kv1 kv2 : List (Key × V)} (h : PairOk ρ l1 ks kv1 kv2) (s : Sim ρ l1 l2 w1 w2) {x y : Int} (r : ρ x y) (hx : x ∉ ks) :
    PairOk ρ l1 (ks ++ [x]) (putK kv1 (Sum.inl x) (.int y)) (putK kv2 (Sum.inl y) (.int x)) := by
  have e1 : valV kv1 (Sum.inl x) = none := by rw [h.v1 _ _ r, if_neg hx]
  have e2 : valV kv2 (Sum.inl y) = none := by rw [h.v2 _ _ r, if_neg hx]
  refine ⟨?_, ?_, L2.nd_snoc h.nd hx, fun a ha => ?_, fun a b q => ?_, fun a b q => ?_⟩
  · rw [putK_new _ e1, List.length_append, h.k1, List.length_append]; rfl
  · rw [putK_new _ e2, List.length_append, h.k2, List.length_append]; rfl
  · rcases List.mem_append.mp ha with z | z
    · exact h.sub a z
    · rw [List.mem_singleton.mp z]
      obtain ⟨o1, _, h1, _⟩ := s.c _ _ r
      exact mem_nums_of_ob h1
  · rw [valV_put]
    by_cases e : a = x
    · subst e
      rw [if_pos rfl, if_pos (by simp), s.f _ _ _ r q]
    · rw [if_neg (fun z => e (Sum.inl.inj z)), h.v1 _ _ q]
      by_cases hk : a ∈ ks
      · rw [if_pos hk, if_pos (List.mem_append_left _ hk)]
      · rw [if_neg hk, if_neg (by simp [hk, e])]
  · rw [valV_put]
    by_cases e : a = x
    · subst e
      rw [if_pos (by rw [s.f _ _ _ q r]), if_pos (by simp)]
    · rw [if_neg (fun z => e (s.g _ _ _ q (by rw [Sum.inl.inj z]; exact r))), h.v2 _ _ q]
      by_cases hk : a ∈ ks
      · rw [if_pos hk, if_pos (List.mem_append_left _ hk)]
      · rw [if_neg hk, if_neg (by simp [hk, e])]
theorem pm12 {α : Type} (C D L : List α) : (C ++ (D ++ L)).Perm (L ++ (C ++ D)) := by
  classical
  rw [List.perm_iff_count]
  intro a
  simp only [List.count_append]
  omega
section
variable {P : Program} {w : World} {K : PySem.W.Frag} {mg : Str → Option Value} {base : Heap} {A : Ads}
abbrev paX (cs es : List Cell) (pt pk : Addr) (kv1 kv2 : List (Key × V)) : List Cell := cs ++ (es ++ [(pt, .dK kv1), (pk, .dK kv2)])
def spPaired (A : Ads) : Sp := fun vs H Q _ => ∃ (a b pt pk : Addr) (x y : Int) (D E : SpD) (cs es : List Cell) (ρ : Int → Int → Prop) (w1 w2 ks : List Int) (kv1 kv2 : List (Key × V)), vs = [.ref a, .ref b, .int x, .int y, .ref pt, .ref pk] ∧ SpR A.CT A.CS a D cs ∧ SpR A.CT A.CS b E es ∧
  Own A.T (adr (paX cs es pt pk kv1 kv2)) H (paX cs es pt pk kv1 kv2) H ∧ Sim ρ D.objs E.objs w1 w2 ∧ PairOk ρ D.objs ks kv1 kv2 ∧ ks.length ≤ 1000 ∧ ρ x y ∧
  ∀ (H' : Hp) (ks' : List Int) (kv1' kv2' : List (Key × V)), PairOk ρ D.objs ks' kv1' kv2' → ((x ∈ ks ∧ ks' = ks) ∨ (x ∉ ks ∧ ks' = ks ++ [x])) → Own A.T (adr (paX cs es pt pk kv1 kv2)) H (paX cs es pt pk kv1' kv2') H' → Q (.bl true) H'
theorem ok_l_paired (T : Txt P K mg A) : Okd P w K mg base 2 A.l_paired (spPaired A) := by
  refine okN T.f_l_paired sc_l_paired bh_l_paired (fun vs H Q E h => ?_) (fun cdv Ar outer s0 H vs Q E9 hr h => ?_)
  · obtain ⟨_, _, _, _, _, _, _, _, _, _, _, _, _, _, _, _, rfl, _⟩ := h
    rfl
  · obtain ⟨a, b, pt, pk, x, y, D, E, cs, es, ρ, w1, w2, ks, kv1, kv2, rfl, hS, hS2, W, sim, hP, hkl, r, k⟩ := h
    have nd := sc_l_paired.nd
    have hrH := L2H.roomH_of hr
    have hu := hu_of hr
    have hr1 := hrH.mono (j := 1) (by decide)
    refine ⟨_, pss_cons (ps_if (PW.pt (pw_or (pt_cmp (pc_din hu (pv 2) (pv 4)) rfl) (pw_or1 (pt_cmp (pc_din hu (pv 3) (pv 5)) rfl))))
        (pss_one (ps_ret (pe_and (pe_cmp (pc_din hu (pv 2) (pv 4)) rfl) (pe_and (pe_cmp (pc_din hu (pv 3) (pv 5)) rfl) (pe_and (pe_cmpR op_eq (pe_dget hu (pv 4) (pv 2) (fun _ _ => rfl)) (pv 3) (nomark _)) (pe_one (pe_cmpR op_eq (pe_dget hu (pv 5) (pv 3) (fun _ _ => rfl)) (pv 2) (nomark _)))))))) pss_nil)
      (pss_cons (ps_dput hu (pv 4) (pv 2) (pv 3) rfl)
      (pss_cons (ps_dput hu (pv 5) (pv 3) (pv 2) rfl)
      (pss_cons (ps_if (PW.pt (pw_or (pt_cmpR op_notBl (pe_mrun (pe_fld (pv 0) rfl) T.clT T.m_s_exists ((ok_s_exists T).runs hr1 (.inl rfl)) (pa_cons (pv 2) pa_nil)) pe_bl (nomark _)) (pw_or1 (pt_cmpR op_notBl (pe_mrun (pe_fld (pv 1) rfl) T.clT T.m_s_exists ((ok_s_exists T).runs hr1 (.inl rfl)) (pa_cons (pv 3) pa_nil)) pe_bl (nomark _)))))
        (pss_one (ps_ret pe_bl)) pss_nil)
      (pss_one (ps_ret (pe_cmpR op_eq (pe_mrun (pe_fld (pv 0) rfl) T.clT T.m_s_size ((ok_s_size T).runs hr1 (.inl rfl)) (pa_cons (pv 2) pa_nil)) (pe_mrun (pe_fld (pv 1) rfl) T.clT T.m_s_size ((ok_s_size T).runs hr1 (.inl rfl)) (pa_cons (pv 3) pa_nil)) (nomark _))))))), ?_⟩
    have g1 := W.right.right.is (pt, .dK kv1) (by simp)
    have g2 := W.right.right.is (pk, .dK kv2) (by simp)
    have e1 := hP.v1 _ _ r
    have e2 := hP.v2 _ _ r
    have d1 := DGet.k (k := Sum.inl x) g1
    have d2 := DGet.k (k := Sum.inl y) g2
    rw [e1] at d1
    rw [e2] at d2
    by_cases hx : x ∈ ks
    · rw [if_pos hx] at d1 d2
      refine ⟨_, rfl, _, rfl, pt, _, rfl, d1, ?_⟩
      refine ⟨_, rfl, ?_⟩
      refine itT rfl ?_
      refine itT rfl ?_
      refine ⟨_, rfl, _, rfl, pt, _, rfl, d1, _, rfl, ?_⟩
      refine itT rfl ?_
      refine ⟨_, rfl, _, rfl, pk, _, rfl, d2, _, rfl, ?_⟩
      refine itT rfl ?_
      refine ⟨_, rfl, _, rfl, pt, _, rfl, d1, _, rfl, rfl, _, rfl, ?_⟩
      refine itT (decide_eq_true rfl) ?_
      refine ⟨_, rfl, _, rfl, pk, _, rfl, d2, _, rfl, rfl, ?_⟩
      rw [K9.dec_int, decide_eq_true rfl]
      exact k _ _ _ _ hP (.inl ⟨hx, rfl⟩) W
    · rw [if_neg hx] at d1 d2
      refine ⟨_, rfl, _, rfl, pt, _, rfl, d1, ?_⟩
      refine ⟨_, rfl, ?_⟩
      refine itF rfl ?_
      refine ⟨_, rfl, _, rfl, pk, _, rfl, d2, ?_⟩
      refine ⟨_, rfl, ?_⟩
      refine itF rfl ?_
      have l1 : kv1.length < sizeLine := line1000 (by rw [hP.k1]; omega)
      have l2 : kv2.length < sizeLine := line1000 (by rw [hP.k2]; omega)
      refine ⟨_, rfl, _, rfl, _, rfl, pt, _, rfl, DPut.k (k := Sum.inl x) g1 l1, ?_⟩
      have V0 := W.perm (pm12 cs es [(pt, .dK kv1), (pk, .dK kv2)])
      have V1 := V0.put 0 rfl rfl (b := pt) (o' := .dK (putK kv1 (Sum.inl x) (.int y)))
      refine ⟨_, rfl, _, rfl, _, rfl, pk, _, rfl, DPut.k (k := Sum.inl y) (V1.get 1 rfl) l2, ?_⟩
      have V2 := V1.put 1 rfl rfl (b := pk) (o' := .dK (putK kv2 (Sum.inl y) (.int x)))
      have V3 : Own A.T (adr (paX cs es pt pk kv1 kv2)) H (paX cs es pt pk (putK kv1 (Sum.inl x) (.int y)) (putK kv2 (Sum.inl y) (.int x))) _ := V2.perm (pm12 cs es [(pt, .dK (putK kv1 (Sum.inl x) (.int y))), (pk, .dK (putK kv2 (Sum.inl y) (.int x)))]).symm
      obtain ⟨o1, o2, ho1, ho2, hk, hs⟩ := sim.c _ _ r
      obtain ⟨dx5, s5, pr5, rt5, hd5, sv5, c5, fs5, dxs5, q1, hSt5, q5, q6, hno5⟩ := hS.store V3.left.has
      obtain ⟨dx6, s6, pr6, rt6, hd6, sv6, c6, fs6, dxs6, u1, hSt6, u5, u6, hno6⟩ := hS2.store V3.right.left.has
      refine ⟨_, rfl, a, _, dx5, _, _, rfl, q1, T.clS, T.nS_store, spF_store, s5, _, _, rfl, q6, hno5 _ (by decide +kernel), _, rfl, s5, x, _, _, _, c5, rfl, hSt5, q5, ?_⟩
      rw [decide_eq_true (mem_nums_of_ob ho1)]
      refine ⟨_, _, rfl, rfl, _, rfl, ?_⟩
      refine itF rfl ?_
      refine ⟨_, rfl, b, _, dx6, _, _, rfl, u1, T.clS, T.nS_store, spF_store, s6, _, _, rfl, u6, hno6 _ (by decide +kernel), _, rfl, s6, y, _, _, _, c6, rfl, hSt6, u5, ?_⟩
      rw [decide_eq_true (mem_nums_of_ob ho2)]
      refine ⟨_, _, rfl, rfl, _, rfl, ?_⟩
      refine itF rfl ?_
      refine ⟨_, rfl, a, _, dx5, _, _, rfl, q1, T.clS, T.nS_store, spF_store, s5, _, _, rfl, q6, hno5 _ (by decide +kernel), _, rfl, s5, x, _, _, _, c5, o1, rfl, hSt5, q5, ho1, ?_⟩
      refine ⟨_, rfl, b, _, dx6, _, _, rfl, u1, T.clS, T.nS_store, spF_store, s6, _, _, rfl, u6, hno6 _ (by decide +kernel), _, rfl, s6, y, _, _, _, c6, o2, rfl, hSt6, u5, ho2, rfl, ?_⟩
      rw [hs.length, K9.dec_int, decide_eq_true rfl]
      exact k _ _ _ _ (hP.new sim r hx) (.inr ⟨hx, rfl⟩) V3
end
end K9
end
section
set_option Elab.async false
set_option linter.all false
set_option maxRecDepth 100000
set_option maxHeartbeats 4000000
/-! The law's defs: alike. -/
namespace K9
open PySem PySem.Spec PyProof.Rows L2 LamX
structure WI where
  p : Addr
  r1 : Addr
  r2 : Addr
  u1 : List Int
  u2 : List Int
def wiC (i : WI) : List Cell := [(i.p, .lst [.ref i.r1, .ref i.r2]), (i.r1, .lst (i.u1.map V.int)), (i.r2, .lst (i.u2.map V.int))]
def wiOk (ρ : Int → Int → Prop) (i : WI) : Prop := F2 (wrel ρ) i.u1 i.u2 ∧ i.u1.length ≤ 3000
abbrev wiV (ws : List WI) : List V := ws.map fun i => V.ref i.p
theorem wi_at {i : WI} {H : Hp} (h : Has (wiC i) H) : H i.p = some (.lst [.ref i.r1, .ref i.r2]) ∧ H i.r1 = some (.lst (i.u1.map V.int)) ∧ H i.r2 = some (.lst (i.u2.map V.int)) :=
  ⟨h (i.p, .lst [.ref i.r1, .ref i.r2]) (by simp [wiC]), h (i.r1, .lst (i.u1.map V.int)) (by simp [wiC]), h (i.r2, .lst (i.u2.map V.int)) (by simp [wiC])⟩
abbrev alC (pw : Addr) (ws : List WI) : List Cell := (pw, .lst (wiV ws)) :: ws.flatMap wiC
theorem pa1 {α : Type} (P Z U : List α) (W p r1 r2 : α) : (p :: (r2 :: (r1 :: (W :: (P ++ (Z ++ U)))))).Perm (W :: (P ++ ((Z ++ [p, r1, r2]) ++ U))) := by
  classical
  rw [List.perm_iff_count]
  intro a
  simp only [List.count_append, List.count_cons, List.count_nil]
  omega
theorem pa0 {α : Type} (C E : List α) (w p r2 r1 g f : α) : (w :: p :: r2 :: r1 :: g :: f :: (C ++ E)).Perm (w :: ((C ++ (E ++ [f, g])) ++ [p, r1, r2])) := by
  classical
  rw [List.perm_iff_count]
  intro a
  simp only [List.count_append, List.count_cons, List.count_nil]
  omega
theorem pa2 {α : Type} (P Z : List α) (W : α) : (P ++ (W :: Z)).Perm (W :: (P ++ Z)) := List.perm_middle
section
variable {P : Program} {w : World} {K : PySem.W.Frag} {mg : Str → Option Value} {base : Heap} {A : Ads}
def spAlike (A : Ads) : Sp := fun vs H Q _ => ∃ (a b : Addr) (D E : SpD) (cs es : List Cell) (ρ : Int → Int → Prop), vs = [.ref a, .ref b] ∧ SpR A.CT A.CS a D cs ∧ SpR A.CT A.CS b E es ∧ Own A.T (adr (cs ++ es)) H (cs ++ es) H ∧ Sim ρ D.objs E.objs (allW D) (allW E) ∧
  ∀ H' : Hp, Q (.bl true) H'
theorem ok_l_alike (T : Txt P K mg A) : Okd P w K mg base 5 A.l_alike (spAlike A) := by
  refine okN T.f_l_alike sc_l_alike bh_l_alike (fun vs H Q E h => ?_) (fun cdv Ar outer s0 H vs Q E9 hr h => ?_)
  · obtain ⟨_, _, _, _, _, _, _, rfl, _⟩ := h
    rfl
  · obtain ⟨a, b, D, E, cs, es, ρ, rfl, hS, hS2, W, sim, k⟩ := h
    have nd := sc_l_alike.nd
    have hrH := L2H.roomH_of hr
    have hu := hu_of hr
    have hr1 := hrH.mono (j := 1) (by decide)
    have hr2 := hr.mono (j := 2) (by decide)
    refine ⟨_, (pss_cons (ps_set (i := 2) nd rfl (.inl rfl) pe_dnewK)
        (pss_cons (ps_set (i := 3) nd rfl (.inl rfl) pe_dnewK)
        (pss_cons (ps_set (i := 4) nd rfl (.inl rfl) (pe_lst (pa_cons (pe_lst (pa_cons (pe_mrun0 (pv 0) T.clS T.m_p_all ((ok_p_all T).runs hr1 (.inl rfl))) (pa_cons (pe_mrun0 (pv 1) T.clS T.m_p_all ((ok_p_all T).runs hr1 (.inl rfl))) pa_nil))) pa_nil)))
        (pss_cons (ps_for PassesOwn.never rfl (pi_range1 rfl T.b_range (pa_cons pe_int pa_nil)) (pg_name (i := 5) nd rfl (.inl rfl)) (pss_cons (ps_if (pt_not (pt_truth (pv 4) (by intro _; rfl))) (pss_one (ps_ret pe_bl)) pss_nil)
        (pss_cons (ps_set (i := 6) nd rfl (.inl rfl) (pe_bm0 PySem.F.plainAttrs_list PySem.F.slot_list_pop PySem.F.type_list_pop mt_pop (pv 4)))
        (pss_cons (ps_if (pt_cmpR op_ne (pe_callB call_len_seq (by rfl) T.b_len PySem.boot_len (pa_cons (pe_ix ix_list (pv 6) pe_int (fun _ _ => rfl)) pa_nil)) (pe_callB call_len_seq (by rfl) T.b_len PySem.boot_len (pa_cons (pe_ix ix_list (pv 6) pe_int (fun _ _ => rfl)) pa_nil)) (nomark _)) (pss_one (ps_ret pe_bl)) pss_nil)
        (pss_one (ps_for PassesOwn.never rfl (pi_range1 rfl T.b_range (pa_cons (pe_callB call_len_seq (by rfl) T.b_len PySem.boot_len (pa_cons (pe_ix ix_list (pv 6) pe_int (fun _ _ => rfl)) pa_nil)) pa_nil)) (pg_name (i := 7) nd rfl (.inl rfl)) (pss_cons (ps_set (i := 8) nd rfl (.inl rfl) (pe_ix ix_list (pe_ix ix_list (pv 6) pe_int (fun _ _ => rfl)) (pv 7) (fun _ _ => rfl)))
        (pss_cons (ps_set (i := 9) nd rfl (.inl rfl) (pe_ix ix_list (pe_ix ix_list (pv 6) pe_int (fun _ _ => rfl)) (pv 7) (fun _ _ => rfl)))
        (pss_one (ps_if (PW.pt (pw_or (pt_cmpR op_eq (pe_op op_mod (pe_callTy call_int1 (by rfl) T.b_int (by decide +kernel) (pa_cons (pv 8) pa_nil)) pe_int) pe_int (nomark _)) (pw_or1 (pt_cmpR op_eq (pe_op op_mod (pe_callTy call_int1 (by rfl) T.b_int (by decide +kernel) (pa_cons (pv 9) pa_nil)) pe_int) pe_int (nomark _))))) (pss_one (ps_if (pt_cmpR op_ne (pv 8) (pv 9) (nomark _)) (pss_one (ps_ret pe_bl)) pss_nil)) (pss_one (ps_if (PW.pt (pw_or (pt_cmp (pc_dnotin hu (pe_op op_fdiv (pv 8) pe_int) (pv 2)) rfl) (pw_or1 (pt_cmp (pc_dnotin hu (pe_op op_fdiv (pv 9) pe_int) (pv 3)) rfl)))) (pss_cons (ps_if (pt_not (pt_val (pe_run ((ok_l_paired T).runs hr2 passN0) T.g_l_paired T.k_l_paired (pa_cons (pv 0) (pa_cons (pv 1) (pa_cons (pe_op op_fdiv (pv 8) pe_int) (pa_cons (pe_op op_fdiv (pv 9) pe_int) (pa_cons (pv 2) (pa_cons (pv 3) pa_nil))))))))) (pss_one (ps_ret pe_bl)) pss_nil)
        (pss_one (ps_expr (pe_bm PySem.F.plainAttrs_list PySem.F.slot_list_append PySem.F.type_list_append mt_append (pv 4) (pa_cons (pe_lst (pa_cons (pe_run ((ok_l_row T).runs (hr.mono (by decide)) passN0) T.g_l_row T.k_l_row (pa_cons (pv 0) (pa_cons (pe_op op_fdiv (pv 8) pe_int) pa_nil))) (pa_cons (pe_run ((ok_l_row T).runs (hr.mono (by decide)) passN0) T.g_l_row T.k_l_row (pa_cons (pv 1) (pa_cons (pe_op op_fdiv (pv 9) pe_int) pa_nil))) pa_nil))) pa_nil))))) (pss_one (ps_if (pt_not (pt_val (pe_run ((ok_l_paired T).runs hr2 passN0) T.g_l_paired T.k_l_paired (pa_cons (pv 0) (pa_cons (pv 1) (pa_cons (pe_op op_fdiv (pv 8) pe_int) (pa_cons (pe_op op_fdiv (pv 9) pe_int) (pa_cons (pv 2) (pa_cons (pv 3) pa_nil))))))))) (pss_one (ps_ret pe_bl)) pss_nil))))))))))))))
        (pss_one (ps_ret pe_bl)))))), ?_⟩
    have hO : StOk D.room D.entries D.objs := by
      obtain ⟨_, _, _, _, _, _, _, _, _, _, hSt, h5, _⟩ := hS.store W.left.has
      obtain ⟨_, _, _, _, _, _, _, hO, _⟩ := hSt.open h5
      exact hO
    have hN := hO.lenle
    refine fun fd hfd => ?_
    have W1 := W.new (o := .dK []) hfd
    refine fun gd hgd => ?_
    have W2 := W1.new (o := .dK []) hgd
    obtain ⟨dx, s, pr, rt, hd, sv, h1⟩ := hS.ins W2.tail.tail.left.has
    refine ⟨_, rfl, a, dx, _, rfl, h1, spF_none (by decide +kernel), a, D, cs, rfl, hS, W2.tail.tail.left.has, W2.tb, fun H3 r1 R3 => ?_⟩
    have W3 := W2.call0 R3
    obtain ⟨dx2, s2, pr2, rt2, hd2, sv2, h2⟩ := hS2.ins W3.tail.tail.tail.right.has
    refine ⟨_, rfl, b, dx2, _, rfl, h2, spF_none (by decide +kernel), b, E, es, rfl, hS2, W3.tail.tail.tail.right.has, W3.tb, fun H4 r2 R4 => ?_⟩
    have W4 := W3.call0 R4
    refine ⟨(by show 2 ≤ sizeLine; rw [sizeLine_eq]; decide), fun p hp => ?_⟩
    have W5 := W4.new (o := .lst [.ref r1, .ref r2]) hp
    refine ⟨(by show 1 ≤ sizeLine; rw [sizeLine_eq]; decide), fun pw hpw => ?_⟩
    have W6 := W5.new (o := .lst [.ref p]) hpw
    have W7 : Own A.T (adr (cs ++ es)) H ((pw, .lst (wiV [⟨p, r1, r2, allW D, allW E⟩])) :: (paX cs es fd gd [] [] ++ (([⟨p, r1, r2, allW D, allW E⟩] : List WI).flatMap wiC))) _ := W6.perm (pa0 cs es (pw, .lst [.ref p]) (p, .lst [.ref r1, .ref r2]) (r2, .lst ((allW E).map V.int)) (r1, .lst ((allW D).map V.int)) (gd, .dK []) (fd, .dK []))
    have hP0 : PairOk ρ D.objs [] [] [] := ⟨rfl, rfl, List.nodup_nil, fun a h => absurd h List.not_mem_nil, fun _ _ _ => rfl, fun _ _ _ => rfl⟩
    have hw0 : ∀ i ∈ ([⟨p, r1, r2, allW D, allW E⟩] : List WI), wiOk ρ i := fun i hi => by
      rw [List.mem_singleton.mp hi]
      exact ⟨sim.r, by
        obtain ⟨_, _, _, _, _, _, _, _, _, _, _, hB, _⟩ := hS.open W.left.has
        show (0 :: (D.roots ++ D.held)).length ≤ 3000
        simp only [List.length_cons, List.length_append]
        have := hB.1
        have := hB.2.1
        omega⟩
    have small : ∀ {ks : List Int} {kv1 kv2 : List (Key × V)}, PairOk ρ D.objs ks kv1 kv2 → ks.length ≤ 1000 := fun {ks kv1 kv2} h => by
      have := nodup_sub h.nd hO.nd h.sub
      rw [nums_length] at this
      omega
    refine ⟨20000, rfl, by decide, by decide, for_range (n := 20000) (lo := 0) (Pv := fun i σ H' => ∃ (v5 v6 v7 v8 v9 : Option V) (ws : List WI) (ks : List Int) (kv1 kv2 : List (Key × V)), σ = [some (.ref a), some (.ref b), some (.ref fd), some (.ref gd), some (.ref pw), v5, v6, v7, v8, v9] ∧ PairOk ρ D.objs ks kv1 kv2 ∧ (∀ i ∈ ws, wiOk ρ i) ∧
      ws.length + i = 1 + ks.length ∧ Own A.T (adr (cs ++ es)) H ((pw, .lst (wiV ws)) :: (paX cs es fd gd kv1 kv2 ++ ws.flatMap wiC)) H') ⟨_, _, _, _, _, _, [], [], [], rfl, hP0, hw0, rfl, W7⟩ ?_ ?_⟩
    · rintro i σ H8 hi ⟨v5, v6, v7, v8, v9, ws, ks, kv1, kv2, rfl, hP, hws, hlen, W8⟩
      have hw := W8.get 0 rfl
      refine ⟨_, rfl, _, .inl ⟨_, SqL.of hw, rfl⟩, ?_⟩
      by_cases hne : ws = []
      · refine itT (by rw [hne]; rfl) ?_
        exact k _
      obtain ⟨wl, q, rfl⟩ : ∃ wl q, ws = wl ++ [q] := ⟨ws.dropLast, ws.getLast hne, (List.dropLast_concat_getLast hne).symm⟩
      refine itF (by simp) ?_
      have eC : (wl ++ [q]).flatMap wiC = wl.flatMap wiC ++ wiC q := by rw [List.flatMap_append]; simp
      rw [eC] at W8
      refine ⟨_, rfl, .inl ⟨rfl, _, SqL.of hw⟩, pw, _, V.ref q.p, rfl, rfl, hw, by simp, ?_⟩
      have ed : (wiV (wl ++ [q])).dropLast = wiV wl := by simp
      rw [ed]
      have W9 := W8.put 0 rfl rfl (b := pw) (o' := .lst (wiV wl))
      have W9 : Own A.T (adr (cs ++ es)) H ((pw, .lst (wiV wl)) :: (paX cs es fd gd kv1 kv2 ++ (wl.flatMap wiC ++ wiC q))) _ := W9
      obtain ⟨hq, hqz⟩ := hws q (by simp)
      have hwl : ∀ i ∈ wl, wiOk ρ i := fun i hi => hws i (List.mem_append_left _ hi)
      rw [List.length_append, List.length_singleton] at hlen
      obtain ⟨m0, m1, m2⟩ := wi_at W9.tail.right.right.has
      refine ⟨_, rfl, q.p, _, _, _, rfl, rfl, SqL.of m0, at0, q.r1, _, rfl, .inl (SqL.of m1), _, rfl, q.p, _, _, _, rfl, rfl, SqL.of m0, at1, q.r2, _, rfl, .inl (SqL.of m2), rfl, _, rfl, ?_⟩
      refine itF (by rw [K9.dec_int, List.length_map, List.length_map, hq.length]; simp) ?_
      refine ⟨_, rfl, q.p, _, _, _, rfl, rfl, SqL.of m0, at0, q.r1, _, rfl, .inl (SqL.of m1), _, rfl, by omega, by rw [List.length_map]; omega, ?_⟩
      rw [List.length_map, Int.toNat_natCast]
      refine for_range (n := q.u1.length) (lo := 0) (Pv := fun t σ H' => ∃ (v7 v8 v9 : Option V) (ws : List WI) (ks : List Int) (kv1 kv2 : List (Key × V)), σ = [some (.ref a), some (.ref b), some (.ref fd), some (.ref gd), some (.ref pw), some (.int (0 + (i : Int))), some (.ref q.p), v7, v8, v9] ∧ PairOk ρ D.objs ks kv1 kv2 ∧ (∀ i ∈ ws, wiOk ρ i) ∧
        ws.length + (i + 1) = 1 + ks.length ∧ Own A.T (adr (cs ++ es)) H ((pw, .lst (wiV ws)) :: (paX cs es fd gd kv1 kv2 ++ (ws.flatMap wiC ++ wiC q))) H') ⟨v7, v8, v9, wl, ks, kv1, kv2, rfl, hP, hwl, by omega, W9⟩ ?_ ?_
      · rintro t σ H10 hti ⟨v7, v8, v9, ws, ks, kv1, kv2, rfl, hP, hws, hlen, W10⟩
        have z0 : ((0 : Int) + (t : Int)) = (t : Int) := by omega
        rw [z0]
        obtain ⟨m0, m1, m2⟩ := wi_at W10.tail.right.right.has
        have ex : q.u1[t]? = some q.u1[t] := List.getElem?_eq_getElem hti
        obtain ⟨y, ey, r⟩ := hq.get ex
        generalize q.u1[t] = x at ex r
        have ex1 : (q.u1.map V.int)[t]? = some (V.int x) := by rw [List.getElem?_map, ex]; rfl
        have ey1 : (q.u2.map V.int)[t]? = some (V.int y) := by rw [List.getElem?_map, ey]; rfl
        refine ⟨_, rfl, q.p, _, _, _, rfl, rfl, SqL.of m0, at0, _, rfl, q.r1, _, _, _, rfl, rfl, SqL.of m1, atI_nat ex1, ?_⟩
        refine ⟨_, rfl, q.p, _, _, _, rfl, rfl, SqL.of m0, at1, _, rfl, q.r2, _, _, _, rfl, rfl, SqL.of m2, atI_nat ey1, ?_⟩
        refine ⟨_, rfl, .inl ⟨_, rfl, _, _, rfl, rfl, (by show (0 : Int) < 2; decide), rfl, _, rfl, ?_⟩⟩
        rw [K9.dec_int]
        have stay : ∀ (v7 v8 v9 : Option V), ∃ (v7' v8' v9' : Option V) (ws : List WI) (ks : List Int) (kv1 kv2 : List (Key × V)), ([some (.ref a), some (.ref b), some (.ref fd), some (.ref gd), some (.ref pw), some (.int (0 + (i : Int))), some (.ref q.p), v7, v8, v9] : L2.St) = [some (.ref a), some (.ref b), some (.ref fd), some (.ref gd), some (.ref pw), some (.int (0 + (i : Int))), some (.ref q.p), v7', v8', v9'] ∧ PairOk ρ D.objs ks kv1 kv2 ∧ (∀ i ∈ ws, wiOk ρ i) ∧
          ws.length + (i + 1) = 1 + ks.length ∧ Own A.T (adr (cs ++ es)) H ((pw, .lst (wiV ws)) :: (paX cs es fd gd kv1 kv2 ++ (ws.flatMap wiC ++ wiC q))) H10 := fun v7 v8 v9 => ⟨v7, v8, v9, ws, ks, kv1, kv2, rfl, hP, hws, hlen, W10⟩
        rcases r with ⟨hodd, rfl⟩ | ⟨hx2, hy2, r⟩
        · refine itT (decide_eq_true hodd) ?_
          refine itT rfl ?_
          refine ⟨_, rfl, _, rfl, rfl, _, rfl, ?_⟩
          refine itF (by simp) ?_
          exact stay _ _ _
        refine itF (decide_eq_false (by omega)) ?_
        refine ⟨_, rfl, .inl ⟨_, rfl, _, _, rfl, rfl, (by show (0 : Int) < 2; decide), rfl, _, rfl, ?_⟩⟩
        rw [K9.dec_int]
        refine itF (decide_eq_false (by omega)) ?_
        have f1 := W10.tail.left.right.right.is (fd, .dK kv1) (by simp)
        have f2 := W10.tail.left.right.right.is (gd, .dK kv2) (by simp)
        have d1 := DGet.k (k := Sum.inl (x / 2)) f1
        have d2 := DGet.k (k := Sum.inl (y / 2)) f2
        rw [hP.v1 _ _ r] at d1
        rw [hP.v2 _ _ r] at d2
        have W11 := W10.perm (List.perm_middle (l₁ := paX cs es fd gd kv1 kv2)).symm
        by_cases hx : x / 2 ∈ ks
        · rw [if_pos hx] at d1 d2
          refine ⟨_, rfl, _, _, rfl, rfl, ⟨by decide, by decide⟩, _, rfl, fd, _, rfl, d1, _, rfl, ?_⟩
          refine itF rfl ?_
          refine ⟨_, rfl, _, _, rfl, rfl, ⟨by decide, by decide⟩, _, rfl, gd, _, rfl, d2, _, rfl, ?_⟩
          refine itF rfl ?_
          refine ⟨_, rfl, _, rfl, _, rfl, _, _, rfl, rfl, ⟨by decide, by decide⟩, _, rfl, _, _, rfl, rfl, ⟨by decide, by decide⟩, _, rfl, _, rfl, a, b, fd, gd, x / 2, y / 2, D, E, cs, es, ρ, _, _, ks, kv1, kv2, rfl, hS, hS2, W11.left.start, sim, hP, small hP, r, fun H12 ks' kv1' kv2' hP' hks R12 => ?_⟩
          have W12 := (W11.call R12).perm List.perm_middle
          obtain rfl : ks' = ks := by
            rcases hks with ⟨_, e⟩ | ⟨z, _⟩
            · exact e
            · exact absurd hx z
          refine ⟨_, rfl, ?_⟩
          refine itF rfl ?_
          exact ⟨_, _, _, ws, ks', kv1', kv2', rfl, hP', hws, hlen, W12⟩
        · rw [if_neg hx] at d1 d2
          refine ⟨_, rfl, _, _, rfl, rfl, ⟨by decide, by decide⟩, _, rfl, fd, _, rfl, d1, _, rfl, ?_⟩
          refine itT rfl ?_
          refine itT rfl ?_
          refine ⟨_, rfl, _, rfl, _, rfl, _, _, rfl, rfl, ⟨by decide, by decide⟩, _, rfl, _, _, rfl, rfl, ⟨by decide, by decide⟩, _, rfl, _, rfl, a, b, fd, gd, x / 2, y / 2, D, E, cs, es, ρ, _, _, ks, kv1, kv2, rfl, hS, hS2, W11.left.start, sim, hP, small hP, r, fun H12 ks' kv1' kv2' hP' hks R12 => ?_⟩
          have W12 := (W11.call R12).perm List.perm_middle
          obtain rfl : ks' = ks ++ [x / 2] := by
            rcases hks with ⟨z, _⟩ | ⟨_, e⟩
            · exact absurd z hx
            · exact e
          obtain ⟨o1, o2, ho1, ho2, hk, hs⟩ := sim.c _ _ r
          refine ⟨_, rfl, ?_⟩
          refine itF rfl ?_
          refine ⟨_, rfl, .inl ⟨rfl, _, SqL.of (W12.get 0 rfl)⟩, _, rfl, _, rfl, _, _, rfl, rfl, ⟨by decide, by decide⟩, a, x / 2, D, cs, o1, rfl, hS, W12.tail.left.left.has, W12.tb, ho1, fun H13 r1 R13 => ?_⟩
          have W13 := W12.call0 R13
          refine ⟨_, rfl, _, rfl, _, _, rfl, rfl, ⟨by decide, by decide⟩, b, y / 2, E, es, o2, rfl, hS2, W13.tail.tail.left.right.left.has, W13.tb, ho2, fun H14 r2 R14 => ?_⟩
          have W14 := W13.call0 R14
          refine ⟨(by show 2 ≤ sizeLine; rw [sizeLine_eq]; decide), fun p hp => ?_⟩
          have W15 := (W14.new (o := .lst [.ref r1, .ref r2]) hp).perm (pa1 (paX cs es fd gd kv1' kv2') (ws.flatMap wiC) (wiC q) (pw, .lst (wiV ws)) (p, .lst [.ref r1, .ref r2]) (r1, .lst ((o1.kind :: o1.slots).map V.int)) (r2, .lst ((o2.kind :: o2.slots).map V.int)))
          have hkl := small hP'
          rw [List.length_append, List.length_singleton] at hkl
          refine ⟨pw, _, _, rfl, rfl, W15.get 0 rfl, line1000 (by rw [List.length_map]; omega), ?_⟩
          have W16 := W15.put 0 rfl rfl (b := pw) (o' := .lst (wiV ws ++ [.ref p]))
          have eV : wiV ws ++ [.ref p] = wiV (ws ++ [WI.mk p r1 r2 (o1.kind :: o1.slots) (o2.kind :: o2.slots)]) := by simp
          have eF : ws.flatMap wiC ++ [(p, .lst [.ref r1, .ref r2]), (r1, .lst ((o1.kind :: o1.slots).map V.int)), (r2, .lst ((o2.kind :: o2.slots).map V.int))] = (ws ++ [WI.mk p r1 r2 (o1.kind :: o1.slots) (o2.kind :: o2.slots)]).flatMap wiC := by
            rw [List.flatMap_append]
            simp [wiC]
          rw [eV] at W16 ⊢
          refine ⟨_, _, _, ws ++ [WI.mk p r1 r2 (o1.kind :: o1.slots) (o2.kind :: o2.slots)], ks ++ [x / 2], kv1', kv2', rfl, hP', fun i hi => ?_, by simp only [List.length_append, List.length_singleton]; omega, ?_⟩
          · rcases List.mem_append.mp hi with z | z
            · exact hws i z
            · rw [List.mem_singleton.mp z]
              refine ⟨.cons hk hs, ?_⟩
              obtain ⟨kk, hq⟩ := off_of_ob ho1
              have hbd := off_bound ho1 hq
              have htl := hO.totle
              unfold Ob.len at hbd
              show o1.slots.length + 1 ≤ 3000
              omega
          · rw [← eF]
            exact W16
      · rintro σ H10 ⟨v7, v8, v9, ws, ks, kv1, kv2, rfl, hP, hws, hlen, W10⟩
        refine ⟨_, _, _, _, _, ws, ks, kv1, kv2, rfl, hP, hws, hlen, W10.sub ?_⟩
        exact ((List.Sublist.append (List.Sublist.refl _) (List.sublist_append_left _ _))).cons₂ _
    · rintro σ H8 ⟨v5, v6, v7, v8, v9, ws, ks, kv1, kv2, rfl, hP, hws, hlen, W8⟩
      have := small hP
      omega
end
end K9
end
section
set_option Elab.async false
set_option linter.all false
set_option maxRecDepth 100000
set_option maxHeartbeats 4000000
/-! The two spaces, deed by deed, plain. -/
namespace K9
open L2 (V)
def HB (D : SpD) (n : Nat) : Prop := D.held.length ≤ n ∧ ∀ S, D.saved = some S → S.held.length ≤ n
theorem HB.le {D : SpD} {n m : Nat} (h : HB D n) (l : n ≤ m) : HB D m := ⟨Nat.le_trans h.1 l, fun S e => Nat.le_trans (h.2 S e) l⟩
theorem HB.to {D D' : SpD} {n : Nat} (h : HB D n) (e1 : D'.held = D.held) (e2 : D'.saved = D.saved) : HB D' n := ⟨by rw [e1]; exact h.1, fun S e => h.2 S (by rw [← e2]; exact e)⟩
theorem NewT.held {D D' : SpD} {kind : Int} {size pl : Nat} {told : List V} (h : NewT D kind size pl told D') : D'.held = D.held := by
  obtain ⟨o, D1, hN, hT⟩ := h
  obtain ⟨r1, r2, r3, r4, r5, r6, _⟩ := hN.rest
  cases o with
  | made n => obtain ⟨rfl, rfl⟩ := hT; exact r4
  | room => obtain ⟨rfl, rfl⟩ := hT; exact r4
  | num => obtain ⟨rfl, rfl⟩ := hT; exact r4
theorem deed_held {D D' : SpD} {x : Int} {told : List V} {n : Nat} (h : DeedR D x told D') (b : HB D n) : HB D' (n + 1) := by
  have b1 := b.le (Nat.le_succ n)
  unfold DeedR at h
  split at h
  · exact b1.to h.held h.saved.1
  split at h
  · exact b1.to (NewT.held (D := setRoot D (placeN (x / 20)) 0) h) (NewT.saved (D := setRoot D (placeN (x / 20)) 0) h).1
  split at h
  · obtain ⟨_, rfl⟩ := h
    exact b1.to rfl rfl
  split at h
  · unfold collF at h
    split at h
    · injection h with _ h; subst h; exact b1.to rfl rfl
    · injection h with _ h; subst h; exact b1
  split at h
  · unfold workF at h
    cases hs : D.saved with
    | none =>
      rw [hs] at h
      dsimp only at h
      split at h
      · injection h with _ h; subst h; exact b1
      · injection h with _ h; subst h
        refine ⟨b1.1, fun S e => ?_⟩
        have e : some _ = some S := e
        rw [← Option.some.inj e]
        exact b1.1
    | some S =>
      rw [hs] at h
      dsimp only at h
      split at h
      · injection h with _ h; subst h; exact ⟨b1.1, fun S e => by cases e⟩
      split at h
      · injection h with _ h; subst h; exact ⟨b1.2 S hs, fun S e => by cases e⟩
      · injection h with _ h; subst h; exact b1
  split at h
  · have hq := held_quiet h
    refine ⟨?_, fun S e => b1.2 S (by rw [← hq.2.2.1]; exact e)⟩
    unfold heldF at h
    split at h
    · injection h with _ h; subst h
      show (D.held ++ _).length ≤ _
      rw [List.length_append]
      have := b.1
      simp only [List.length_singleton]
      omega
    split at h
    · injection h with _ h; subst h
      show (D.held.take _).length ≤ _
      rw [List.length_take]
      have := b.1
      omega
    · injection h with _ h; subst h
      split <;> exact b1.1
  · have hq := changed_quiet h
    refine b1.to ?_ hq.2.2.1
    unfold changedF at h
    dsimp only at h
    split at h
    · injection h with _ h; subst h; rfl
    split at h
    · injection h with _ h; subst h; split <;> rfl
    · injection h with _ h; subst h; split <;> split <;> rfl
/-- what a deed does to what is saved -/
theorem deed_shut {D D' : SpD} {x : Int} {told : List V} (h : DeedR D x told D') (hs : D.saved = none) : (14 < x % 20 ∧ x % 20 < 17 → D' = beginD D) ∧ (¬ (14 < x % 20 ∧ x % 20 < 17) → D'.saved = none) := by
  by_cases h14 : x % 20 < 14
  · exact ⟨fun z => by omega, fun _ => by rw [h.saved h14 |>.1]; exact hs⟩
  by_cases hc : x % 20 = 14
  · have hw := h.coll hc
    unfold collF at hw
    rw [hs] at hw
    injection hw with e1 e2
    exact ⟨fun z => by omega, fun _ => by rw [e2]; exact hs⟩
  · have hw := h.work (by omega)
    unfold workF at hw
    rw [hs] at hw
    dsimp only at hw
    by_cases h16 : 16 < x % 20
    · rw [if_pos h16] at hw
      injection hw with e1 e2
      exact ⟨fun z => by omega, fun _ => by rw [e2]; exact hs⟩
    · rw [if_neg h16] at hw
      injection hw with e1 e2
      exact ⟨fun _ => e2, fun z => by omega⟩
theorem deed_open {D D' : SpD} {x : Int} {told : List V} {S : Sav} (h : DeedR D x told D') (hs : D.saved = some S) : (17 < x % 20 → D' = abortD D S) ∧ (x % 20 = 17 → D'.saved = none) ∧ (x % 20 < 17 → D'.saved = D.saved ∧ D'.room = D.room ∧ D'.entries = D.entries) := by
  by_cases h14 : x % 20 < 14
  · exact ⟨fun z => by omega, fun z => by omega, fun _ => h.saved h14⟩
  by_cases hc : x % 20 = 14
  · have hw := h.coll hc
    unfold collF at hw
    rw [hs] at hw
    injection hw with e1 e2
    exact ⟨fun z => by omega, fun z => by omega, fun _ => by rw [e2]; exact ⟨rfl, rfl, rfl⟩⟩
  · have hw := h.work (by omega)
    unfold workF at hw
    rw [hs] at hw
    dsimp only at hw
    by_cases h17 : x % 20 = 17
    · rw [if_pos h17] at hw
      injection hw with e1 e2
      exact ⟨fun z => by omega, fun _ => by rw [e2], fun z => by omega⟩
    rw [if_neg h17] at hw
    by_cases h18 : 17 < x % 20
    · rw [if_pos h18] at hw
      injection hw with e1 e2
      exact ⟨fun _ => e2, fun z => by omega, fun z => by omega⟩
    · rw [if_neg h18] at hw
      injection hw with e1 e2
      exact ⟨fun z => by omega, fun z => by omega, fun _ => by rw [e2]; exact ⟨rfl, rfl, rfl⟩⟩
/-- open work that will be undone -/
def UW (D E : SpD) : Prop := ∃ S, D.saved = some S ∧ E.saved = none ∧ Rel (abortD D S) E
theorem UW.begin {D E : SpD} (h : Rel D E) (hs : D.saved = none) : UW (beginD D) E := by
  have he : E.saved = none := by
    have q := h.sav
    rw [hs] at q
    cases e : E.saved with
    | none => rfl
    | some S => rw [e] at q; exact q.elim
  refine ⟨_, rfl, he, ?_⟩
  obtain ⟨ρ, s⟩ := h.sim
  refine ⟨⟨_, s.keep1 (W := allW D ++ [0]) fun w hw => List.mem_append_left _ hw⟩, h.room, h.ent, h.r1, h.r2, kept_nodup h.nd1, h.nd2, ?_, fun z => absurd rfl z⟩
  show RelS none E.saved
  rw [he]
  trivial
theorem Rel.like {D D' E : SpD} (h : Rel D E) (e1 : D'.objs = D.objs) (e2 : D'.roots = D.roots) (e3 : D'.held = D.held) (e4 : D'.room = D.room) (e5 : D'.entries = D.entries) (e6 : D'.saved = D.saved) : Rel D' E := by
  have ea : allW D' = allW D := by unfold allW; rw [e2, e3]
  refine ⟨by rw [e1, ea]; exact h.sim, by rw [e4]; exact h.room, by rw [e5]; exact h.ent, by rw [e2]; exact h.r1, h.r2, by rw [e1]; exact h.nd1, h.nd2, by rw [e6]; exact h.sav, fun z => by rw [e1]; exact h.opn (by rw [← e6]; exact z)⟩
theorem UW.stay {D D' E : SpD} (h : UW D E) (e1 : D'.saved = D.saved) (e2 : D'.room = D.room) (e3 : D'.entries = D.entries) : UW D' E := by
  obtain ⟨S, a, b, r⟩ := h
  exact ⟨S, by rw [e1]; exact a, b, r.like rfl rfl rfl e2 e3 rfl⟩
/-- the main loop's invariant -/
structure Inv (c : Nat → Int) (u : Nat → Bool) (k : Nat) (D E : SpD) : Prop where
  dd : Rel D D
  ee : Rel E E
  cl : opS c k = none → D.saved = none ∧ Rel D E
  op : ∀ s, opS c k = some s → D.saved ≠ none ∧ (u s = false → Rel D E) ∧ (u s = true → UW D E)
  hd : HB D k
  he : HB E k
theorem nxt_none {c : Nat → Int} {k : Nat} (h : opS c k = none) : opS c (k + 1) = if 14 < c k ∧ c k < 17 then some k else none := by
  show nxtS (opS c k) k (c k) = _
  rw [h]; rfl
theorem nxt_some {c : Nat → Int} {k s : Nat} (h : opS c k = some s) : opS c (k + 1) = if 16 < c k then none else some s := by
  show nxtS (opS c k) k (c k) = _
  rw [h]; rfl
theorem Inv.undone {c : Nat → Int} {n k : Nat} {D E D' : SpD} {x : Int} {t : List V} (h : Inv c (flS c n) k D E) (hk : k < n) (hx : c k = x % 20) (hu : flS c n k = true) (hD : DeedR D x t D') : Inv c (flS c n) (k + 1) D' E := by
  have F := flOk c n
  have dd := (deed_sim h.dd hD hD).2
  have hd := deed_held hD h.hd
  have he := h.he.le (Nat.le_succ k)
  cases e : opS c k with
  | none =>
    obtain ⟨hs, r⟩ := h.cl e
    have hb : 14 < c k ∧ c k < 17 := by
      by_cases z : 14 < c k ∧ c k < 17
      · exact z
      · rw [F.q2 k hk e z] at hu; cases hu
    have eD := (deed_shut hD hs).1 (by rw [← hx]; exact hb)
    refine ⟨dd, h.ee, fun z => ?_, fun s z => ?_, hd, he⟩
    · rw [nxt_none e, if_pos hb] at z; cases z
    · rw [nxt_none e, if_pos hb] at z
      obtain rfl : k = s := Option.some.inj z
      refine ⟨by rw [eD]; exact (fun z => by cases z), fun z => ?_, fun _ => by rw [eD]; exact UW.begin r hs⟩
      rw [hu] at z; cases z
  | some s =>
    obtain ⟨hs, _, ru⟩ := h.op s e
    obtain ⟨_, q2, q3, q4⟩ := F.q5 k s hk e
    have us : flS c n s = true := by rw [← q2]; exact hu
    have U := ru us
    obtain ⟨S, a, b, r⟩ := id U
    obtain ⟨p1, p2, p3⟩ := deed_open hD a
    by_cases h16 : 16 < c k
    · have h17 : 17 < x % 20 := by
        by_cases z : c k = 17
        · rw [q3 z] at hu; cases hu
        · omega
      have eD := p1 h17
      refine ⟨dd, h.ee, fun z => by rw [eD]; exact ⟨rfl, r⟩, fun s z => ?_, hd, he⟩
      rw [nxt_some e, if_pos h16] at z; cases z
    · obtain ⟨e1, e2, e3⟩ := p3 (by omega)
      refine ⟨dd, h.ee, fun z => ?_, fun s' z => ?_, hd, he⟩
      · rw [nxt_some e, if_neg h16] at z; cases z
      · rw [nxt_some e, if_neg h16] at z
        obtain rfl : s = s' := Option.some.inj z
        refine ⟨by rw [e1]; exact hs, fun z => ?_, fun _ => U.stay e1 e2 e3⟩
        rw [us] at z; cases z
theorem Inv.both {c : Nat → Int} {n k : Nat} {D E D' E' : SpD} {x : Int} {t1 t2 : List V} (h : Inv c (flS c n) k D E) (hk : k < n) (hx : c k = x % 20) (hu : flS c n k = false) (hD : DeedR D x t1 D') (hE : DeedR E x t2 E') : t1 = t2 ∧ Inv c (flS c n) (k + 1) D' E' := by
  have F := flOk c n
  have dd := (deed_sim h.dd hD hD).2
  have ee := (deed_sim h.ee hE hE).2
  have hd := deed_held hD h.hd
  have he := deed_held hE h.he
  cases e : opS c k with
  | none =>
    obtain ⟨hs, r⟩ := h.cl e
    obtain ⟨ht, r'⟩ := deed_sim r hD hE
    refine ⟨ht, dd, ee, fun z => ⟨?_, r'⟩, fun s z => ?_, hd, he⟩
    · rw [nxt_none e] at z
      split at z
      · cases z
      · rename_i hb
        exact (deed_shut hD hs).2 (by rw [← hx]; exact hb)
    · rw [nxt_none e] at z
      split at z
      · rename_i hb
        obtain rfl : k = s := Option.some.inj z
        have eD := (deed_shut hD hs).1 (by rw [← hx]; exact hb)
        refine ⟨by rw [eD]; exact (fun z => by cases z), fun _ => r', fun z => ?_⟩
        rw [hu] at z; cases z
      · cases z
  | some s =>
    obtain ⟨hs, rn, _⟩ := h.op s e
    obtain ⟨_, q2, q3, q4⟩ := F.q5 k s hk e
    have us : flS c n s = false := by rw [← q2]; exact hu
    obtain ⟨ht, r'⟩ := deed_sim (rn us) hD hE
    obtain ⟨S, a⟩ : ∃ S, D.saved = some S := by
      cases e : D.saved with
      | none => exact absurd e hs
      | some S => exact ⟨S, rfl⟩
    obtain ⟨p1, p2, p3⟩ := deed_open hD a
    refine ⟨ht, dd, ee, fun z => ⟨?_, r'⟩, fun s' z => ?_, hd, he⟩
    · rw [nxt_some e] at z
      split at z
      · rename_i h16
        by_cases h17 : x % 20 = 17
        · exact p2 h17
        · rw [p1 (by omega)]; rfl
      · cases z
    · rw [nxt_some e] at z
      split at z
      · cases z
      · rename_i h16
        obtain rfl : s = s' := Option.some.inj z
        refine ⟨by rw [(p3 (by omega)).1]; exact hs, fun _ => r', fun z => ?_⟩
        rw [us] at z; cases z
theorem Inv.last {c : Nat → Int} {n : Nat} {D E : SpD} (h : Inv c (flS c n) n D E) : Rel D E := by
  cases e : opS c n with
  | none => exact (h.cl e).2
  | some s =>
    obtain ⟨a1, _, _, a4, _⟩ := (flOk c n).q3 s e
    exact (h.op s e).2.1 (a4 s (Nat.le_refl _) a1)
end K9
end
section
set_option Elab.async false
set_option linter.all false
set_option maxRecDepth 100000
set_option maxHeartbeats 4000000
/-! How the two spaces begin, plain. -/
namespace K9
open L2 (V)
theorem first_fit {D D' : SpD} {o : Out} (h : FitR D 0 0 o D') (e : D.objs = []) (hr : 3 ≤ D.room) (he : 1 ≤ D.entries) : o = .made 0 ∧ D'.objs = [newOb 0 0 0] := by
  have hf : Fits D 0 := by
    unfold Fits
    rw [e]
    exact ⟨by show ((0 : Nat) : Int) + 3 + ((0 : Nat) : Int) ≤ D.room; omega, by show ((0 : Nat) : Int) < D.entries; omega⟩
  rcases h with ⟨_, all', hA, rfl⟩ | ⟨hn, _⟩
  · rw [e] at hA
    cases o with
    | made n =>
      obtain ⟨_, _, ⟨_, hz⟩, hall⟩ := hA
      obtain rfl := hz rfl
      exact ⟨rfl, hall⟩
    | room =>
      obtain ⟨q, _⟩ := hA
      have q : D.room < ((0 : Nat) : Int) + 3 + ((0 : Nat) : Int) := q
      omega
    | num =>
      obtain ⟨_, q, _⟩ := hA
      have q : D.entries ≤ ((0 : Nat) : Int) := q
      omega
  · exact absurd hf hn
theorem first_new {D D' : SpD} {o : Out} (h : NewR D 0 0 o D') (e : D.objs = []) (hs : D.saved = none) (hr : 3 ≤ D.room) (he : 1 ≤ D.entries) : o = .made 0 ∧ D'.objs = [newOb 0 0 0] := by
  rcases h with ⟨z, _⟩ | ⟨_, ⟨_, q⟩ | ⟨_, q⟩⟩
  · exact absurd hs z
  · refine first_fit q ?_ hr he
    show kept D.objs _ = []
    rw [e]
    rfl
  · exact first_fit q e hr he
theorem start_rel {D E : SpD} (h1 : D.objs = [newOb 0 0 0]) (h2 : E.objs = [newOb 0 0 0]) (r1 : D.roots = List.replicate 16 0) (r2 : E.roots = List.replicate 16 0) (d1 : D.held = []) (d2 : E.held = []) (s1 : D.saved = none) (s2 : E.saved = none) (hr : D.room = E.room) (he : D.entries = E.entries) : Rel D E := by
  have w0 : wrel (fun a b => a = 0 ∧ b = 0) 0 0 := .inr ⟨rfl, rfl, rfl, rfl⟩
  have hw : ∀ {F : SpD}, F.roots = List.replicate 16 0 → F.held = [] → allW F = List.replicate 17 0 := fun {F} a b => by unfold allW; rw [a, b]; rfl
  refine ⟨⟨fun a b => a = 0 ∧ b = 0, ?_, ?_, ?_, ?_⟩, hr, he, by rw [r1]; rfl, by rw [r2]; rfl, by rw [h1]; decide, by rw [h2]; decide, by rw [s1, s2]; trivial, fun z => absurd s1 z⟩
  · rw [hw r1 d1, hw r2 d2]
    exact F2.replicate w0 17
  · rintro a b b' ⟨_, rfl⟩ ⟨_, rfl⟩; rfl
  · rintro a a' b ⟨rfl, _⟩ ⟨rfl, _⟩; rfl
  · rintro a b ⟨rfl, rfl⟩
    exact ⟨newOb 0 0 0, newOb 0 0 0, by rw [h1]; rfl, by rw [h2]; rfl, w0, .nil⟩
/-- a space after its first object -/
structure Begun (D : SpD) (room entries : Int) : Prop where
  objs : D.objs = [newOb 0 0 0]
  roots : D.roots = List.replicate 16 0
  held : D.held = []
  saved : D.saved = none
  room : D.room = room
  ent : D.entries = entries
theorem Begun.of {D : SpD} {room entries : Int} {ms : List Int} {b : Bool} {o : Out} (h : NewR { newSp room entries with press := ms, always := b } 0 0 o D) (hr : 3 ≤ room) (he : 1 ≤ entries) : o = .made 0 ∧ Begun D room entries := by
  obtain ⟨h1, h2⟩ := first_new h rfl rfl hr he
  obtain ⟨q1, q2, q3, q4, q5, _⟩ := h.rest
  exact ⟨h1, h2, q3, q4, q5, q1, q2⟩
theorem Begun.inv {D E : SpD} {room entries : Int} {c : Nat → Int} {u : Nat → Bool} (h : Begun D room entries) (g : Begun E room entries) : Inv c u 0 D E := by
  have hb : ∀ {F : SpD}, Begun F room entries → HB F 0 := fun {F} q => ⟨by rw [q.held]; exact Nat.le_refl _, fun S e => by rw [q.saved] at e; cases e⟩
  have rel : ∀ {F G : SpD}, Begun F room entries → Begun G room entries → Rel F G := fun {F G} p q => start_rel p.objs q.objs p.roots q.roots p.held q.held p.saved q.saved (p.room.trans q.room.symm) (p.ent.trans q.ent.symm)
  exact ⟨rel h h, rel g g, fun _ => ⟨h.saved, rel h g⟩, fun s z => (by cases z), hb h, hb g⟩
end K9
end
section
set_option Elab.async false
set_option linter.all false
set_option maxRecDepth 100000
set_option maxHeartbeats 4000000
/-! The law. -/
namespace K9
open PySem PySem.Spec PyProof.Rows L2 LamX
theorem deed_room {D D' : SpD} {x : Int} {told : List V} (h : DeedR D x told D') : D'.room = D.room ∧ D'.entries = D.entries := by
  by_cases h14 : x % 20 < 14
  · exact ⟨(h.saved h14).2.1, (h.saved h14).2.2⟩
  cases hs : D.saved with
  | none =>
    by_cases hc : x % 20 = 14
    · have hw := h.coll hc
      unfold collF at hw
      rw [hs] at hw
      injection hw with e1 e2
      rw [e2]; exact ⟨rfl, rfl⟩
    · have hw := h.work (by omega)
      unfold workF at hw
      rw [hs] at hw
      dsimp only at hw
      split at hw <;> (injection hw with e1 e2; rw [e2]; exact ⟨rfl, rfl⟩)
  | some S =>
    obtain ⟨p1, p2, p3⟩ := deed_open h hs
    by_cases h17 : x % 20 < 17
    · exact (p3 h17).2
    · have hw := h.work (by omega)
      unfold workF at hw
      rw [hs] at hw
      dsimp only at hw
      split at hw
      · injection hw with e1 e2; rw [e2]; exact ⟨rfl, rfl⟩
      split at hw
      · injection hw with e1 e2; rw [e2]; exact ⟨rfl, rfl⟩
      · injection hw with e1 e2; rw [e2]; exact ⟨rfl, rfl⟩
def TOk (told : List V) : Prop := (∀ z ∈ told, isIS z) ∧ told.length ≤ 1000
theorem tok2 {s : Str} {v : V} (hv : isIS v) : TOk [.str s, v] := ⟨fun z hz => by
  simp only [List.mem_cons, List.not_mem_nil, or_false] at hz
  rcases hz with rfl | rfl
  · trivial
  · exact hv, (by show 2 ≤ 1000; decide)⟩
theorem tok3 {s : Str} {u v : Int} : TOk [.str s, .int u, .int v] := ⟨fun z hz => by
  simp only [List.mem_cons, List.not_mem_nil, or_false] at hz
  rcases hz with rfl | rfl | rfl <;> trivial, (by show 3 ≤ 1000; decide)⟩
theorem NewT.tok {D D' : SpD} {kind : Int} {size pl : Nat} {told : List V} (h : NewT D kind size pl told D') : TOk told := by
  obtain ⟨o, D1, hN, hT⟩ := h
  cases o with
  | made n => obtain ⟨rfl, rfl⟩ := hT; exact tok2 trivial
  | room => obtain ⟨rfl, rfl⟩ := hT; exact tok2 trivial
  | num => obtain ⟨rfl, rfl⟩ := hT; exact tok2 trivial
theorem deed_told {D D' : SpD} {x : Int} {told : List V} (h : DeedR D x told D') : TOk told := by
  unfold DeedR at h
  split at h
  · exact h.tok
  split at h
  · exact h.tok
  split at h
  · obtain ⟨rfl, _⟩ := h
    exact tok2 trivial
  split at h
  · unfold collF at h
    split at h
    · injection h with h _; rw [h]; exact tok2 trivial
    · injection h with h _; rw [h]; exact tok2 trivial
  split at h
  · unfold workF at h
    split at h
    · split at h
      · injection h with h _; rw [h]; exact tok2 trivial
      · injection h with h _; rw [h]; exact tok2 trivial
    · split at h
      · injection h with h _; rw [h]; exact tok2 trivial
      split at h
      · injection h with h _; rw [h]; exact tok2 trivial
      · injection h with h _; rw [h]; exact tok2 trivial
  split at h
  · unfold heldF at h
    split at h
    · injection h with h _; rw [h]; exact tok2 trivial
    split at h
    · injection h with h _; rw [h]; exact tok2 trivial
    · injection h with h _; rw [h]; exact tok2 trivial
  · unfold changedF at h
    dsimp only at h
    split at h
    · injection h with h _; rw [h]; exact tok2 trivial
    split at h
    · injection h with h _; rw [h]; exact tok3
    · injection h with h _; rw [h]; exact tok3
theorem lw3 {α : Type} (C D L E M : List α) (p t : α) : ((t :: (C ++ (D ++ ([p] ++ L)))) ++ (E ++ M)).Perm (E ++ ([t, p] ++ ((C ++ (D ++ L)) ++ M))) := by
  classical
  rw [List.perm_iff_count]
  intro z
  simp only [List.count_append, List.count_cons, List.count_nil]
  omega
theorem lw4 {α : Type} (E N M : List α) : (E ++ (N ++ M)).Perm (N ++ (E ++ M)) := by
  classical
  rw [List.perm_iff_count]
  intro z
  simp only [List.count_append]
  omega
theorem lw5 {α : Type} (C E M : List α) : (E ++ (C ++ M)).Perm (C ++ (E ++ M)) := lw4 E C M
theorem lw2 {α : Type} (C D E L M : List α) : ((C ++ (D ++ L)) ++ (E ++ M)).Perm ((C ++ E) ++ (D ++ (L ++ M))) := by
  classical
  rw [List.perm_iff_count]
  intro z
  simp only [List.count_append]
  omega
theorem lw1 {α : Type} (p u s l2 : α) (E C : List α) (a b : α) : (s :: (u :: (p :: (E ++ (C ++ [a, b]))))).Perm ((C ++ ([s] ++ [a])) ++ (E ++ [p, u, b])) := by
  classical
  rw [List.perm_iff_count]
  intro z
  simp only [List.count_append, List.count_cons, List.count_nil]
  omega
section
variable {P : Program} {w : World} {K : PySem.W.Frag} {mg : Str → Option Value} {base : Heap} {A : Ads}
def lwC (lp l : Addr) (room entries : Int) (cells : List Int) : List Cell := [(lp, .tup [.int room, .int entries]), (l, .lst (cells.map V.int))]
def spLaw (K : PySem.W.Frag) (A : Ads) : Sp := fun vs H Q _ => ∃ (a : Addr) (ns : List Int), vs = [.ref a] ∧ SqL K H a (ns.map V.int) ∧ ns.length ≤ 63 ∧ Tabs A.T H ∧ ∀ H' : Hp, Q (.bl true) H'
theorem okF {x qual : Str} {st : Stmt} {f : Addr} {fd : FuncData} {N ps : List Str} {k : Nat} {sp : Sp} (F : Fun K x qual st f fd) (S : FnScope N ps (defScope st)) (len : ∀ vs H Q E, sp vs H Q E → vs.length = ps.length)
    (hbody : ∀ (cdv : Value) (A : Around) (outer : List Env) (s : Shared) (H : Hp) (vs : List V) (Q : VK) (E : XK), Room k (A.deeper (envOfC qual (defScope st) s.heap.objs.size f cdv)) → sp vs H Q E →
      ∃ t, PSs (cxOf (L2N.CX P w) P w K mg base N qual (defScope st) f cdv A outer s H E).nox (defBody st) t ∧ t { nx := fun _ H' => Q .non H', rt := Q } (start N vs) H) : FnOk P w K mg base (L2N.CX P w) (k + 1) f fd ps sp := by
  obtain ⟨oc, od, kV, doc, pm, an, cdv, ct, osl, rfl, lk, hcd⟩ := F.ex
  refine fn_of lk hcd S len fun A outer s H vs Q E hr hsp => ?_
  obtain ⟨t, h, q⟩ := hbody cdv A outer s H vs Q E hr hsp
  exact ⟨t, h.nox, q⟩
theorem ok_l_law (T : Txt P K mg A) (TB : TabB base mg A.cc A.tb) {fd : FuncData} (F : Fun K "law" "law" st_l_law A.l_law fd) : FnOk P w K mg base (L2N.CX P w) 14 A.l_law fd ["_law_script"] (spLaw K A) := by
  refine okF F sc_l_law (fun vs H Q E h => ?_) (fun cdv Ar outer s0 H vs Q E9 hr h => ?_)
  · obtain ⟨_, _, rfl, _⟩ := h
    rfl
  · obtain ⟨a, ns, rfl, hS, hl, ht, k⟩ := h
    have nd := sc_l_law.nd
    have hr1 := hr.mono (j := 1) (by decide)
    have hr2 := hr.mono (j := 2) (by decide)
    have hr4 := hr.mono (j := 4) (by decide)
    have hr5 := hr.mono (j := 5) (by decide)
    have hr9 := hr.mono (j := 9) (by decide)
    have hr12 := hr.mono (j := 12) (by decide)
    obtain ⟨fdI, psI, FI, bI⟩ := (ok_p_init (P := P) (w := w) (base := base) T).ex
    refine ⟨_, (pss_cons (ps_setLc (i := 1) (own := [("_law_cell", 10)]) (g := gName 10) rfl nd rfl rfl (sw_true rfl rfl rfl (by decide +kernel)) (pi_list (pv 0)) (blkOk_by (N := ["_law_script", "_law_cells", "_law_limits_here", "_law_one", "_law_other", "_law_deeds_here", "_law_k", "_law_undone_here", "_law_saved", "_law_step", "_law_cell"]) (sc := defScope st_l_law) (by decide +kernel)) (fun _ _ _ _ _ => pg_name (i := 10) nd rfl (.inl rfl)) (fun _ _ _ _ _ => pts_nil) (fun _ _ _ _ _ => by exact (pe_callTy call_int1 (by rfl) T.b_int (by decide +kernel) (pa_cons (pv 10) pa_nil))))
        (pss_cons (ps_while PassesOwn.never (pt_cmpR op_lt (pe_callB call_len_seq (by rfl) T.b_len PySem.boot_len (pa_cons (pv 1) pa_nil)) pe_int (nomark _)) (pss_one (ps_expr (pe_bm PySem.F.plainAttrs_list PySem.F.slot_list_append PySem.F.type_list_append mt_append (pv 1) (pa_cons pe_int pa_nil)))))
        (pss_cons (ps_set (i := 2) nd rfl (.inl rfl) (pe_run ((ok_l_limits T).runs hr2 passN0) T.g_l_limits T.k_l_limits (pa_cons (pe_ix ix_list (pv 1) pe_int (fun _ _ => rfl)) pa_nil)))
        (pss_cons (ps_set (i := 3) nd rfl (.inl rfl) (pe_make T.mkS FI hr4 rfl T.g_CS bI .nil (E := E0) (fun _ _ _ _ _ _ _ z => by obtain ⟨_, _, _, _, _, _, _, _, _, _, _, _, z⟩ := z; exact z.elim) (pa_cons (pe_ix ix_tup (pv 2) pe_int (fun _ _ => rfl)) (pa_cons (pe_ix ix_tup (pv 2) pe_int (fun _ _ => rfl)) pa_nil))))
        (pss_cons (ps_set (i := 4) nd rfl (.inl rfl) (pe_make T.mkS FI hr4 rfl T.g_CS bI .nil (E := E0) (fun _ _ _ _ _ _ _ z => by obtain ⟨_, _, _, _, _, _, _, _, _, _, _, _, z⟩ := z; exact z.elim) (pa_cons (pe_ix ix_tup (pv 2) pe_int (fun _ _ => rfl)) (pa_cons (pe_ix ix_tup (pv 2) pe_int (fun _ _ => rfl)) pa_nil))))
        (pss_cons (ps_expr (pe_run ((ok_l_pressed T).runs hr2 passN0) T.g_l_pressed T.k_l_pressed (pa_cons (pv 3) (pa_cons (pe_ix ix_list (pv 1) pe_int (fun _ _ => rfl)) (pa_cons pe_int pa_nil)))))
        (pss_cons (ps_expr (pe_run ((ok_l_pressed T).runs hr2 passN0) T.g_l_pressed T.k_l_pressed (pa_cons (pv 4) (pa_cons (pe_ix ix_list (pv 1) pe_int (fun _ _ => rfl)) (pa_cons pe_int pa_nil)))))
        (pss_cons (ps_if (PW.pt (pw_or (pt_cmpR op_ne (pe_mrun (pv 3) T.clS T.m_p_new ((ok_p_new T TB).runs hr9 passN0) (pa_cons pe_int (pa_cons pe_int pa_nil))) pe_int (nomark _)) (pw_or1 (pt_cmpR op_ne (pe_mrun (pv 4) T.clS T.m_p_new ((ok_p_new T TB).runs hr9 passN0) (pa_cons pe_int (pa_cons pe_int pa_nil))) pe_int (nomark _))))) (pss_one (ps_ret pe_bl)) pss_nil)
        (pss_cons (ps_set (i := 5) nd rfl (.inl rfl) (pe_lst pa_nil))
        (pss_cons (ps_for PassesOwn.never rfl (pi_range2 rfl T.b_range (pa_cons pe_int (pa_cons (pe_callB call_len_seq (by rfl) T.b_len PySem.boot_len (pa_cons (pv 1) pa_nil)) pa_nil))) (pg_name (i := 6) nd rfl (.inl rfl)) (pss_one (ps_expr (pe_bm PySem.F.plainAttrs_list PySem.F.slot_list_extend PySem.F.type_list_extend mt_extend (pv 5) (pa_cons (pe_run ((ok_l_deeds T).runs hr2 passN0) T.g_l_deeds T.k_l_deeds (pa_cons (pe_ix ix_list (pv 1) (pv 6) (fun _ _ => rfl)) (pa_cons (pv 6) pa_nil))) pa_nil)))))
        (pss_cons (ps_set (i := 7) nd rfl (.inl rfl) (pe_run ((ok_l_undone T).runs hr1 passN0) T.g_l_undone T.k_l_undone (pa_cons (pv 5) pa_nil)))
        (pss_cons (ps_set (i := 8) nd rfl (.inl rfl) (pe_lst pa_nil))
        (pss_cons (ps_for PassesOwn.never rfl (pi_range1 rfl T.b_range (pa_cons (pe_callB call_len_seq (by rfl) T.b_len PySem.boot_len (pa_cons (pv 5) pa_nil)) pa_nil)) (pg_name (i := 6) nd rfl (.inl rfl)) (pss_cons (ps_set (i := 9) nd rfl (.inl rfl) (pe_run ((ok_l_first T TB).runs hr passN0) T.g_l_first T.k_l_first (pa_cons (pv 3) (pa_cons (pv 2) (pa_cons (pv 8) (pa_cons (pe_ix ix_list (pv 5) (pv 6) (fun _ _ => rfl)) pa_nil))))))
        (pss_cons (ps_if (pt_not (pt_val (pe_ix ix_tup (pv 9) pe_int (fun _ _ => rfl)))) (pss_one (ps_ret pe_bl)) pss_nil)
        (pss_cons (ps_set (i := 8) nd rfl (.inl rfl) (pe_ix ix_tup (pv 9) pe_int (fun _ _ => rfl)))
        (pss_one (ps_if (PW.pt (pw_and (pt_not (pt_val (pe_ix ix_list (pv 7) (pv 6) (fun _ _ => rfl)))) (pw_and1 (pt_not (pt_val (pe_run ((ok_l_equal T).runs hr1 passN0) T.g_l_equal T.k_l_equal (pa_cons (pe_ix ix_tup (pv 9) pe_int (fun _ _ => rfl)) (pa_cons (pe_run ((ok_l_both T TB).runs hr12 passN0) T.g_l_both T.k_l_both (pa_cons (pv 4) (pa_cons (pe_ix ix_list (pv 5) (pv 6) (fun _ _ => rfl)) pa_nil))) pa_nil)))))))) (pss_one (ps_ret pe_bl)) pss_nil))))))
        (pss_one (ps_ret (pe_run ((ok_l_alike T).runs hr5 passN0) T.g_l_alike T.k_l_alike (pa_cons (pv 3) (pa_cons (pv 4) pa_nil)))))))))))))))))), ?_⟩
    have W0 : Own A.T [] H [] H := Own.nil ht
    refine ⟨_, rfl, a, rfl, ⟨_, hS⟩, fun l hl1 => ?_⟩
    have W1 := W0.new (o := .lst []) hl1
    refine lc_list (K := K) (a := a) (xs := ns.map V.int) (fun i H' => Own A.T [] H [(l, .lst ((ns.take i).map V.int))] H') W1 (fun i H' _ W2 => W2.seq List.not_mem_nil hS) ?_ ?_
    · intro i y H2 hi W2
      rw [List.getElem?_map] at hi
      obtain ⟨x, hx, rfl⟩ : ∃ x, ns[i]? = some x ∧ y = V.int x := by
        cases e : ns[i]? with
        | none => rw [e] at hi; cases hi
        | some x => rw [e] at hi; exact ⟨x, rfl, (Option.some.inj hi).symm⟩
      refine ⟨rfl, ?_⟩
      dsimp only [tYes]
      rw [if_pos rfl]
      refine ⟨_, rfl, .inl ⟨_, rfl, _, W2.get 0 rfl, ?_, ?_⟩⟩
      · refine line1000 ?_
        rw [List.length_map, List.length_take]
        omega
      · have W3 := W2.put 0 rfl rfl (b := l) (o' := .lst ((ns.take i).map V.int ++ [.int x]))
        have e : (ns.take i).map V.int ++ [.int x] = (ns.take (i + 1)).map V.int := by rw [take_snoc hx, List.map_append]; rfl
        rw [e] at W3 ⊢
        exact W3
    intro H2 W2
    rw [List.length_map, List.take_length] at W2
    dsimp only [gName]
    refine while_m (fun m σ H' => ∃ ms : List Int, σ = [some (.ref a), some (.ref l), none, none, none, none, none, none, none, none, none] ∧ m = 3 - ms.length ∧ ms.length ≤ 63 ∧ Own A.T [] H [(l, .lst (ms.map V.int))] H') (3 - ns.length) ⟨ns, rfl, rfl, hl, W2⟩ ?_
    rintro m σ H3 ⟨ms, rfl, rfl, hms, W3⟩
    refine ⟨_, rfl, l, _, rfl, .inl (SqL.of (W3.get 0 rfl)), _, _, rfl, rfl, _, rfl, ?_⟩
    rw [List.length_map]
    refine ite2 (fun c => ?_) (fun c => ?_)
    · have c : (ms.length : Int) < 3 := of_decide_eq_true c
      refine ⟨fun σ' H' => ∃ m', m' < 3 - ms.length ∧ _, fun σ' H' z => z, ?_⟩
      refine ⟨_, rfl, .inl ⟨rfl, _, SqL.of (W3.get 0 rfl)⟩, l, _, _, rfl, rfl, W3.get 0 rfl, line1000 (by rw [List.length_map]; omega), ?_⟩
      have W4 := W3.put 0 rfl rfl (b := l) (o' := .lst (ms.map V.int ++ [.int 4]))
      refine ⟨_, ?_, ms ++ [4], rfl, rfl, by rw [List.length_append, List.length_singleton]; omega, ?_⟩
      · rw [List.length_append, List.length_singleton]; omega
      · rw [List.map_append]
        exact W4
    have c : ¬ (ms.length : Int) < 3 := fun z => c (decide_eq_true z)
    obtain ⟨c0, c1, c2, ms', rfl⟩ : ∃ c0 c1 c2 ms', ms = c0 :: c1 :: c2 :: ms' := by
      match ms, c with
      | [], c => exact absurd (by decide) c
      | [_], c => exact absurd (by show (1 : Int) < 3; decide) c
      | [_, _], c => exact absurd (by show (2 : Int) < 3; decide) c
      | c0 :: c1 :: c2 :: ms', _ => exact ⟨c0, c1, c2, ms', rfl⟩
    refine ⟨_, rfl, l, _, _, _, rfl, rfl, SqL.of (W3.get 0 rfl), at0, c0, rfl, W3.tb, fun room entries H4 lp r0 r1 e0 e1 R4 => ?_⟩
    have W4 := W3.call0 R4
    have gl := W4.is (lp, .tup [.int room, .int entries]) (by simp)
    refine ⟨_, rfl, lp, _, _, _, rfl, rfl, SqT.of gl, at0, _, rfl, lp, _, _, _, rfl, rfl, SqT.of gl, at1, fun x dx hx hdx ne => ?_⟩
    have s1 : Same H4 (upd (upd H4 dx (.own x)) x (.ins A.CS dx [])) := fun b o e => by
      rw [upd_ne (ne_of_none e hx), upd_ne (ne_of_none e hdx)]; exact e
    have W5 := W4.made s1 hx upd_same (o := .ins A.CS dx [])
    refine ⟨x, dx, room, entries, rfl, W5.one.start, by omega, r1, by omega, e1, fun H5 cs hS5 R5 => ?_⟩
    refine ⟨rfl, ?_⟩
    have W6 := Own.call (cs := [(x, .ins A.CS dx [])]) W5 R5
    have gl := W6.right.is (lp, .tup [.int room, .int entries]) (by simp)
    refine ⟨_, rfl, lp, _, _, _, rfl, rfl, SqT.of gl, at0, _, rfl, lp, _, _, _, rfl, rfl, SqT.of gl, at1, fun y dy hy hdy ne => ?_⟩
    have s2 : Same H5 (upd (upd H5 dy (.own y)) y (.ins A.CS dy [])) := fun b o e => by
      rw [upd_ne (ne_of_none e hy), upd_ne (ne_of_none e hdy)]; exact e
    have W7 := W6.made s2 hy upd_same (o := .ins A.CS dy [])
    refine ⟨y, dy, room, entries, rfl, W7.one.start, by omega, r1, by omega, e1, fun H6 es hS6 R6 => ?_⟩
    refine ⟨rfl, ?_⟩
    have W8 := Own.call (cs := [(y, .ins A.CS dy [])]) W7 R6
    -- es ++ (cs ++ (limits, cells))
    have gc := W8.right.right.is (l, .lst ((c0 :: c1 :: c2 :: ms').map V.int)) (by simp)
    refine ⟨_, rfl, _, rfl, l, _, _, _, rfl, rfl, SqL.of gc, at1, x, c1, 1, newSp room entries, cs, rfl, hS5, W8.right.left.start, fun p1 b1 H7 cs1 hS7 R7 => ?_⟩
    have W9 := W8.mid R7
    have gc := W9.right.right.is (l, .lst ((c0 :: c1 :: c2 :: ms').map V.int)) (by simp)
    refine ⟨_, rfl, _, rfl, l, _, _, _, rfl, rfl, SqL.of gc, at2, y, c2, 2, newSp room entries, es, rfl, hS6, W9.left.start, fun p2 b2 H8 es1 hS8 R8 => ?_⟩
    have W10 := W9.call R8
    obtain ⟨dx9, _, _, _, _, _, h9⟩ := hS7.ins W10.right.left.has
    refine ⟨_, rfl, x, dx9, _, rfl, h9, spF_none (by decide +kernel), x, 0, 0, _, cs1, rfl, hS7, W10.right.left.start, by decide, fun o D hN => ?_⟩
    obtain ⟨rfl, hD⟩ := Begun.of hN r0 e0
    intro H9 cs2 hS9 R9
    have W11 := W10.mid R9
    refine ⟨rfl, _, rfl, ?_⟩
    refine itF rfl ?_
    obtain ⟨dx8, _, _, _, _, _, h8⟩ := hS8.ins W11.left.has
    refine ⟨_, rfl, y, dx8, _, rfl, h8, spF_none (by decide +kernel), y, 0, 0, _, es1, rfl, hS8, W11.left.start, by decide, fun o E hN => ?_⟩
    obtain ⟨rfl, hE⟩ := Begun.of hN r0 e0
    intro H10 es2 hS10 R10
    have W12 := W11.call R10
    refine ⟨rfl, _, rfl, ?_⟩
    refine itF rfl ?_
    refine ⟨Nat.zero_le _, fun pd hpd => ?_⟩
    have W13 := W12.new (o := .lst []) hpd
    have W13 : Own A.T [] H ((pd, .lst (([] : List Int).map V.int)) :: (es2 ++ (cs2 ++ lwC lp l room entries (c0 :: c1 :: c2 :: ms')))) _ := W13
    have gc := W13.tail.right.right.is (l, .lst ((c0 :: c1 :: c2 :: ms').map V.int)) (by simp [lwC])
    have hms' : ms'.length ≤ 60 := by simp only [List.length_cons] at hms; omega
    have hlen3 : ((List.map V.int (c0 :: c1 :: c2 :: ms')).length : Int) = 3 + (ms'.length : Int) := by
      rw [List.length_map]
      simp only [List.length_cons]
      omega
    refine ⟨_, rfl, l, _, rfl, .inl (SqL.of gc), 3, _, rfl, ⟨by decide, by decide, by omega, by omega⟩, ?_⟩
    have en : (((List.map V.int (c0 :: c1 :: c2 :: ms')).length : Int) - 3).toNat = ms'.length := by omega
    rw [en]
    refine for_range (lo := 3) (n := ms'.length) (Pv := fun i σ H' => ∃ (v6 : Option V) (xs : List Int), σ = [some (.ref a), some (.ref l), some (.ref lp), some (.ref x), some (.ref y), some (.ref pd), v6, none, none, none, none] ∧ xs.length = 2 * i ∧
      Own A.T [] H ((pd, .lst (xs.map V.int)) :: (es2 ++ (cs2 ++ lwC lp l room entries (c0 :: c1 :: c2 :: ms')))) H') ⟨_, [], rfl, rfl, W13⟩ ?_ ?_
    · rintro i σ H11 hi ⟨v6, xs, rfl, hxs, W14⟩
      have gc := W14.tail.right.right.is (l, .lst ((c0 :: c1 :: c2 :: ms').map V.int)) (by simp [lwC])
      have z3 : ((3 : Int) + (i : Int)) = ((3 + i : Nat) : Int) := by omega
      rw [z3]
      obtain ⟨ci, hci⟩ : ∃ ci, (c0 :: c1 :: c2 :: ms')[3 + i]? = some ci := by
        have : 3 + i < (c0 :: c1 :: c2 :: ms').length := by simp only [List.length_cons]; omega
        exact ⟨_, List.getElem?_eq_getElem this⟩
      have hci1 : (List.map V.int (c0 :: c1 :: c2 :: ms'))[3 + i]? = some (V.int ci) := by rw [List.getElem?_map, hci]; rfl
      refine ⟨_, rfl, .inl ⟨rfl, _, SqL.of (W14.get 0 rfl)⟩, _, rfl, _, rfl, l, _, _, _, rfl, rfl, SqL.of gc, atI_nat hci1, _, rfl, ci, ((3 + i : Nat) : Int), rfl, W14.tb, fun d1 d2 H12 q R12 => ?_⟩
      have W15 := W14.call0 R12
      refine ⟨pd, q, _, _, rfl, rfl, W15.get 1 rfl, W15.get 0 rfl, ?_, ?_⟩
      · refine Nat.le_of_lt (line1000 ?_)
        rw [List.length_map]
        show xs.length + 2 ≤ 5000
        omega
      have W16 := (W15.put 1 rfl rfl (b := pd) (o' := .lst (xs.map V.int ++ [.int d1, .int d2]))).tail
      refine ⟨_, xs ++ [d1, d2], rfl, by rw [List.length_append, hxs]; show 2 * i + 2 = _; omega, ?_⟩
      rw [List.map_append]
      exact W16
    rintro σ H11 ⟨v6, xs, rfl, hxs, W14⟩
    refine ⟨_, rfl, pd, xs, rfl, W14.get 0 rfl, by omega, W14.tb, fun H12 pu R12 => ?_⟩
    have W15 := W14.call0 R12
    refine ⟨Nat.zero_le _, fun ps hps => ?_⟩
    have W16 := (W15.new (o := .lst []) hps).perm (lw1 (pd, .lst (xs.map V.int)) (pu, .lst (flL xs.length (flS (cf xs) xs.length))) (ps, .lst []) (ps, .lst []) es2 cs2 (lp, .tup [.int room, .int entries]) (l, .lst ((c0 :: c1 :: c2 :: ms').map V.int)))
    have gd := W16.right.right.is (pd, .lst (xs.map V.int)) (by simp)
    refine ⟨_, rfl, pd, _, rfl, .inl (SqL.of gd), _, rfl, by omega, by rw [List.length_map]; omega, ?_⟩
    rw [List.length_map, Int.toNat_natCast]
    refine for_range (lo := 0) (n := xs.length) (Pv := fun i σ H' => ∃ (v6 v9 : Option V) (D E : SpD) (cs es qs : List Cell) (ps : Addr), σ = [some (.ref a), some (.ref l), some (.ref lp), some (.ref x), some (.ref y), some (.ref pd), v6, some (.ref pu), some (.ref ps), v9, none] ∧
      Inv (cf xs) (flS (cf xs) xs.length) i D E ∧ D.room = room ∧ D.entries = entries ∧ SpR A.CT A.CS x D cs ∧ SpR A.CT A.CS y E es ∧ SavL ps D qs ∧
      Own A.T [] H (fiX cs qs lp D ++ (es ++ [(pd, .lst (xs.map V.int)), (pu, .lst (flL xs.length (flS (cf xs) xs.length)))])) H') ⟨_, _, D, E, cs2, es2, [(ps, .lst [])], ps, rfl, hD.inv hE, hD.room, hD.ent, hS9, hS10, .inl ⟨hD.saved, rfl⟩, ?_⟩ ?_ ?_
    · unfold fiX
      rw [hD.room, hD.ent]
      exact W16.sub (by
        refine List.Sublist.append (List.Sublist.refl _) (List.Sublist.append (List.Sublist.refl _) ?_)
        exact ((List.Sublist.refl _).cons₂ _).cons₂ _ |>.trans (by simp))
    · rintro i σ H13 hi ⟨v6, v9, D, E, cs, es, qs, ps, rfl, hI, hrm, hen, hS1, hS2, hV, W17⟩
      have z0 : ((0 : Int) + (i : Int)) = (i : Int) := by omega
      rw [z0]
      have ex1 : (xs.map V.int)[i]? = some (V.int (xs.getD i 0)) := by rw [List.getElem?_map, List.getD_eq_getElem?_getD, List.getElem?_eq_getElem hi]; rfl
      have hcx : cf xs i = xs.getD i 0 % 20 := rfl
      generalize xs.getD i 0 = v at ex1 hcx
      have gd := W17.right.right.is (pd, .lst (xs.map V.int)) (by simp)
      have h1 := hI.hd.1
      have h2 := hI.he.1
      refine ⟨_, rfl, _, rfl, _, rfl, _, rfl, _, rfl, pd, _, _, _, rfl, rfl, SqL.of gd, atI_nat ex1, x, lp, ps, v, D, cs, qs, rfl, hS1, hV, W17.left.start, hI.dd.rootsOk, by omega, fun told D' H14 cs' ps' qs' pt tp hD hS' hV' R14 => ?_⟩
      have W18 := (W17.call R14).perm (lw3 cs' qs' [(lp, .tup [.int D.room, .int D.entries])] es [(pd, .lst (xs.map V.int)), (pu, .lst (flL xs.length (flS (cf xs) xs.length)))] (pt, .lst told) (tp, .tup [.bl true, .ref ps', .ref pt]))
      have gt := W18.right.is (tp, .tup [.bl true, .ref ps', .ref pt]) (by simp)
      have gu := W18.right.right.right.is (pu, .lst (flL xs.length (flS (cf xs) xs.length))) (by simp)
      obtain ⟨er, ee⟩ := deed_room hD
      refine ⟨_, rfl, tp, _, _, _, rfl, rfl, SqT.of gt, at0, _, rfl, ?_⟩
      refine itF rfl ?_
      refine ⟨_, rfl, tp, _, _, _, rfl, rfl, SqT.of gt, at1, ?_⟩
      refine ⟨_, rfl, _, rfl, pu, _, _, _, rfl, rfl, SqL.of gu, atI_nat (flL_get hi), _, rfl, ?_⟩
      cases hu : flS (cf xs) xs.length i with
      | true =>
        refine itF rfl ?_
        refine itF rfl ?_
        refine ⟨_, _, D', E, cs', es, qs', ps', rfl, hI.undone hi hcx hu hD, er.trans hrm, ee.trans hen, hS', hS2, hV', ?_⟩
        unfold fiX
        rw [er, ee]
        have W19 := W18.perm (lw4 es [(tp, .tup [.bl true, .ref ps', .ref pt]), (pt, .lst told)] _)
        exact (W19.right).perm (lw5 (cs' ++ (qs' ++ [(lp, .tup [.int D.room, .int D.entries])])) es _)
      | false =>
        refine itT rfl ?_
        have gd := W18.right.right.right.is (pd, .lst (xs.map V.int)) (by simp)
        refine ⟨_, rfl, tp, _, _, _, rfl, rfl, SqT.of gt, at2, _, rfl, _, rfl, _, rfl, pd, _, _, _, rfl, rfl, SqL.of gd, atI_nat ex1, y, v, E, es, rfl, hS2, W18.left.start, hI.ee.rootsOk, by omega, fun told2 E' H15 es' p hE hS2' R15 => ?_⟩
        have W19 := W18.call R15
        have gp := W19.left.is (p, .lst told2) (by simp)
        have gt2 := W19.right.is (pt, .lst told) (by simp)
        obtain ⟨et, hI'⟩ := hI.both hi hcx hu hD hE
        refine ⟨pt, p, told, told2, rfl, gt2, gp, (deed_told hD).1, (deed_told hE).1, (deed_told hE).2, _, rfl, ?_⟩
        rw [decide_eq_true et]
        refine itF rfl ?_
        refine ⟨_, _, D', E', cs', es', qs', ps', rfl, hI', er.trans hrm, ee.trans hen, hS', hS2', hV', ?_⟩
        unfold fiX
        rw [er, ee]
        have W20 := W19.tail.perm (lw4 es' [(tp, .tup [.bl true, .ref ps', .ref pt]), (pt, .lst told)] _)
        exact (W20.right).perm (lw5 (cs' ++ (qs' ++ [(lp, .tup [.int D.room, .int D.entries])])) es' _)
    · rintro σ H13 ⟨v6, v9, D, E, cs, es, qs, ps, rfl, hI, hrm, hen, hS1, hS2, hV, W17⟩
      obtain ⟨ρ, sim⟩ := hI.last.sim
      have W18 := W17.perm (lw2 cs qs es [(lp, .tup [.int D.room, .int D.entries])] [(pd, .lst (xs.map V.int)), (pu, .lst (flL xs.length (flS (cf xs) xs.length)))])
      exact ⟨_, rfl, _, rfl, x, y, D, E, cs, es, ρ, rfl, hS1, hS2, W18.left.start, sim, k⟩
end
end K9
end
section
set_option Elab.async false
set_option linter.all false
set_option maxRecDepth 100000
set_option maxHeartbeats 4000000
/-! What the top has written. -/
namespace K9
open PySem PySem.Spec PyProof.Rows L2 LamX PySem.W PySem.HandSPX
theorem exm_mk {K : PySem.W.Frag} {C D : Addr} {v : Bool} (h1 : PySem.W.subIn K (.ref D) (.type "BaseException") = some true) (h2 : PySem.W.isClsIn K D = true) (h3 : PySem.W.typeIn K (.ref D) = some (.type "type")) (h4 : PySem.W.subIn K (.ref C) (.ref D) = some v) :
    PySem.W.exmOne K (.ref C) (.ref D) = some v := by
  have e1 : (PySem.W.subIn K (.ref D) (.type "BaseException") == some true) = true := by rw [h1] <;> rfl
  have h2' : (PySem.W.clsIn K D).isSome = true := h2
  have e2 : ((PySem.W.clsIn K D).isSome && PySem.W.typeIn K (.ref D) == some (.type "type")) = true := by rw [h2', h3] <;> rfl
  unfold PySem.W.exmOne
  rw [if_pos e1]
  unfold PySem.W.kitCls
  exact (if_pos e2).trans h4
theorem all_mk {P : Program} {K : PySem.W.Frag} {h : Heap} {mg : Str → Option Value} (X : K.In h) (G : h.Ns mainGlobals mg) {tb : Addr}
    {CT CS cE cR cN cW iR iN iW cc is_ref ref_of reached words_of collect s_init s_exists s_numbers s_free s_alloc s_size s_kind s_set_kind s_get s_put s_slots s_drop s_close s_snap s_rest s_exch p_init p_press p_root p_set_root p_hold p_drop p_held p_all p_collect p_with p_live p_new p_fit p_begin p_commit p_abort l_number l_deeds l_place l_word l_shown l_new l_held l_changed l_work l_done l_equal l_paired l_alike l_row l_state l_coll l_both l_begun l_grown l_first l_undone l_pressed l_limits l_law kD NR cdaR ccR NN cdaN ccN NW cdaW ccW : Addr}
    {odis_ref anis_ref odref_of anref_of odreached anreached odwords_of anwords_of odcollect ancollect ods_init ans_init ods_exists ans_exists ods_numbers ans_numbers ods_free ans_free ods_alloc ans_alloc ods_size ans_size ods_kind ans_kind ods_set_kind ans_set_kind ods_get ans_get ods_put ans_put ods_slots ans_slots ods_drop ans_drop ods_close ans_close ods_snap ans_snap ods_rest ans_rest ods_exch ans_exch odp_init anp_init odp_press anp_press odp_root anp_root odp_set_root anp_set_root odp_hold anp_hold odp_drop anp_drop odp_held anp_held odp_all anp_all odp_collect anp_collect odp_with anp_with odp_live anp_live odp_new anp_new odp_fit anp_fit odp_begin anp_begin odp_commit anp_commit odp_abort anp_abort odl_number anl_number odl_deeds anl_deeds odl_place anl_place odl_word anl_word odl_shown anl_shown odl_new anl_new odl_held anl_held odl_changed anl_changed odl_work anl_work odl_done anl_done odl_equal anl_equal odl_paired anl_paired odl_alike anl_alike odl_row anl_row odl_state anl_state odl_coll anl_coll odl_both anl_both odl_begun anl_begun odl_grown anl_grown odl_first anl_first odl_undone anl_undone odl_pressed anl_pressed odl_limits anl_limits odl_law anl_law ddR odiR aniR od2R cldR ddN odiN aniN od2N cldN ddW odiW aniW od2W cldW : Option Addr}
    {slis_ref slref_of slreached slwords_of slcollect sls_init sls_exists sls_numbers sls_free sls_alloc sls_size sls_kind sls_set_kind sls_get sls_put sls_slots sls_drop sls_close sls_snap sls_rest sls_exch slp_init slp_press slp_root slp_set_root slp_hold slp_drop slp_held slp_all slp_collect slp_with slp_live slp_new slp_fit slp_begin slp_commit slp_abort sll_number sll_deeds sll_place sll_word sll_shown sll_new sll_held sll_changed sll_work sll_done sll_equal sll_paired sll_alike sll_row sll_state sll_coll sll_both sll_begun sll_grown sll_first sll_undone sll_pressed sll_limits sll_law sliR s2R cslR sliN s2N cslN sliW s2W cslW : Array (Option Value)}
    {ocis_ref kVis_ref dcis_ref pmis_ref ctis_ref cdis_ref ocref_of kVref_of dcref_of pmref_of ctref_of cdref_of ocreached kVreached dcreached pmreached ctreached cdreached ocwords_of kVwords_of dcwords_of pmwords_of ctwords_of cdwords_of occollect kVcollect dccollect pmcollect ctcollect cdcollect ocs_init kVs_init dcs_init pms_init cts_init cds_init ocs_exists kVs_exists dcs_exists pms_exists cts_exists cds_exists ocs_numbers kVs_numbers dcs_numbers pms_numbers cts_numbers cds_numbers ocs_free kVs_free dcs_free pms_free cts_free cds_free ocs_alloc kVs_alloc dcs_alloc pms_alloc cts_alloc cds_alloc ocs_size kVs_size dcs_size pms_size cts_size cds_size ocs_kind kVs_kind dcs_kind pms_kind cts_kind cds_kind ocs_set_kind kVs_set_kind dcs_set_kind pms_set_kind cts_set_kind cds_set_kind ocs_get kVs_get dcs_get pms_get cts_get cds_get ocs_put kVs_put dcs_put pms_put cts_put cds_put ocs_slots kVs_slots dcs_slots pms_slots cts_slots cds_slots ocs_drop kVs_drop dcs_drop pms_drop cts_drop cds_drop ocs_close kVs_close dcs_close pms_close cts_close ocs_snap kVs_snap dcs_snap pms_snap cts_snap cds_snap ocs_rest kVs_rest dcs_rest pms_rest cts_rest cds_rest ocs_exch kVs_exch dcs_exch pms_exch cts_exch cds_exch ocp_init kVp_init dcp_init pmp_init ctp_init cdp_init ocp_press kVp_press dcp_press pmp_press ctp_press cdp_press ocp_root kVp_root dcp_root pmp_root ctp_root cdp_root ocp_set_root kVp_set_root dcp_set_root pmp_set_root ctp_set_root cdp_set_root ocp_hold kVp_hold dcp_hold pmp_hold ctp_hold cdp_hold ocp_drop kVp_drop dcp_drop pmp_drop ctp_drop cdp_drop ocp_held kVp_held dcp_held pmp_held ctp_held cdp_held ocp_all kVp_all dcp_all pmp_all ctp_all cdp_all ocp_collect kVp_collect dcp_collect pmp_collect ctp_collect cdp_collect ocp_with kVp_with dcp_with pmp_with ctp_with cdp_with ocp_live kVp_live dcp_live pmp_live ctp_live cdp_live ocp_new kVp_new dcp_new pmp_new ctp_new cdp_new ocp_fit kVp_fit dcp_fit pmp_fit ctp_fit cdp_fit ocp_begin kVp_begin dcp_begin pmp_begin ctp_begin cdp_begin ocp_commit kVp_commit dcp_commit pmp_commit ctp_commit cdp_commit ocp_abort kVp_abort dcp_abort pmp_abort ctp_abort cdp_abort ocl_number kVl_number dcl_number pml_number ctl_number cdl_number ocl_deeds kVl_deeds dcl_deeds pml_deeds ctl_deeds cdl_deeds ocl_place kVl_place dcl_place pml_place ctl_place cdl_place ocl_word kVl_word dcl_word pml_word ctl_word cdl_word ocl_shown kVl_shown dcl_shown pml_shown ctl_shown cdl_shown ocl_new kVl_new dcl_new pml_new ctl_new cdl_new ocl_held kVl_held dcl_held pml_held ctl_held cdl_held ocl_changed kVl_changed dcl_changed pml_changed ctl_changed cdl_changed ocl_work kVl_work dcl_work pml_work ctl_work cdl_work ocl_done kVl_done dcl_done pml_done ctl_done cdl_done ocl_equal kVl_equal dcl_equal pml_equal ctl_equal cdl_equal ocl_paired kVl_paired dcl_paired pml_paired ctl_paired cdl_paired ocl_alike kVl_alike dcl_alike pml_alike ctl_alike cdl_alike ocl_row kVl_row dcl_row pml_row ctl_row cdl_row ocl_state kVl_state dcl_state pml_state ctl_state cdl_state ocl_coll kVl_coll dcl_coll pml_coll ctl_coll cdl_coll ocl_both kVl_both dcl_both pml_both ctl_both cdl_both ocl_begun kVl_begun dcl_begun pml_begun ctl_begun cdl_begun ocl_grown kVl_grown dcl_grown pml_grown ctl_grown cdl_grown ocl_first kVl_first dcl_first pml_first ctl_first cdl_first ocl_undone kVl_undone dcl_undone pml_undone ctl_undone cdl_undone ocl_pressed kVl_pressed dcl_pressed pml_pressed ctl_pressed cdl_pressed ocl_limits kVl_limits dcl_limits pml_limits ctl_limits cdl_limits ocl_law kVl_law dcl_law pml_law ctl_law cdl_law ociR dciR pmiR ctiR o2R clR ociN dciN pmiN ctiN o2N clN ociW dciW pmiW ctiW o2W clW : Value}
    {tNIL tHEADER tROOTS tfR tfN tfW : Tok}
    {nmR qR fileR nmN qN fileN nmW qW fileW : Str}
    {bsR subR bmR bsN subN bmN bsW subW bmW : List Value}
    {snR snN snW : List Str}
    {abR abN abW : Bool}
    {colR colN colW : Option Bool}
    {m0R m1R m2R m3R m5R m0N m1N m2N m3N m5N m0W m1W m2W m3W m5W : Option Value}
    {vsR vsN vsW : Array Value}
    (aCT : PySem.W.nsIn K mainGlobals "Store" = some (some (.ref CT)))
    (aCS : PySem.W.nsIn K mainGlobals "Space" = some (some (.ref CS)))
    (acE : PySem.W.nsIn K mainGlobals "SaggarError" = some (some (.ref cE)))
    (acR : PySem.W.nsIn K mainGlobals "NoRoom" = some (some (.ref cR)))
    (acN : PySem.W.nsIn K mainGlobals "NoNumber" = some (some (.ref cN)))
    (acW : PySem.W.nsIn K mainGlobals "Wrong" = some (some (.ref cW)))
    (pgCT : PySem.W.plainGet K CT Str.empty = true)
    (hdCT : PySem.W.hasDictIn K CT = true)
    (poCT : PySem.W.plainOver K CT = true)
    (saCT : PySem.W.findIn K (.ref CT) "__setattr__" = some (some (.builtin "object.__setattr__")))
    (mkCT : PySem.W.makesIn K CT = true)
    (kpCT : PySem.W.keepIn K (.ref CT) = true)
    (pgCS : PySem.W.plainGet K CS Str.empty = true)
    (hdCS : PySem.W.hasDictIn K CS = true)
    (poCS : PySem.W.plainOver K CS = true)
    (saCS : PySem.W.findIn K (.ref CS) "__setattr__" = some (some (.builtin "object.__setattr__")))
    (mkCS : PySem.W.makesIn K CS = true)
    (kpCS : PySem.W.keepIn K (.ref CS) = true)
    (ais_ref : PySem.W.nsIn K mainGlobals "is_ref" = some (some (.ref is_ref)))
    (lis_ref : K.lookup is_ref = some ⟨ocis_ref, odis_ref, .func (PySem.W.fnOf "is_ref" "is_ref" (defArgs st_is_ref) (defBody st_is_ref) (defScope st_is_ref) .none kVis_ref dcis_ref pmis_ref anis_ref cdis_ref ctis_ref), slis_ref⟩)
    (cis_ref : PySem.W.codeIn K cdis_ref "is_ref" = true)
    (kis_ref : PySem.W.keepIn K (.ref is_ref) = true)
    (aref_of : PySem.W.nsIn K mainGlobals "ref_of" = some (some (.ref ref_of)))
    (lref_of : K.lookup ref_of = some ⟨ocref_of, odref_of, .func (PySem.W.fnOf "ref_of" "ref_of" (defArgs st_ref_of) (defBody st_ref_of) (defScope st_ref_of) .none kVref_of dcref_of pmref_of anref_of cdref_of ctref_of), slref_of⟩)
    (cref_of : PySem.W.codeIn K cdref_of "ref_of" = true)
    (kref_of : PySem.W.keepIn K (.ref ref_of) = true)
    (areached : PySem.W.nsIn K mainGlobals "reached" = some (some (.ref reached)))
    (lreached : K.lookup reached = some ⟨ocreached, odreached, .func (PySem.W.fnOf "reached" "reached" (defArgs st_reached) (defBody st_reached) (defScope st_reached) .none kVreached dcreached pmreached anreached cdreached ctreached), slreached⟩)
    (creached : PySem.W.codeIn K cdreached "reached" = true)
    (kreached : PySem.W.keepIn K (.ref reached) = true)
    (awords_of : PySem.W.nsIn K mainGlobals "words_of" = some (some (.ref words_of)))
    (lwords_of : K.lookup words_of = some ⟨ocwords_of, odwords_of, .func (PySem.W.fnOf "words_of" "words_of" (defArgs st_words_of) (defBody st_words_of) (defScope st_words_of) .none kVwords_of dcwords_of pmwords_of anwords_of cdwords_of ctwords_of), slwords_of⟩)
    (cwords_of : PySem.W.codeIn K cdwords_of "words_of" = true)
    (kwords_of : PySem.W.keepIn K (.ref words_of) = true)
    (acollect : PySem.W.nsIn K mainGlobals "collect_collecting" = some (some (.ref collect)))
    (lcollect : K.lookup collect = some ⟨occollect, odcollect, .func (PySem.W.fnOf "collect" "collect" (defArgs st_collect) (defBody st_collect) (defScope st_collect) .none kVcollect dccollect pmcollect ancollect cdcollect ctcollect), slcollect⟩)
    (ccollect : PySem.W.codeIn K cdcollect "collect" = true)
    (kcollect : PySem.W.keepIn K (.ref collect) = true)
    (as_init : PySem.W.findIn K (.ref CT) "__init__" = some (some (.ref s_init)))
    (ns_init : PySem.W.isFn K (.ref s_init) = true)
    (ls_init : K.lookup s_init = some ⟨ocs_init, ods_init, .func (PySem.W.fnOf "__init__" "Store.__init__" (defArgs st_s_init) (defBody st_s_init) (defScope st_s_init) .none kVs_init dcs_init pms_init ans_init cds_init cts_init), sls_init⟩)
    (cs_init : PySem.W.codeIn K cds_init "Store.__init__" = true)
    (ks_init : PySem.W.keepIn K (.ref s_init) = true)
    (as_exists : PySem.W.findIn K (.ref CT) "exists" = some (some (.ref s_exists)))
    (ns_exists : PySem.W.isFn K (.ref s_exists) = true)
    (ls_exists : K.lookup s_exists = some ⟨ocs_exists, ods_exists, .func (PySem.W.fnOf "exists" "Store.exists" (defArgs st_s_exists) (defBody st_s_exists) (defScope st_s_exists) .none kVs_exists dcs_exists pms_exists ans_exists cds_exists cts_exists), sls_exists⟩)
    (cs_exists : PySem.W.codeIn K cds_exists "Store.exists" = true)
    (ks_exists : PySem.W.keepIn K (.ref s_exists) = true)
    (as_numbers : PySem.W.findIn K (.ref CT) "numbers" = some (some (.ref s_numbers)))
    (ns_numbers : PySem.W.isFn K (.ref s_numbers) = true)
    (ls_numbers : K.lookup s_numbers = some ⟨ocs_numbers, ods_numbers, .func (PySem.W.fnOf "numbers" "Store.numbers" (defArgs st_s_numbers) (defBody st_s_numbers) (defScope st_s_numbers) .none kVs_numbers dcs_numbers pms_numbers ans_numbers cds_numbers cts_numbers), sls_numbers⟩)
    (cs_numbers : PySem.W.codeIn K cds_numbers "Store.numbers" = true)
    (ks_numbers : PySem.W.keepIn K (.ref s_numbers) = true)
    (as_free : PySem.W.findIn K (.ref CT) "free_number" = some (some (.ref s_free)))
    (ns_free : PySem.W.isFn K (.ref s_free) = true)
    (ls_free : K.lookup s_free = some ⟨ocs_free, ods_free, .func (PySem.W.fnOf "free_number" "Store.free_number" (defArgs st_s_free) (defBody st_s_free) (defScope st_s_free) .none kVs_free dcs_free pms_free ans_free cds_free cts_free), sls_free⟩)
    (cs_free : PySem.W.codeIn K cds_free "Store.free_number" = true)
    (ks_free : PySem.W.keepIn K (.ref s_free) = true)
    (as_alloc : PySem.W.findIn K (.ref CT) "allocate" = some (some (.ref s_alloc)))
    (ns_alloc : PySem.W.isFn K (.ref s_alloc) = true)
    (ls_alloc : K.lookup s_alloc = some ⟨ocs_alloc, ods_alloc, .func (PySem.W.fnOf "allocate" "Store.allocate" (defArgs st_s_alloc) (defBody st_s_alloc) (defScope st_s_alloc) .none kVs_alloc dcs_alloc pms_alloc ans_alloc cds_alloc cts_alloc), sls_alloc⟩)
    (cs_alloc : PySem.W.codeIn K cds_alloc "Store.allocate" = true)
    (ks_alloc : PySem.W.keepIn K (.ref s_alloc) = true)
    (as_size : PySem.W.findIn K (.ref CT) "size" = some (some (.ref s_size)))
    (ns_size : PySem.W.isFn K (.ref s_size) = true)
    (ls_size : K.lookup s_size = some ⟨ocs_size, ods_size, .func (PySem.W.fnOf "size" "Store.size" (defArgs st_s_size) (defBody st_s_size) (defScope st_s_size) .none kVs_size dcs_size pms_size ans_size cds_size cts_size), sls_size⟩)
    (cs_size : PySem.W.codeIn K cds_size "Store.size" = true)
    (ks_size : PySem.W.keepIn K (.ref s_size) = true)
    (as_kind : PySem.W.findIn K (.ref CT) "kind" = some (some (.ref s_kind)))
    (ns_kind : PySem.W.isFn K (.ref s_kind) = true)
    (ls_kind : K.lookup s_kind = some ⟨ocs_kind, ods_kind, .func (PySem.W.fnOf "kind" "Store.kind" (defArgs st_s_kind) (defBody st_s_kind) (defScope st_s_kind) .none kVs_kind dcs_kind pms_kind ans_kind cds_kind cts_kind), sls_kind⟩)
    (cs_kind : PySem.W.codeIn K cds_kind "Store.kind" = true)
    (ks_kind : PySem.W.keepIn K (.ref s_kind) = true)
    (as_set_kind : PySem.W.findIn K (.ref CT) "set_kind" = some (some (.ref s_set_kind)))
    (ns_set_kind : PySem.W.isFn K (.ref s_set_kind) = true)
    (ls_set_kind : K.lookup s_set_kind = some ⟨ocs_set_kind, ods_set_kind, .func (PySem.W.fnOf "set_kind" "Store.set_kind" (defArgs st_s_set_kind) (defBody st_s_set_kind) (defScope st_s_set_kind) .none kVs_set_kind dcs_set_kind pms_set_kind ans_set_kind cds_set_kind cts_set_kind), sls_set_kind⟩)
    (cs_set_kind : PySem.W.codeIn K cds_set_kind "Store.set_kind" = true)
    (ks_set_kind : PySem.W.keepIn K (.ref s_set_kind) = true)
    (as_get : PySem.W.findIn K (.ref CT) "get" = some (some (.ref s_get)))
    (ns_get : PySem.W.isFn K (.ref s_get) = true)
    (ls_get : K.lookup s_get = some ⟨ocs_get, ods_get, .func (PySem.W.fnOf "get" "Store.get" (defArgs st_s_get) (defBody st_s_get) (defScope st_s_get) .none kVs_get dcs_get pms_get ans_get cds_get cts_get), sls_get⟩)
    (cs_get : PySem.W.codeIn K cds_get "Store.get" = true)
    (ks_get : PySem.W.keepIn K (.ref s_get) = true)
    (as_put : PySem.W.findIn K (.ref CT) "put" = some (some (.ref s_put)))
    (ns_put : PySem.W.isFn K (.ref s_put) = true)
    (ls_put : K.lookup s_put = some ⟨ocs_put, ods_put, .func (PySem.W.fnOf "put" "Store.put" (defArgs st_s_put) (defBody st_s_put) (defScope st_s_put) .none kVs_put dcs_put pms_put ans_put cds_put cts_put), sls_put⟩)
    (cs_put : PySem.W.codeIn K cds_put "Store.put" = true)
    (ks_put : PySem.W.keepIn K (.ref s_put) = true)
    (as_slots : PySem.W.findIn K (.ref CT) "slots" = some (some (.ref s_slots)))
    (ns_slots : PySem.W.isFn K (.ref s_slots) = true)
    (ls_slots : K.lookup s_slots = some ⟨ocs_slots, ods_slots, .func (PySem.W.fnOf "slots" "Store.slots" (defArgs st_s_slots) (defBody st_s_slots) (defScope st_s_slots) .none kVs_slots dcs_slots pms_slots ans_slots cds_slots cts_slots), sls_slots⟩)
    (cs_slots : PySem.W.codeIn K cds_slots "Store.slots" = true)
    (ks_slots : PySem.W.keepIn K (.ref s_slots) = true)
    (as_drop : PySem.W.findIn K (.ref CT) "drop" = some (some (.ref s_drop)))
    (ns_drop : PySem.W.isFn K (.ref s_drop) = true)
    (ls_drop : K.lookup s_drop = some ⟨ocs_drop, ods_drop, .func (PySem.W.fnOf "drop" "Store.drop" (defArgs st_s_drop) (defBody st_s_drop) (defScope st_s_drop) .none kVs_drop dcs_drop pms_drop ans_drop cds_drop cts_drop), sls_drop⟩)
    (cs_drop : PySem.W.codeIn K cds_drop "Store.drop" = true)
    (ks_drop : PySem.W.keepIn K (.ref s_drop) = true)
    (as_close : PySem.W.findIn K (.ref CT) "close_up" = some (some (.ref s_close)))
    (ns_close : PySem.W.isFn K (.ref s_close) = true)
    (ls_close : K.lookup s_close = some ⟨ocs_close, ods_close, .func (PySem.W.fnOf "close_up" "Store.close_up" (defArgs st_s_close) (defBody st_s_close) (defScope st_s_close) .none kVs_close dcs_close pms_close ans_close (.ref cc) cts_close), sls_close⟩)
    (cs_close : PySem.W.codeIn K (.ref cc) "Store.close_up" = true)
    (ks_close : PySem.W.keepIn K (.ref s_close) = true)
    (as_snap : PySem.W.findIn K (.ref CT) "snapshot" = some (some (.ref s_snap)))
    (ns_snap : PySem.W.isFn K (.ref s_snap) = true)
    (ls_snap : K.lookup s_snap = some ⟨ocs_snap, ods_snap, .func (PySem.W.fnOf "snapshot" "Store.snapshot" (defArgs st_s_snap) (defBody st_s_snap) (defScope st_s_snap) .none kVs_snap dcs_snap pms_snap ans_snap cds_snap cts_snap), sls_snap⟩)
    (cs_snap : PySem.W.codeIn K cds_snap "Store.snapshot" = true)
    (ks_snap : PySem.W.keepIn K (.ref s_snap) = true)
    (as_rest : PySem.W.findIn K (.ref CT) "restore" = some (some (.ref s_rest)))
    (ns_rest : PySem.W.isFn K (.ref s_rest) = true)
    (ls_rest : K.lookup s_rest = some ⟨ocs_rest, ods_rest, .func (PySem.W.fnOf "restore" "Store.restore" (defArgs st_s_rest) (defBody st_s_rest) (defScope st_s_rest) .none kVs_rest dcs_rest pms_rest ans_rest cds_rest cts_rest), sls_rest⟩)
    (cs_rest : PySem.W.codeIn K cds_rest "Store.restore" = true)
    (ks_rest : PySem.W.keepIn K (.ref s_rest) = true)
    (as_exch : PySem.W.findIn K (.ref CT) "exchange" = some (some (.ref s_exch)))
    (ns_exch : PySem.W.isFn K (.ref s_exch) = true)
    (ls_exch : K.lookup s_exch = some ⟨ocs_exch, ods_exch, .func (PySem.W.fnOf "exchange" "Store.exchange" (defArgs st_s_exch) (defBody st_s_exch) (defScope st_s_exch) .none kVs_exch dcs_exch pms_exch ans_exch cds_exch cts_exch), sls_exch⟩)
    (cs_exch : PySem.W.codeIn K cds_exch "Store.exchange" = true)
    (ks_exch : PySem.W.keepIn K (.ref s_exch) = true)
    (ap_init : PySem.W.findIn K (.ref CS) "__init__" = some (some (.ref p_init)))
    (np_init : PySem.W.isFn K (.ref p_init) = true)
    (lp_init : K.lookup p_init = some ⟨ocp_init, odp_init, .func (PySem.W.fnOf "__init__" "Space.__init__" (defArgs st_p_init) (defBody st_p_init) (defScope st_p_init) .none kVp_init dcp_init pmp_init anp_init cdp_init ctp_init), slp_init⟩)
    (cp_init : PySem.W.codeIn K cdp_init "Space.__init__" = true)
    (kp_init : PySem.W.keepIn K (.ref p_init) = true)
    (ap_press : PySem.W.findIn K (.ref CS) "press" = some (some (.ref p_press)))
    (np_press : PySem.W.isFn K (.ref p_press) = true)
    (lp_press : K.lookup p_press = some ⟨ocp_press, odp_press, .func (PySem.W.fnOf "press" "Space.press" (defArgs st_p_press) (defBody st_p_press) (defScope st_p_press) .none kVp_press dcp_press pmp_press anp_press cdp_press ctp_press), slp_press⟩)
    (cp_press : PySem.W.codeIn K cdp_press "Space.press" = true)
    (kp_press : PySem.W.keepIn K (.ref p_press) = true)
    (kP : kVp_press = .ref kD)
    (kA : PySem.W.nsIn K kD "always" = some (some (.bool false)))
    (ap_root : PySem.W.findIn K (.ref CS) "root" = some (some (.ref p_root)))
    (np_root : PySem.W.isFn K (.ref p_root) = true)
    (lp_root : K.lookup p_root = some ⟨ocp_root, odp_root, .func (PySem.W.fnOf "root" "Space.root" (defArgs st_p_root) (defBody st_p_root) (defScope st_p_root) .none kVp_root dcp_root pmp_root anp_root cdp_root ctp_root), slp_root⟩)
    (cp_root : PySem.W.codeIn K cdp_root "Space.root" = true)
    (kp_root : PySem.W.keepIn K (.ref p_root) = true)
    (ap_set_root : PySem.W.findIn K (.ref CS) "set_root" = some (some (.ref p_set_root)))
    (np_set_root : PySem.W.isFn K (.ref p_set_root) = true)
    (lp_set_root : K.lookup p_set_root = some ⟨ocp_set_root, odp_set_root, .func (PySem.W.fnOf "set_root" "Space.set_root" (defArgs st_p_set_root) (defBody st_p_set_root) (defScope st_p_set_root) .none kVp_set_root dcp_set_root pmp_set_root anp_set_root cdp_set_root ctp_set_root), slp_set_root⟩)
    (cp_set_root : PySem.W.codeIn K cdp_set_root "Space.set_root" = true)
    (kp_set_root : PySem.W.keepIn K (.ref p_set_root) = true)
    (ap_hold : PySem.W.findIn K (.ref CS) "hold" = some (some (.ref p_hold)))
    (np_hold : PySem.W.isFn K (.ref p_hold) = true)
    (lp_hold : K.lookup p_hold = some ⟨ocp_hold, odp_hold, .func (PySem.W.fnOf "hold" "Space.hold" (defArgs st_p_hold) (defBody st_p_hold) (defScope st_p_hold) .none kVp_hold dcp_hold pmp_hold anp_hold cdp_hold ctp_hold), slp_hold⟩)
    (cp_hold : PySem.W.codeIn K cdp_hold "Space.hold" = true)
    (kp_hold : PySem.W.keepIn K (.ref p_hold) = true)
    (ap_drop : PySem.W.findIn K (.ref CS) "drop" = some (some (.ref p_drop)))
    (np_drop : PySem.W.isFn K (.ref p_drop) = true)
    (lp_drop : K.lookup p_drop = some ⟨ocp_drop, odp_drop, .func (PySem.W.fnOf "drop" "Space.drop" (defArgs st_p_drop) (defBody st_p_drop) (defScope st_p_drop) .none kVp_drop dcp_drop pmp_drop anp_drop cdp_drop ctp_drop), slp_drop⟩)
    (cp_drop : PySem.W.codeIn K cdp_drop "Space.drop" = true)
    (kp_drop : PySem.W.keepIn K (.ref p_drop) = true)
    (ap_held : PySem.W.findIn K (.ref CS) "held" = some (some (.ref p_held)))
    (np_held : PySem.W.isFn K (.ref p_held) = true)
    (lp_held : K.lookup p_held = some ⟨ocp_held, odp_held, .func (PySem.W.fnOf "held" "Space.held" (defArgs st_p_held) (defBody st_p_held) (defScope st_p_held) .none kVp_held dcp_held pmp_held anp_held cdp_held ctp_held), slp_held⟩)
    (cp_held : PySem.W.codeIn K cdp_held "Space.held" = true)
    (kp_held : PySem.W.keepIn K (.ref p_held) = true)
    (ap_all : PySem.W.findIn K (.ref CS) "all_roots" = some (some (.ref p_all)))
    (np_all : PySem.W.isFn K (.ref p_all) = true)
    (lp_all : K.lookup p_all = some ⟨ocp_all, odp_all, .func (PySem.W.fnOf "all_roots" "Space.all_roots" (defArgs st_p_all) (defBody st_p_all) (defScope st_p_all) .none kVp_all dcp_all pmp_all anp_all cdp_all ctp_all), slp_all⟩)
    (cp_all : PySem.W.codeIn K cdp_all "Space.all_roots" = true)
    (kp_all : PySem.W.keepIn K (.ref p_all) = true)
    (ap_collect : PySem.W.findIn K (.ref CS) "collect" = some (some (.ref p_collect)))
    (np_collect : PySem.W.isFn K (.ref p_collect) = true)
    (lp_collect : K.lookup p_collect = some ⟨ocp_collect, odp_collect, .func (PySem.W.fnOf "collect" "Space.collect" (defArgs st_p_collect) (defBody st_p_collect) (defScope st_p_collect) .none kVp_collect dcp_collect pmp_collect anp_collect cdp_collect ctp_collect), slp_collect⟩)
    (cp_collect : PySem.W.codeIn K cdp_collect "Space.collect" = true)
    (kp_collect : PySem.W.keepIn K (.ref p_collect) = true)
    (ap_with : PySem.W.findIn K (.ref CS) "collect_with" = some (some (.ref p_with)))
    (np_with : PySem.W.isFn K (.ref p_with) = true)
    (lp_with : K.lookup p_with = some ⟨ocp_with, odp_with, .func (PySem.W.fnOf "collect_with" "Space.collect_with" (defArgs st_p_with) (defBody st_p_with) (defScope st_p_with) .none kVp_with dcp_with pmp_with anp_with cdp_with ctp_with), slp_with⟩)
    (cp_with : PySem.W.codeIn K cdp_with "Space.collect_with" = true)
    (kp_with : PySem.W.keepIn K (.ref p_with) = true)
    (ap_live : PySem.W.findIn K (.ref CS) "live_words" = some (some (.ref p_live)))
    (np_live : PySem.W.isFn K (.ref p_live) = true)
    (lp_live : K.lookup p_live = some ⟨ocp_live, odp_live, .func (PySem.W.fnOf "live_words" "Space.live_words" (defArgs st_p_live) (defBody st_p_live) (defScope st_p_live) .none kVp_live dcp_live pmp_live anp_live cdp_live ctp_live), slp_live⟩)
    (cp_live : PySem.W.codeIn K cdp_live "Space.live_words" = true)
    (kp_live : PySem.W.keepIn K (.ref p_live) = true)
    (ap_new : PySem.W.findIn K (.ref CS) "new" = some (some (.ref p_new)))
    (np_new : PySem.W.isFn K (.ref p_new) = true)
    (lp_new : K.lookup p_new = some ⟨ocp_new, odp_new, .func (PySem.W.fnOf "new" "Space.new" (defArgs st_p_new) (defBody st_p_new) (defScope st_p_new) .none kVp_new dcp_new pmp_new anp_new cdp_new ctp_new), slp_new⟩)
    (cp_new : PySem.W.codeIn K cdp_new "Space.new" = true)
    (kp_new : PySem.W.keepIn K (.ref p_new) = true)
    (ap_fit : PySem.W.findIn K (.ref CS) "fitted" = some (some (.ref p_fit)))
    (np_fit : PySem.W.isFn K (.ref p_fit) = true)
    (lp_fit : K.lookup p_fit = some ⟨ocp_fit, odp_fit, .func (PySem.W.fnOf "fitted" "Space.fitted" (defArgs st_p_fit) (defBody st_p_fit) (defScope st_p_fit) .none kVp_fit dcp_fit pmp_fit anp_fit cdp_fit ctp_fit), slp_fit⟩)
    (cp_fit : PySem.W.codeIn K cdp_fit "Space.fitted" = true)
    (kp_fit : PySem.W.keepIn K (.ref p_fit) = true)
    (ap_begin : PySem.W.findIn K (.ref CS) "begin" = some (some (.ref p_begin)))
    (np_begin : PySem.W.isFn K (.ref p_begin) = true)
    (lp_begin : K.lookup p_begin = some ⟨ocp_begin, odp_begin, .func (PySem.W.fnOf "begin" "Space.begin" (defArgs st_p_begin) (defBody st_p_begin) (defScope st_p_begin) .none kVp_begin dcp_begin pmp_begin anp_begin cdp_begin ctp_begin), slp_begin⟩)
    (cp_begin : PySem.W.codeIn K cdp_begin "Space.begin" = true)
    (kp_begin : PySem.W.keepIn K (.ref p_begin) = true)
    (ap_commit : PySem.W.findIn K (.ref CS) "commit" = some (some (.ref p_commit)))
    (np_commit : PySem.W.isFn K (.ref p_commit) = true)
    (lp_commit : K.lookup p_commit = some ⟨ocp_commit, odp_commit, .func (PySem.W.fnOf "commit" "Space.commit" (defArgs st_p_commit) (defBody st_p_commit) (defScope st_p_commit) .none kVp_commit dcp_commit pmp_commit anp_commit cdp_commit ctp_commit), slp_commit⟩)
    (cp_commit : PySem.W.codeIn K cdp_commit "Space.commit" = true)
    (kp_commit : PySem.W.keepIn K (.ref p_commit) = true)
    (ap_abort : PySem.W.findIn K (.ref CS) "abort" = some (some (.ref p_abort)))
    (np_abort : PySem.W.isFn K (.ref p_abort) = true)
    (lp_abort : K.lookup p_abort = some ⟨ocp_abort, odp_abort, .func (PySem.W.fnOf "abort" "Space.abort" (defArgs st_p_abort) (defBody st_p_abort) (defScope st_p_abort) .none kVp_abort dcp_abort pmp_abort anp_abort cdp_abort ctp_abort), slp_abort⟩)
    (cp_abort : PySem.W.codeIn K cdp_abort "Space.abort" = true)
    (kp_abort : PySem.W.keepIn K (.ref p_abort) = true)
    (al_number : PySem.W.nsIn K mainGlobals "_law_number" = some (some (.ref l_number)))
    (ll_number : K.lookup l_number = some ⟨ocl_number, odl_number, .func (PySem.W.fnOf "_law_number" "_law_number" (defArgs st_l_number) (defBody st_l_number) (defScope st_l_number) .none kVl_number dcl_number pml_number anl_number cdl_number ctl_number), sll_number⟩)
    (cl_number : PySem.W.codeIn K cdl_number "_law_number" = true)
    (kl_number : PySem.W.keepIn K (.ref l_number) = true)
    (al_deeds : PySem.W.nsIn K mainGlobals "_law_deeds" = some (some (.ref l_deeds)))
    (ll_deeds : K.lookup l_deeds = some ⟨ocl_deeds, odl_deeds, .func (PySem.W.fnOf "_law_deeds" "_law_deeds" (defArgs st_l_deeds) (defBody st_l_deeds) (defScope st_l_deeds) .none kVl_deeds dcl_deeds pml_deeds anl_deeds cdl_deeds ctl_deeds), sll_deeds⟩)
    (cl_deeds : PySem.W.codeIn K cdl_deeds "_law_deeds" = true)
    (kl_deeds : PySem.W.keepIn K (.ref l_deeds) = true)
    (al_place : PySem.W.nsIn K mainGlobals "_law_place" = some (some (.ref l_place)))
    (ll_place : K.lookup l_place = some ⟨ocl_place, odl_place, .func (PySem.W.fnOf "_law_place" "_law_place" (defArgs st_l_place) (defBody st_l_place) (defScope st_l_place) .none kVl_place dcl_place pml_place anl_place cdl_place ctl_place), sll_place⟩)
    (cl_place : PySem.W.codeIn K cdl_place "_law_place" = true)
    (kl_place : PySem.W.keepIn K (.ref l_place) = true)
    (al_word : PySem.W.nsIn K mainGlobals "_law_word" = some (some (.ref l_word)))
    (ll_word : K.lookup l_word = some ⟨ocl_word, odl_word, .func (PySem.W.fnOf "_law_word" "_law_word" (defArgs st_l_word) (defBody st_l_word) (defScope st_l_word) .none kVl_word dcl_word pml_word anl_word cdl_word ctl_word), sll_word⟩)
    (cl_word : PySem.W.codeIn K cdl_word "_law_word" = true)
    (kl_word : PySem.W.keepIn K (.ref l_word) = true)
    (al_shown : PySem.W.nsIn K mainGlobals "_law_shown" = some (some (.ref l_shown)))
    (ll_shown : K.lookup l_shown = some ⟨ocl_shown, odl_shown, .func (PySem.W.fnOf "_law_shown" "_law_shown" (defArgs st_l_shown) (defBody st_l_shown) (defScope st_l_shown) .none kVl_shown dcl_shown pml_shown anl_shown cdl_shown ctl_shown), sll_shown⟩)
    (cl_shown : PySem.W.codeIn K cdl_shown "_law_shown" = true)
    (kl_shown : PySem.W.keepIn K (.ref l_shown) = true)
    (al_new : PySem.W.nsIn K mainGlobals "_law_new" = some (some (.ref l_new)))
    (ll_new : K.lookup l_new = some ⟨ocl_new, odl_new, .func (PySem.W.fnOf "_law_new" "_law_new" (defArgs st_l_new) (defBody st_l_new) (defScope st_l_new) .none kVl_new dcl_new pml_new anl_new cdl_new ctl_new), sll_new⟩)
    (cl_new : PySem.W.codeIn K cdl_new "_law_new" = true)
    (kl_new : PySem.W.keepIn K (.ref l_new) = true)
    (al_held : PySem.W.nsIn K mainGlobals "_law_held" = some (some (.ref l_held)))
    (ll_held : K.lookup l_held = some ⟨ocl_held, odl_held, .func (PySem.W.fnOf "_law_held" "_law_held" (defArgs st_l_held) (defBody st_l_held) (defScope st_l_held) .none kVl_held dcl_held pml_held anl_held cdl_held ctl_held), sll_held⟩)
    (cl_held : PySem.W.codeIn K cdl_held "_law_held" = true)
    (kl_held : PySem.W.keepIn K (.ref l_held) = true)
    (al_changed : PySem.W.nsIn K mainGlobals "_law_changed" = some (some (.ref l_changed)))
    (ll_changed : K.lookup l_changed = some ⟨ocl_changed, odl_changed, .func (PySem.W.fnOf "_law_changed" "_law_changed" (defArgs st_l_changed) (defBody st_l_changed) (defScope st_l_changed) .none kVl_changed dcl_changed pml_changed anl_changed cdl_changed ctl_changed), sll_changed⟩)
    (cl_changed : PySem.W.codeIn K cdl_changed "_law_changed" = true)
    (kl_changed : PySem.W.keepIn K (.ref l_changed) = true)
    (al_work : PySem.W.nsIn K mainGlobals "_law_work" = some (some (.ref l_work)))
    (ll_work : K.lookup l_work = some ⟨ocl_work, odl_work, .func (PySem.W.fnOf "_law_work" "_law_work" (defArgs st_l_work) (defBody st_l_work) (defScope st_l_work) .none kVl_work dcl_work pml_work anl_work cdl_work ctl_work), sll_work⟩)
    (cl_work : PySem.W.codeIn K cdl_work "_law_work" = true)
    (kl_work : PySem.W.keepIn K (.ref l_work) = true)
    (al_done : PySem.W.nsIn K mainGlobals "_law_done" = some (some (.ref l_done)))
    (ll_done : K.lookup l_done = some ⟨ocl_done, odl_done, .func (PySem.W.fnOf "_law_done" "_law_done" (defArgs st_l_done) (defBody st_l_done) (defScope st_l_done) .none kVl_done dcl_done pml_done anl_done cdl_done ctl_done), sll_done⟩)
    (cl_done : PySem.W.codeIn K cdl_done "_law_done" = true)
    (kl_done : PySem.W.keepIn K (.ref l_done) = true)
    (al_equal : PySem.W.nsIn K mainGlobals "_law_equal" = some (some (.ref l_equal)))
    (ll_equal : K.lookup l_equal = some ⟨ocl_equal, odl_equal, .func (PySem.W.fnOf "_law_equal" "_law_equal" (defArgs st_l_equal) (defBody st_l_equal) (defScope st_l_equal) .none kVl_equal dcl_equal pml_equal anl_equal cdl_equal ctl_equal), sll_equal⟩)
    (cl_equal : PySem.W.codeIn K cdl_equal "_law_equal" = true)
    (kl_equal : PySem.W.keepIn K (.ref l_equal) = true)
    (al_paired : PySem.W.nsIn K mainGlobals "_law_paired" = some (some (.ref l_paired)))
    (ll_paired : K.lookup l_paired = some ⟨ocl_paired, odl_paired, .func (PySem.W.fnOf "_law_paired" "_law_paired" (defArgs st_l_paired) (defBody st_l_paired) (defScope st_l_paired) .none kVl_paired dcl_paired pml_paired anl_paired cdl_paired ctl_paired), sll_paired⟩)
    (cl_paired : PySem.W.codeIn K cdl_paired "_law_paired" = true)
    (kl_paired : PySem.W.keepIn K (.ref l_paired) = true)
    (al_alike : PySem.W.nsIn K mainGlobals "_law_alike" = some (some (.ref l_alike)))
    (ll_alike : K.lookup l_alike = some ⟨ocl_alike, odl_alike, .func (PySem.W.fnOf "_law_alike" "_law_alike" (defArgs st_l_alike) (defBody st_l_alike) (defScope st_l_alike) .none kVl_alike dcl_alike pml_alike anl_alike cdl_alike ctl_alike), sll_alike⟩)
    (cl_alike : PySem.W.codeIn K cdl_alike "_law_alike" = true)
    (kl_alike : PySem.W.keepIn K (.ref l_alike) = true)
    (al_row : PySem.W.nsIn K mainGlobals "_law_row" = some (some (.ref l_row)))
    (ll_row : K.lookup l_row = some ⟨ocl_row, odl_row, .func (PySem.W.fnOf "_law_row" "_law_row" (defArgs st_l_row) (defBody st_l_row) (defScope st_l_row) .none kVl_row dcl_row pml_row anl_row cdl_row ctl_row), sll_row⟩)
    (cl_row : PySem.W.codeIn K cdl_row "_law_row" = true)
    (kl_row : PySem.W.keepIn K (.ref l_row) = true)
    (al_state : PySem.W.nsIn K mainGlobals "_law_state" = some (some (.ref l_state)))
    (ll_state : K.lookup l_state = some ⟨ocl_state, odl_state, .func (PySem.W.fnOf "_law_state" "_law_state" (defArgs st_l_state) (defBody st_l_state) (defScope st_l_state) .none kVl_state dcl_state pml_state anl_state cdl_state ctl_state), sll_state⟩)
    (cl_state : PySem.W.codeIn K cdl_state "_law_state" = true)
    (kl_state : PySem.W.keepIn K (.ref l_state) = true)
    (al_coll : PySem.W.nsIn K mainGlobals "_law_collected" = some (some (.ref l_coll)))
    (ll_coll : K.lookup l_coll = some ⟨ocl_coll, odl_coll, .func (PySem.W.fnOf "_law_collected" "_law_collected" (defArgs st_l_coll) (defBody st_l_coll) (defScope st_l_coll) .none kVl_coll dcl_coll pml_coll anl_coll cdl_coll ctl_coll), sll_coll⟩)
    (cl_coll : PySem.W.codeIn K cdl_coll "_law_collected" = true)
    (kl_coll : PySem.W.keepIn K (.ref l_coll) = true)
    (al_both : PySem.W.nsIn K mainGlobals "_law_both" = some (some (.ref l_both)))
    (ll_both : K.lookup l_both = some ⟨ocl_both, odl_both, .func (PySem.W.fnOf "_law_both" "_law_both" (defArgs st_l_both) (defBody st_l_both) (defScope st_l_both) .none kVl_both dcl_both pml_both anl_both cdl_both ctl_both), sll_both⟩)
    (cl_both : PySem.W.codeIn K cdl_both "_law_both" = true)
    (kl_both : PySem.W.keepIn K (.ref l_both) = true)
    (al_begun : PySem.W.nsIn K mainGlobals "_law_begun" = some (some (.ref l_begun)))
    (ll_begun : K.lookup l_begun = some ⟨ocl_begun, odl_begun, .func (PySem.W.fnOf "_law_begun" "_law_begun" (defArgs st_l_begun) (defBody st_l_begun) (defScope st_l_begun) .none kVl_begun dcl_begun pml_begun anl_begun cdl_begun ctl_begun), sll_begun⟩)
    (cl_begun : PySem.W.codeIn K cdl_begun "_law_begun" = true)
    (kl_begun : PySem.W.keepIn K (.ref l_begun) = true)
    (al_grown : PySem.W.nsIn K mainGlobals "_law_grown" = some (some (.ref l_grown)))
    (ll_grown : K.lookup l_grown = some ⟨ocl_grown, odl_grown, .func (PySem.W.fnOf "_law_grown" "_law_grown" (defArgs st_l_grown) (defBody st_l_grown) (defScope st_l_grown) .none kVl_grown dcl_grown pml_grown anl_grown cdl_grown ctl_grown), sll_grown⟩)
    (cl_grown : PySem.W.codeIn K cdl_grown "_law_grown" = true)
    (kl_grown : PySem.W.keepIn K (.ref l_grown) = true)
    (al_first : PySem.W.nsIn K mainGlobals "_law_first" = some (some (.ref l_first)))
    (ll_first : K.lookup l_first = some ⟨ocl_first, odl_first, .func (PySem.W.fnOf "_law_first" "_law_first" (defArgs st_l_first) (defBody st_l_first) (defScope st_l_first) .none kVl_first dcl_first pml_first anl_first cdl_first ctl_first), sll_first⟩)
    (cl_first : PySem.W.codeIn K cdl_first "_law_first" = true)
    (kl_first : PySem.W.keepIn K (.ref l_first) = true)
    (al_undone : PySem.W.nsIn K mainGlobals "_law_undone" = some (some (.ref l_undone)))
    (ll_undone : K.lookup l_undone = some ⟨ocl_undone, odl_undone, .func (PySem.W.fnOf "_law_undone" "_law_undone" (defArgs st_l_undone) (defBody st_l_undone) (defScope st_l_undone) .none kVl_undone dcl_undone pml_undone anl_undone cdl_undone ctl_undone), sll_undone⟩)
    (cl_undone : PySem.W.codeIn K cdl_undone "_law_undone" = true)
    (kl_undone : PySem.W.keepIn K (.ref l_undone) = true)
    (al_pressed : PySem.W.nsIn K mainGlobals "_law_pressed" = some (some (.ref l_pressed)))
    (ll_pressed : K.lookup l_pressed = some ⟨ocl_pressed, odl_pressed, .func (PySem.W.fnOf "_law_pressed" "_law_pressed" (defArgs st_l_pressed) (defBody st_l_pressed) (defScope st_l_pressed) .none kVl_pressed dcl_pressed pml_pressed anl_pressed cdl_pressed ctl_pressed), sll_pressed⟩)
    (cl_pressed : PySem.W.codeIn K cdl_pressed "_law_pressed" = true)
    (kl_pressed : PySem.W.keepIn K (.ref l_pressed) = true)
    (al_limits : PySem.W.nsIn K mainGlobals "_law_limits" = some (some (.ref l_limits)))
    (ll_limits : K.lookup l_limits = some ⟨ocl_limits, odl_limits, .func (PySem.W.fnOf "_law_limits" "_law_limits" (defArgs st_l_limits) (defBody st_l_limits) (defScope st_l_limits) .none kVl_limits dcl_limits pml_limits anl_limits cdl_limits ctl_limits), sll_limits⟩)
    (cl_limits : PySem.W.codeIn K cdl_limits "_law_limits" = true)
    (kl_limits : PySem.W.keepIn K (.ref l_limits) = true)
    (al_law : PySem.W.nsIn K mainGlobals "law" = some (some (.ref l_law)))
    (ll_law : K.lookup l_law = some ⟨ocl_law, odl_law, .func (PySem.W.fnOf "law" "law" (defArgs st_l_law) (defBody st_l_law) (defScope st_l_law) .none kVl_law dcl_law pml_law anl_law cdl_law ctl_law), sll_law⟩)
    (cl_law : PySem.W.codeIn K cdl_law "law" = true)
    (kl_law : PySem.W.keepIn K (.ref l_law) = true)
    (znT_room : PySem.W.findIn K (.ref CT) "room" = some none)
    (znT_entries : PySem.W.findIn K (.ref CT) "entries" = some none)
    (znT_words : PySem.W.findIn K (.ref CT) "words" = some none)
    (znT_places : PySem.W.findIn K (.ref CT) "_places" = some none)
    (znT_least : PySem.W.findIn K (.ref CT) "_least" = some none)
    (znS_store : PySem.W.findIn K (.ref CS) "store" = some none)
    (znS_pressure : PySem.W.findIn K (.ref CS) "pressure" = some none)
    (znS_always : PySem.W.findIn K (.ref CS) "always" = some none)
    (znS_allocations : PySem.W.findIn K (.ref CS) "allocations" = some none)
    (znS_collections : PySem.W.findIn K (.ref CS) "collections" = some none)
    (znS_roots : PySem.W.findIn K (.ref CS) "_roots" = some none)
    (znS_held : PySem.W.findIn K (.ref CS) "_held" = some none)
    (znS_saved : PySem.W.findIn K (.ref CS) "_saved" = some none)
    (zb_len : PySem.W.nsIn K mainGlobals "len" = some none)
    (zb_sorted : PySem.W.nsIn K mainGlobals "sorted" = some none)
    (zb_sum : PySem.W.nsIn K mainGlobals "sum" = some none)
    (zb_min : PySem.W.nsIn K mainGlobals "min" = some none)
    (zb_list : PySem.W.nsIn K mainGlobals "list" = some none)
    (zb_dict : PySem.W.nsIn K mainGlobals "dict" = some none)
    (zb_int : PySem.W.nsIn K mainGlobals "int" = some none)
    (zb_isinstance : PySem.W.nsIn K mainGlobals "isinstance" = some none)
    (zb_range : PySem.W.nsIn K mainGlobals "range" = some none)
    (zb_bool : PySem.W.nsIn K mainGlobals "bool" = some none)
    (zb_super : PySem.W.nsIn K mainGlobals "super" = some none)
    (zb_str : PySem.W.nsIn K mainGlobals "str" = some none)
    (gNIL : PySem.W.nsIn K mainGlobals "NIL" = some (some (.int 0 tNIL)))
    (gHEADER : PySem.W.nsIn K mainGlobals "HEADER" = some (some (.int 3 tHEADER)))
    (gROOTS : PySem.W.nsIn K mainGlobals "ROOTS" = some (some (.int 16 tROOTS)))
    (tpa : PySem.W.nsIn K cStatics "thirdparty.any" = some none)
    (xR : K.lookup cR = some (excClassObj nmR qR cR NR bsR bmR true snR subR abR colR ddR m0R m1R m2R m3R m5R "ValueError.__new__"))
    (rvR : refsVE bmR = true)
    (xsaR : PySem.W.findIn K (.ref cR) "__setattr__" = some (some (.builtin "object.__setattr__")))
    (xgaR : PySem.W.findIn K (.ref cR) "__getattribute__" = some (some (.builtin "BaseException.__getattribute__")))
    (xggR : PySem.W.findIn K (.ref cR) "__getattr__" = some none)
    (xnoR : PySem.W.findIn K (.ref cR) "need" = some none)
    (xiR : PySem.W.findIn K (.ref cR) "__init__" = some (some (.ref iR)))
    (xtR : PySem.W.typeIn K (.ref iR) = some (.type "function"))
    (xkR : PySem.W.keepIn K (.ref cR) = true)
    (xeR : PySem.W.subIn K (.ref cR) (.type "BaseException") = some true)
    (xtyR : PySem.W.typeIn K (.ref cR) = some (.type "type"))
    (xhR : PySem.W.hasDictIn K cR = true)
    (xsuR : PySem.W.ks_superIn K cR cR "__init__" = some (some (.builtin "ValueError.__init__")))
    (xvR : PySem.W.subIn K (.ref cR) (.type "ValueError") = some true)
    (xmR : PySem.W.mroIn K cR (.ref cR) = some true)
    (xlR : K.lookup iR = some ⟨ociR, odiR, .func (PySem.W.ksFn "__init__" "NoRoom.__init__" xa_need xb_need (xS "need") .none .none dciR pmiR aniR (.ref cdaR) ctiR ccR), sliR⟩)
    (xcR : PySem.W.codeIn K (.ref cdaR) "NoRoom.__init__" = true)
    (xdR : K.lookup cdaR = some ⟨o2R, od2R, .fields vsR, s2R⟩)
    (xfR : vsR[2]? = some (.str fileR tfR))
    (xgR : ((P.main.file : Str) == fileR) = true)
    (xcellR : K.lookup ccR = some ⟨clR, cldR, .cell (some (.ref cR)), cslR⟩)
    (xN : K.lookup cN = some (excClassObj nmN qN cN NN bsN bmN true snN subN abN colN ddN m0N m1N m2N m3N m5N "ValueError.__new__"))
    (rvN : refsVE bmN = true)
    (xsaN : PySem.W.findIn K (.ref cN) "__setattr__" = some (some (.builtin "object.__setattr__")))
    (xgaN : PySem.W.findIn K (.ref cN) "__getattribute__" = some (some (.builtin "BaseException.__getattribute__")))
    (xggN : PySem.W.findIn K (.ref cN) "__getattr__" = some none)
    (xnoN : PySem.W.findIn K (.ref cN) "limit" = some none)
    (xiN : PySem.W.findIn K (.ref cN) "__init__" = some (some (.ref iN)))
    (xtN : PySem.W.typeIn K (.ref iN) = some (.type "function"))
    (xkN : PySem.W.keepIn K (.ref cN) = true)
    (xeN : PySem.W.subIn K (.ref cN) (.type "BaseException") = some true)
    (xtyN : PySem.W.typeIn K (.ref cN) = some (.type "type"))
    (xhN : PySem.W.hasDictIn K cN = true)
    (xsuN : PySem.W.ks_superIn K cN cN "__init__" = some (some (.builtin "ValueError.__init__")))
    (xvN : PySem.W.subIn K (.ref cN) (.type "ValueError") = some true)
    (xmN : PySem.W.mroIn K cN (.ref cN) = some true)
    (xlN : K.lookup iN = some ⟨ociN, odiN, .func (PySem.W.ksFn "__init__" "NoNumber.__init__" xa_limit xb_limit (xS "limit") .none .none dciN pmiN aniN (.ref cdaN) ctiN ccN), sliN⟩)
    (xcN : PySem.W.codeIn K (.ref cdaN) "NoNumber.__init__" = true)
    (xdN : K.lookup cdaN = some ⟨o2N, od2N, .fields vsN, s2N⟩)
    (xfN : vsN[2]? = some (.str fileN tfN))
    (xgN : ((P.main.file : Str) == fileN) = true)
    (xcellN : K.lookup ccN = some ⟨clN, cldN, .cell (some (.ref cN)), cslN⟩)
    (xW : K.lookup cW = some (excClassObj nmW qW cW NW bsW bmW true snW subW abW colW ddW m0W m1W m2W m3W m5W "ValueError.__new__"))
    (rvW : refsVE bmW = true)
    (xsaW : PySem.W.findIn K (.ref cW) "__setattr__" = some (some (.builtin "object.__setattr__")))
    (xgaW : PySem.W.findIn K (.ref cW) "__getattribute__" = some (some (.builtin "BaseException.__getattribute__")))
    (xggW : PySem.W.findIn K (.ref cW) "__getattr__" = some none)
    (xnoW : PySem.W.findIn K (.ref cW) "why" = some none)
    (xiW : PySem.W.findIn K (.ref cW) "__init__" = some (some (.ref iW)))
    (xtW : PySem.W.typeIn K (.ref iW) = some (.type "function"))
    (xkW : PySem.W.keepIn K (.ref cW) = true)
    (xeW : PySem.W.subIn K (.ref cW) (.type "BaseException") = some true)
    (xtyW : PySem.W.typeIn K (.ref cW) = some (.type "type"))
    (xhW : PySem.W.hasDictIn K cW = true)
    (xsuW : PySem.W.ks_superIn K cW cW "__init__" = some (some (.builtin "ValueError.__init__")))
    (xvW : PySem.W.subIn K (.ref cW) (.type "ValueError") = some true)
    (xmW : PySem.W.mroIn K cW (.ref cW) = some true)
    (xlW : K.lookup iW = some ⟨ociW, odiW, .func (PySem.W.ksFn "__init__" "Wrong.__init__" xa_why xb_why (xS "why") .none .none dciW pmiW aniW (.ref cdaW) ctiW ccW), sliW⟩)
    (xcW : PySem.W.codeIn K (.ref cdaW) "Wrong.__init__" = true)
    (xdW : K.lookup cdaW = some ⟨o2W, od2W, .fields vsW, s2W⟩)
    (xfW : vsW[2]? = some (.str fileW tfW))
    (xgW : ((P.main.file : Str) == fileW) = true)
    (xcellW : K.lookup ccW = some ⟨clW, cldW, .cell (some (.ref cW)), cslW⟩)
    (iccR : PySem.W.isClsIn K cR = true)
    (iccN : PySem.W.isClsIn K cN = true)
    (iccW : PySem.W.isClsIn K cW = true)
    (iccE : PySem.W.isClsIn K cE = true)
    (xtyE : PySem.W.typeIn K (.ref cE) = some (.type "type"))
    (xeE : PySem.W.subIn K (.ref cE) (.type "BaseException") = some true)
    (sbRR : PySem.W.subIn K (.ref cR) (.ref cR) = some true)
    (sbNR : PySem.W.subIn K (.ref cN) (.ref cR) = some false)
    (sbNN : PySem.W.subIn K (.ref cN) (.ref cN) = some true)
    (sbWW : PySem.W.subIn K (.ref cW) (.ref cW) = some true)
    (sbWE : PySem.W.subIn K (.ref cW) (.ref cE) = some true)
    (htop : (P.main.scope.names.lookup ("super" : Str)).isSome = false)
    : Txt P K mg ⟨CT, CS, cE, cR, cN, cW, iR, iN, iW, cc, tb, is_ref, ref_of, reached, words_of, collect, s_init, s_exists, s_numbers, s_free, s_alloc, s_size, s_kind, s_set_kind, s_get, s_put, s_slots, s_drop, s_close, s_snap, s_rest, s_exch, p_init, p_press, p_root, p_set_root, p_hold, p_drop, p_held, p_all, p_collect, p_with, p_live, p_new, p_fit, p_begin, p_commit, p_abort, l_number, l_deeds, l_place, l_word, l_shown, l_new, l_held, l_changed, l_work, l_done, l_equal, l_paired, l_alike, l_row, l_state, l_coll, l_both, l_begun, l_grown, l_first, l_undone, l_pressed, l_limits, l_law⟩ :=
  { f_is_ref := ⟨_, fun_mk (st := st_is_ref) lis_ref cis_ref kis_ref⟩,
    g_is_ref := PySem.W.mg_of X G ais_ref,
    k_is_ref := kis_ref,
    f_ref_of := ⟨_, fun_mk (st := st_ref_of) lref_of cref_of kref_of⟩,
    g_ref_of := PySem.W.mg_of X G aref_of,
    k_ref_of := kref_of,
    f_reached := ⟨_, fun_mk (st := st_reached) lreached creached kreached⟩,
    g_reached := PySem.W.mg_of X G areached,
    k_reached := kreached,
    f_words_of := ⟨_, fun_mk (st := st_words_of) lwords_of cwords_of kwords_of⟩,
    g_words_of := PySem.W.mg_of X G awords_of,
    k_words_of := kwords_of,
    f_collect := ⟨_, fun_mk (st := st_collect) lcollect ccollect kcollect⟩,
    g_collect := PySem.W.mg_of X G acollect,
    k_collect := kcollect,
    f_s_init := ⟨_, fun_mk (st := st_s_init) ls_init cs_init ks_init⟩,
    f_s_exists := ⟨_, fun_mk (st := st_s_exists) ls_exists cs_exists ks_exists⟩,
    m_s_exists := ⟨as_exists, ns_exists, ks_exists⟩,
    f_s_numbers := ⟨_, fun_mk (st := st_s_numbers) ls_numbers cs_numbers ks_numbers⟩,
    m_s_numbers := ⟨as_numbers, ns_numbers, ks_numbers⟩,
    f_s_free := ⟨_, fun_mk (st := st_s_free) ls_free cs_free ks_free⟩,
    m_s_free := ⟨as_free, ns_free, ks_free⟩,
    f_s_alloc := ⟨_, fun_mk (st := st_s_alloc) ls_alloc cs_alloc ks_alloc⟩,
    m_s_alloc := ⟨as_alloc, ns_alloc, ks_alloc⟩,
    f_s_size := ⟨_, fun_mk (st := st_s_size) ls_size cs_size ks_size⟩,
    m_s_size := ⟨as_size, ns_size, ks_size⟩,
    f_s_kind := ⟨_, fun_mk (st := st_s_kind) ls_kind cs_kind ks_kind⟩,
    m_s_kind := ⟨as_kind, ns_kind, ks_kind⟩,
    f_s_set_kind := ⟨_, fun_mk (st := st_s_set_kind) ls_set_kind cs_set_kind ks_set_kind⟩,
    m_s_set_kind := ⟨as_set_kind, ns_set_kind, ks_set_kind⟩,
    f_s_get := ⟨_, fun_mk (st := st_s_get) ls_get cs_get ks_get⟩,
    m_s_get := ⟨as_get, ns_get, ks_get⟩,
    f_s_put := ⟨_, fun_mk (st := st_s_put) ls_put cs_put ks_put⟩,
    m_s_put := ⟨as_put, ns_put, ks_put⟩,
    f_s_slots := ⟨_, fun_mk (st := st_s_slots) ls_slots cs_slots ks_slots⟩,
    m_s_slots := ⟨as_slots, ns_slots, ks_slots⟩,
    f_s_drop := ⟨_, fun_mk (st := st_s_drop) ls_drop cs_drop ks_drop⟩,
    m_s_drop := ⟨as_drop, ns_drop, ks_drop⟩,
    c_s_close := ⟨_, _, _, _, _, _, _, _, ls_close, cs_close⟩,
    m_s_close := ⟨as_close, ns_close, ks_close⟩,
    f_s_snap := ⟨_, fun_mk (st := st_s_snap) ls_snap cs_snap ks_snap⟩,
    m_s_snap := ⟨as_snap, ns_snap, ks_snap⟩,
    f_s_rest := ⟨_, fun_mk (st := st_s_rest) ls_rest cs_rest ks_rest⟩,
    m_s_rest := ⟨as_rest, ns_rest, ks_rest⟩,
    f_s_exch := ⟨_, fun_mk (st := st_s_exch) ls_exch cs_exch ks_exch⟩,
    m_s_exch := ⟨as_exch, ns_exch, ks_exch⟩,
    f_p_init := ⟨_, fun_mk (st := st_p_init) lp_init cp_init kp_init⟩,
    f_p_press := ⟨_, ⟨⟨_, _, _, _, _, _, _, _, _, _, rfl, lp_press, cp_press, .inl ⟨rfl, rfl⟩, .inr ⟨kD, kP, fun q hq => by rw [List.mem_singleton.mp hq]; exact ⟨_, kA, rfl⟩⟩⟩, kp_press⟩⟩,
    m_p_press := ⟨ap_press, np_press, kp_press⟩,
    f_p_root := ⟨_, fun_mk (st := st_p_root) lp_root cp_root kp_root⟩,
    m_p_root := ⟨ap_root, np_root, kp_root⟩,
    f_p_set_root := ⟨_, fun_mk (st := st_p_set_root) lp_set_root cp_set_root kp_set_root⟩,
    m_p_set_root := ⟨ap_set_root, np_set_root, kp_set_root⟩,
    f_p_hold := ⟨_, fun_mk (st := st_p_hold) lp_hold cp_hold kp_hold⟩,
    m_p_hold := ⟨ap_hold, np_hold, kp_hold⟩,
    f_p_drop := ⟨_, fun_mk (st := st_p_drop) lp_drop cp_drop kp_drop⟩,
    m_p_drop := ⟨ap_drop, np_drop, kp_drop⟩,
    f_p_held := ⟨_, fun_mk (st := st_p_held) lp_held cp_held kp_held⟩,
    m_p_held := ⟨ap_held, np_held, kp_held⟩,
    f_p_all := ⟨_, fun_mk (st := st_p_all) lp_all cp_all kp_all⟩,
    m_p_all := ⟨ap_all, np_all, kp_all⟩,
    f_p_collect := ⟨_, fun_mk (st := st_p_collect) lp_collect cp_collect kp_collect⟩,
    m_p_collect := ⟨ap_collect, np_collect, kp_collect⟩,
    f_p_with := ⟨_, fun_mk (st := st_p_with) lp_with cp_with kp_with⟩,
    m_p_with := ⟨ap_with, np_with, kp_with⟩,
    f_p_live := ⟨_, fun_mk (st := st_p_live) lp_live cp_live kp_live⟩,
    m_p_live := ⟨ap_live, np_live, kp_live⟩,
    f_p_new := ⟨_, fun_mk (st := st_p_new) lp_new cp_new kp_new⟩,
    m_p_new := ⟨ap_new, np_new, kp_new⟩,
    f_p_fit := ⟨_, fun_mk (st := st_p_fit) lp_fit cp_fit kp_fit⟩,
    m_p_fit := ⟨ap_fit, np_fit, kp_fit⟩,
    f_p_begin := ⟨_, fun_mk (st := st_p_begin) lp_begin cp_begin kp_begin⟩,
    m_p_begin := ⟨ap_begin, np_begin, kp_begin⟩,
    f_p_commit := ⟨_, fun_mk (st := st_p_commit) lp_commit cp_commit kp_commit⟩,
    m_p_commit := ⟨ap_commit, np_commit, kp_commit⟩,
    f_p_abort := ⟨_, fun_mk (st := st_p_abort) lp_abort cp_abort kp_abort⟩,
    m_p_abort := ⟨ap_abort, np_abort, kp_abort⟩,
    f_l_number := ⟨_, fun_mk (st := st_l_number) ll_number cl_number kl_number⟩,
    g_l_number := PySem.W.mg_of X G al_number,
    k_l_number := kl_number,
    f_l_deeds := ⟨_, fun_mk (st := st_l_deeds) ll_deeds cl_deeds kl_deeds⟩,
    g_l_deeds := PySem.W.mg_of X G al_deeds,
    k_l_deeds := kl_deeds,
    f_l_place := ⟨_, fun_mk (st := st_l_place) ll_place cl_place kl_place⟩,
    g_l_place := PySem.W.mg_of X G al_place,
    k_l_place := kl_place,
    f_l_word := ⟨_, fun_mk (st := st_l_word) ll_word cl_word kl_word⟩,
    g_l_word := PySem.W.mg_of X G al_word,
    k_l_word := kl_word,
    f_l_shown := ⟨_, fun_mk (st := st_l_shown) ll_shown cl_shown kl_shown⟩,
    g_l_shown := PySem.W.mg_of X G al_shown,
    k_l_shown := kl_shown,
    f_l_new := ⟨_, fun_mk (st := st_l_new) ll_new cl_new kl_new⟩,
    g_l_new := PySem.W.mg_of X G al_new,
    k_l_new := kl_new,
    f_l_held := ⟨_, fun_mk (st := st_l_held) ll_held cl_held kl_held⟩,
    g_l_held := PySem.W.mg_of X G al_held,
    k_l_held := kl_held,
    f_l_changed := ⟨_, fun_mk (st := st_l_changed) ll_changed cl_changed kl_changed⟩,
    g_l_changed := PySem.W.mg_of X G al_changed,
    k_l_changed := kl_changed,
    f_l_work := ⟨_, fun_mk (st := st_l_work) ll_work cl_work kl_work⟩,
    g_l_work := PySem.W.mg_of X G al_work,
    k_l_work := kl_work,
    f_l_done := ⟨_, fun_mk (st := st_l_done) ll_done cl_done kl_done⟩,
    g_l_done := PySem.W.mg_of X G al_done,
    k_l_done := kl_done,
    f_l_equal := ⟨_, fun_mk (st := st_l_equal) ll_equal cl_equal kl_equal⟩,
    g_l_equal := PySem.W.mg_of X G al_equal,
    k_l_equal := kl_equal,
    f_l_paired := ⟨_, fun_mk (st := st_l_paired) ll_paired cl_paired kl_paired⟩,
    g_l_paired := PySem.W.mg_of X G al_paired,
    k_l_paired := kl_paired,
    f_l_alike := ⟨_, fun_mk (st := st_l_alike) ll_alike cl_alike kl_alike⟩,
    g_l_alike := PySem.W.mg_of X G al_alike,
    k_l_alike := kl_alike,
    f_l_row := ⟨_, fun_mk (st := st_l_row) ll_row cl_row kl_row⟩,
    g_l_row := PySem.W.mg_of X G al_row,
    k_l_row := kl_row,
    f_l_state := ⟨_, fun_mk (st := st_l_state) ll_state cl_state kl_state⟩,
    g_l_state := PySem.W.mg_of X G al_state,
    k_l_state := kl_state,
    f_l_coll := ⟨_, fun_mk (st := st_l_coll) ll_coll cl_coll kl_coll⟩,
    g_l_coll := PySem.W.mg_of X G al_coll,
    k_l_coll := kl_coll,
    f_l_both := ⟨_, fun_mk (st := st_l_both) ll_both cl_both kl_both⟩,
    g_l_both := PySem.W.mg_of X G al_both,
    k_l_both := kl_both,
    f_l_begun := ⟨_, fun_mk (st := st_l_begun) ll_begun cl_begun kl_begun⟩,
    g_l_begun := PySem.W.mg_of X G al_begun,
    k_l_begun := kl_begun,
    f_l_grown := ⟨_, fun_mk (st := st_l_grown) ll_grown cl_grown kl_grown⟩,
    g_l_grown := PySem.W.mg_of X G al_grown,
    k_l_grown := kl_grown,
    f_l_first := ⟨_, fun_mk (st := st_l_first) ll_first cl_first kl_first⟩,
    g_l_first := PySem.W.mg_of X G al_first,
    k_l_first := kl_first,
    f_l_undone := ⟨_, fun_mk (st := st_l_undone) ll_undone cl_undone kl_undone⟩,
    g_l_undone := PySem.W.mg_of X G al_undone,
    k_l_undone := kl_undone,
    f_l_pressed := ⟨_, fun_mk (st := st_l_pressed) ll_pressed cl_pressed kl_pressed⟩,
    g_l_pressed := PySem.W.mg_of X G al_pressed,
    k_l_pressed := kl_pressed,
    f_l_limits := ⟨_, fun_mk (st := st_l_limits) ll_limits cl_limits kl_limits⟩,
    g_l_limits := PySem.W.mg_of X G al_limits,
    k_l_limits := kl_limits,
    f_l_law := ⟨_, fun_mk (st := st_l_law) ll_law cl_law kl_law⟩,
    g_l_law := PySem.W.mg_of X G al_law,
    k_l_law := kl_law,
    clT := ⟨pgCT, hdCT, poCT, saCT⟩,
    clS := ⟨pgCS, hdCS, poCS, saCS⟩,
    mkT := ⟨mkCT, as_init, ns_init, kpCT⟩,
    mkS := ⟨mkCS, ap_init, np_init, kpCS⟩,
    g_CT := PySem.W.mg_of X G aCT,
    g_CS := PySem.W.mg_of X G aCS,
    nT_room := znT_room,
    nT_entries := znT_entries,
    nT_words := znT_words,
    nT_places := znT_places,
    nT_least := znT_least,
    nS_store := znS_store,
    nS_pressure := znS_pressure,
    nS_always := znS_always,
    nS_allocations := znS_allocations,
    nS_collections := znS_collections,
    nS_roots := znS_roots,
    nS_held := znS_held,
    nS_saved := znS_saved,
    b_len := PySem.W.mg_none_of X G zb_len,
    b_sorted := PySem.W.mg_none_of X G zb_sorted,
    b_sum := PySem.W.mg_none_of X G zb_sum,
    b_min := PySem.W.mg_none_of X G zb_min,
    b_list := PySem.W.mg_none_of X G zb_list,
    b_dict := PySem.W.mg_none_of X G zb_dict,
    b_int := PySem.W.mg_none_of X G zb_int,
    b_isinstance := PySem.W.mg_none_of X G zb_isinstance,
    b_range := PySem.W.mg_none_of X G zb_range,
    b_bool := PySem.W.mg_none_of X G zb_bool,
    g_NIL := ⟨_, PySem.W.mg_of X G gNIL⟩,
    g_HEADER := ⟨_, PySem.W.mg_of X G gHEADER⟩,
    g_ROOTS := ⟨_, PySem.W.mg_of X G gROOTS⟩,
    xR := { gC := PySem.W.mg_of X G acR, cls := ⟨_, _, _, _, _, _, _, _, _, _, _, _, _, _, _, xR, rvR⟩, sa := xsaR, ga := xgaR, gg := xggR, noN := xnoR, iC := xiR, tC := xtR, kC := xkR, exC := xeR, tyC := xtyR, hdC := xhR, sup := xsuR, vE := xvR, tp := tpa, ms := xmR, gS := PySem.W.mg_none_of X G zb_super, gT := PySem.W.mg_none_of X G zb_str, fn := ⟨_, _, _, _, _, _, _, _, _, _, _, _, _, _, _, _, _, _, xlR, xcR, xdR, xfR, xgR, xcellR⟩ },
    xN := { gC := PySem.W.mg_of X G acN, cls := ⟨_, _, _, _, _, _, _, _, _, _, _, _, _, _, _, xN, rvN⟩, sa := xsaN, ga := xgaN, gg := xggN, noN := xnoN, iC := xiN, tC := xtN, kC := xkN, exC := xeN, tyC := xtyN, hdC := xhN, sup := xsuN, vE := xvN, tp := tpa, ms := xmN, gS := PySem.W.mg_none_of X G zb_super, gT := PySem.W.mg_none_of X G zb_str, fn := ⟨_, _, _, _, _, _, _, _, _, _, _, _, _, _, _, _, _, _, xlN, xcN, xdN, xfN, xgN, xcellN⟩ },
    xW := { gC := PySem.W.mg_of X G acW, cls := ⟨_, _, _, _, _, _, _, _, _, _, _, _, _, _, _, xW, rvW⟩, sa := xsaW, ga := xgaW, gg := xggW, noN := xnoW, iC := xiW, tC := xtW, kC := xkW, exC := xeW, tyC := xtyW, hdC := xhW, sup := xsuW, vE := xvW, tp := tpa, ms := xmW, gS := PySem.W.mg_none_of X G zb_super, gT := PySem.W.mg_none_of X G zb_str, fn := ⟨_, _, _, _, _, _, _, _, _, _, _, _, _, _, _, _, _, _, xlW, xcW, xdW, xfW, xgW, xcellW⟩ },
    g_cE := PySem.W.mg_of X G acE,
    e_RR := exm_mk xeR iccR xtyR sbRR,
    e_NR := exm_mk xeR iccR xtyR sbNR,
    e_NN := exm_mk xeN iccN xtyN sbNN,
    e_WW := exm_mk xeW iccW xtyW sbWW,
    e_WE := exm_mk xeE iccE xtyE sbWE,
    htop := htop }
end K9
end
section
set_option Elab.async false
set_option linter.all false
set_option maxRecDepth 100000
set_option maxHeartbeats 4000000
/-! The end of the law row. -/
namespace K9
open PySem PySem.Spec PyProof.Rows L2 LamX
theorem law_at {l : PySem.W.OpenLaw} {w : World} {K : PySem.W.Frag} {mg : Str → Option Value} {fa : Addr} {h : Heap} {A : Ads} (T : Txt l.prog K mg A) (hmg : mg "law" = some (.ref fa)) (hT : h.get? A.tb = some { cls := .none, data := .fields #[] }) (nT : K.lookup A.tb = none) (C : PySem.W.CodeHd h A.cc A.tb) :
    LawAtS l w K (L2N.CX l.prog w) 14 63 "_law_script" mg fa h := by
  have e : fa = A.l_law := by
    have := hmg.symm.trans T.g_l_law
    injection this with this
    injection this
  subst e
  obtain ⟨fd, F⟩ := T.f_l_law
  refine ⟨fd, [(A.cc, A.tb)], spLaw K A, fun p hp => by rw [List.mem_singleton.mp hp]; exact hT, fun p hp => by rw [List.mem_singleton.mp hp]; exact nT, fun p hp => by rw [List.mem_singleton.mp hp]; exact C, ?_, ?_, ?_⟩
  · obtain ⟨oc, od, kV, doc, pm, an, cdv, ct, osl, rfl, lk, hcd⟩ := F.ex
    intro s u
    exact .of_eq rfl
  · intro H a ns hl _ hH hS
    refine ⟨a, ns, rfl, hS, hl, ?_, fun _ => rfl⟩
    intro p hp
    rw [List.mem_singleton.mp hp]
    exact ⟨#[], hH (A.cc, A.tb) (List.mem_singleton.mpr rfl), by trivial, fun pos cv hc => by cases hc⟩
  · intro base KX G hb
    exact ok_l_law T (hb (A.cc, A.tb) (List.mem_singleton.mpr rfl)) F
end K9
end
section
set_option Elab.async false
set_option linter.all false
open PySem PySem.W PyProof.Rows in
set_option maxRecDepth 100000 in
set_option maxHeartbeats 0 in
theorem PySem.Challenge.cw_saggar_k09_whole_undone_work_leaves_no_t_holds : PySem.Challenge.rw_saggar_k09_whole_undone_work_leaves_no_t.Holds := by
  w_on; o_law; k_head; (case hw => w_witness2)
  k_fill
  refine LamX.walk_ofTs (n := 63) (k := 14) (x := PySem.Str.ofString "_law_script") (CX := fun w => L2N.CX PySem.Challenge.rw_saggar_k09_whole_undone_work_leaves_no_t.prog w) rfl (by decide) rfl ⟨rfl, by decide, by decide⟩ (fun w h Y => PySem.W.km_in_of Y) ?F ?Z
  case Z =>
    intro w H s e s' z
    obtain ⟨_, _, _, _, _, _, _, _, _, _, _, _, _, _, _, _, z⟩ := z

  case F =>
    intro w mg fa h Y KX G hmg
    have hT := PySem.W.km_tabs_of Y
    refine' K9.law_at (K9.all_mk (tb := 247) KX G ?aCT ?aCS ?acE ?acR ?acN ?acW ?pgCT ?hdCT ?poCT ?saCT ?mkCT ?kpCT ?pgCS ?hdCS ?poCS ?saCS ?mkCS ?kpCS ?ais_ref ?lis_ref ?cis_ref ?kis_ref ?aref_of ?lref_of ?cref_of ?kref_of ?areached ?lreached ?creached ?kreached ?awords_of ?lwords_of ?cwords_of ?kwords_of ?acollect ?lcollect ?ccollect ?kcollect ?as_init ?ns_init ?ls_init ?cs_init ?ks_init ?as_exists ?ns_exists ?ls_exists ?cs_exists ?ks_exists ?as_numbers ?ns_numbers ?ls_numbers ?cs_numbers ?ks_numbers ?as_free ?ns_free ?ls_free ?cs_free ?ks_free ?as_alloc ?ns_alloc ?ls_alloc ?cs_alloc ?ks_alloc ?as_size ?ns_size ?ls_size ?cs_size ?ks_size ?as_kind ?ns_kind ?ls_kind ?cs_kind ?ks_kind ?as_set_kind ?ns_set_kind ?ls_set_kind ?cs_set_kind ?ks_set_kind ?as_get ?ns_get ?ls_get ?cs_get ?ks_get ?as_put ?ns_put ?ls_put ?cs_put ?ks_put ?as_slots ?ns_slots ?ls_slots ?cs_slots ?ks_slots ?as_drop ?ns_drop ?ls_drop ?cs_drop ?ks_drop ?as_close ?ns_close ?ls_close ?cs_close ?ks_close ?as_snap ?ns_snap ?ls_snap ?cs_snap ?ks_snap ?as_rest ?ns_rest ?ls_rest ?cs_rest ?ks_rest ?as_exch ?ns_exch ?ls_exch ?cs_exch ?ks_exch ?ap_init ?np_init ?lp_init ?cp_init ?kp_init ?ap_press ?np_press ?lp_press ?cp_press ?kp_press ?kP ?kA ?ap_root ?np_root ?lp_root ?cp_root ?kp_root ?ap_set_root ?np_set_root ?lp_set_root ?cp_set_root ?kp_set_root ?ap_hold ?np_hold ?lp_hold ?cp_hold ?kp_hold ?ap_drop ?np_drop ?lp_drop ?cp_drop ?kp_drop ?ap_held ?np_held ?lp_held ?cp_held ?kp_held ?ap_all ?np_all ?lp_all ?cp_all ?kp_all ?ap_collect ?np_collect ?lp_collect ?cp_collect ?kp_collect ?ap_with ?np_with ?lp_with ?cp_with ?kp_with ?ap_live ?np_live ?lp_live ?cp_live ?kp_live ?ap_new ?np_new ?lp_new ?cp_new ?kp_new ?ap_fit ?np_fit ?lp_fit ?cp_fit ?kp_fit ?ap_begin ?np_begin ?lp_begin ?cp_begin ?kp_begin ?ap_commit ?np_commit ?lp_commit ?cp_commit ?kp_commit ?ap_abort ?np_abort ?lp_abort ?cp_abort ?kp_abort ?al_number ?ll_number ?cl_number ?kl_number ?al_deeds ?ll_deeds ?cl_deeds ?kl_deeds ?al_place ?ll_place ?cl_place ?kl_place ?al_word ?ll_word ?cl_word ?kl_word ?al_shown ?ll_shown ?cl_shown ?kl_shown ?al_new ?ll_new ?cl_new ?kl_new ?al_held ?ll_held ?cl_held ?kl_held ?al_changed ?ll_changed ?cl_changed ?kl_changed ?al_work ?ll_work ?cl_work ?kl_work ?al_done ?ll_done ?cl_done ?kl_done ?al_equal ?ll_equal ?cl_equal ?kl_equal ?al_paired ?ll_paired ?cl_paired ?kl_paired ?al_alike ?ll_alike ?cl_alike ?kl_alike ?al_row ?ll_row ?cl_row ?kl_row ?al_state ?ll_state ?cl_state ?kl_state ?al_coll ?ll_coll ?cl_coll ?kl_coll ?al_both ?ll_both ?cl_both ?kl_both ?al_begun ?ll_begun ?cl_begun ?kl_begun ?al_grown ?ll_grown ?cl_grown ?kl_grown ?al_first ?ll_first ?cl_first ?kl_first ?al_undone ?ll_undone ?cl_undone ?kl_undone ?al_pressed ?ll_pressed ?cl_pressed ?kl_pressed ?al_limits ?ll_limits ?cl_limits ?kl_limits ?al_law ?ll_law ?cl_law ?kl_law ?znT_room ?znT_entries ?znT_words ?znT_places ?znT_least ?znS_store ?znS_pressure ?znS_always ?znS_allocations ?znS_collections ?znS_roots ?znS_held ?znS_saved ?zb_len ?zb_sorted ?zb_sum ?zb_min ?zb_list ?zb_dict ?zb_int ?zb_isinstance ?zb_range ?zb_bool ?zb_super ?zb_str ?gNIL ?gHEADER ?gROOTS ?tpa ?xR ?rvR ?xsaR ?xgaR ?xggR ?xnoR ?xiR ?xtR ?xkR ?xeR ?xtyR ?xhR ?xsuR ?xvR ?xmR ?xlR ?xcR ?xdR ?xfR ?xgR ?xcellR ?xN ?rvN ?xsaN ?xgaN ?xggN ?xnoN ?xiN ?xtN ?xkN ?xeN ?xtyN ?xhN ?xsuN ?xvN ?xmN ?xlN ?xcN ?xdN ?xfN ?xgN ?xcellN ?xW ?rvW ?xsaW ?xgaW ?xggW ?xnoW ?xiW ?xtW ?xkW ?xeW ?xtyW ?xhW ?xsuW ?xvW ?xmW ?xlW ?xcW ?xdW ?xfW ?xgW ?xcellW ?iccR ?iccN ?iccW ?iccE ?xtyE ?xeE ?sbRR ?sbNR ?sbNN ?sbWW ?sbWE ?htop) hmg (hT 247 (by simp)) ?nT (PySem.W.codeHd_of_K KX ?cH)
    (case aCT => k_is)
    (case aCS => k_is)
    (case acE => k_is)
    (case acR => k_is)
    (case acN => k_is)
    (case acW => k_is)
    (case pgCT => k_is)
    (case hdCT => k_is)
    (case poCT => k_is)
    (case saCT => k_is)
    (case mkCT => k_is)
    (case kpCT => k_is)
    (case pgCS => k_is)
    (case hdCS => k_is)
    (case poCS => k_is)
    (case saCS => k_is)
    (case mkCS => k_is)
    (case kpCS => k_is)
    (case ais_ref => k_is)
    (case lis_ref => k_is)
    (case cis_ref => k_is)
    (case kis_ref => k_is)
    (case aref_of => k_is)
    (case lref_of => k_is)
    (case cref_of => k_is)
    (case kref_of => k_is)
    (case areached => k_is)
    (case lreached => k_is)
    (case creached => k_is)
    (case kreached => k_is)
    (case awords_of => k_is)
    (case lwords_of => k_is)
    (case cwords_of => k_is)
    (case kwords_of => k_is)
    (case acollect => k_is)
    (case lcollect => k_is)
    (case ccollect => k_is)
    (case kcollect => k_is)
    (case as_init => k_is)
    (case ns_init => k_is)
    (case ls_init => k_is)
    (case cs_init => k_is)
    (case ks_init => k_is)
    (case as_exists => k_is)
    (case ns_exists => k_is)
    (case ls_exists => k_is)
    (case cs_exists => k_is)
    (case ks_exists => k_is)
    (case as_numbers => k_is)
    (case ns_numbers => k_is)
    (case ls_numbers => k_is)
    (case cs_numbers => k_is)
    (case ks_numbers => k_is)
    (case as_free => k_is)
    (case ns_free => k_is)
    (case ls_free => k_is)
    (case cs_free => k_is)
    (case ks_free => k_is)
    (case as_alloc => k_is)
    (case ns_alloc => k_is)
    (case ls_alloc => k_is)
    (case cs_alloc => k_is)
    (case ks_alloc => k_is)
    (case as_size => k_is)
    (case ns_size => k_is)
    (case ls_size => k_is)
    (case cs_size => k_is)
    (case ks_size => k_is)
    (case as_kind => k_is)
    (case ns_kind => k_is)
    (case ls_kind => k_is)
    (case cs_kind => k_is)
    (case ks_kind => k_is)
    (case as_set_kind => k_is)
    (case ns_set_kind => k_is)
    (case ls_set_kind => k_is)
    (case cs_set_kind => k_is)
    (case ks_set_kind => k_is)
    (case as_get => k_is)
    (case ns_get => k_is)
    (case ls_get => k_is)
    (case cs_get => k_is)
    (case ks_get => k_is)
    (case as_put => k_is)
    (case ns_put => k_is)
    (case ls_put => k_is)
    (case cs_put => k_is)
    (case ks_put => k_is)
    (case as_slots => k_is)
    (case ns_slots => k_is)
    (case ls_slots => k_is)
    (case cs_slots => k_is)
    (case ks_slots => k_is)
    (case as_drop => k_is)
    (case ns_drop => k_is)
    (case ls_drop => k_is)
    (case cs_drop => k_is)
    (case ks_drop => k_is)
    (case as_close => k_is)
    (case ns_close => k_is)
    (case ls_close => k_is)
    (case cs_close => k_is)
    (case ks_close => k_is)
    (case as_snap => k_is)
    (case ns_snap => k_is)
    (case ls_snap => k_is)
    (case cs_snap => k_is)
    (case ks_snap => k_is)
    (case as_rest => k_is)
    (case ns_rest => k_is)
    (case ls_rest => k_is)
    (case cs_rest => k_is)
    (case ks_rest => k_is)
    (case as_exch => k_is)
    (case ns_exch => k_is)
    (case ls_exch => k_is)
    (case cs_exch => k_is)
    (case ks_exch => k_is)
    (case ap_init => k_is)
    (case np_init => k_is)
    (case lp_init => k_is)
    (case cp_init => k_is)
    (case kp_init => k_is)
    (case ap_press => k_is)
    (case np_press => k_is)
    (case lp_press => k_is)
    (case cp_press => k_is)
    (case kp_press => k_is)
    (case kP => rfl)
    (case kA => k_is)
    (case ap_root => k_is)
    (case np_root => k_is)
    (case lp_root => k_is)
    (case cp_root => k_is)
    (case kp_root => k_is)
    (case ap_set_root => k_is)
    (case np_set_root => k_is)
    (case lp_set_root => k_is)
    (case cp_set_root => k_is)
    (case kp_set_root => k_is)
    (case ap_hold => k_is)
    (case np_hold => k_is)
    (case lp_hold => k_is)
    (case cp_hold => k_is)
    (case kp_hold => k_is)
    (case ap_drop => k_is)
    (case np_drop => k_is)
    (case lp_drop => k_is)
    (case cp_drop => k_is)
    (case kp_drop => k_is)
    (case ap_held => k_is)
    (case np_held => k_is)
    (case lp_held => k_is)
    (case cp_held => k_is)
    (case kp_held => k_is)
    (case ap_all => k_is)
    (case np_all => k_is)
    (case lp_all => k_is)
    (case cp_all => k_is)
    (case kp_all => k_is)
    (case ap_collect => k_is)
    (case np_collect => k_is)
    (case lp_collect => k_is)
    (case cp_collect => k_is)
    (case kp_collect => k_is)
    (case ap_with => k_is)
    (case np_with => k_is)
    (case lp_with => k_is)
    (case cp_with => k_is)
    (case kp_with => k_is)
    (case ap_live => k_is)
    (case np_live => k_is)
    (case lp_live => k_is)
    (case cp_live => k_is)
    (case kp_live => k_is)
    (case ap_new => k_is)
    (case np_new => k_is)
    (case lp_new => k_is)
    (case cp_new => k_is)
    (case kp_new => k_is)
    (case ap_fit => k_is)
    (case np_fit => k_is)
    (case lp_fit => k_is)
    (case cp_fit => k_is)
    (case kp_fit => k_is)
    (case ap_begin => k_is)
    (case np_begin => k_is)
    (case lp_begin => k_is)
    (case cp_begin => k_is)
    (case kp_begin => k_is)
    (case ap_commit => k_is)
    (case np_commit => k_is)
    (case lp_commit => k_is)
    (case cp_commit => k_is)
    (case kp_commit => k_is)
    (case ap_abort => k_is)
    (case np_abort => k_is)
    (case lp_abort => k_is)
    (case cp_abort => k_is)
    (case kp_abort => k_is)
    (case al_number => k_is)
    (case ll_number => k_is)
    (case cl_number => k_is)
    (case kl_number => k_is)
    (case al_deeds => k_is)
    (case ll_deeds => k_is)
    (case cl_deeds => k_is)
    (case kl_deeds => k_is)
    (case al_place => k_is)
    (case ll_place => k_is)
    (case cl_place => k_is)
    (case kl_place => k_is)
    (case al_word => k_is)
    (case ll_word => k_is)
    (case cl_word => k_is)
    (case kl_word => k_is)
    (case al_shown => k_is)
    (case ll_shown => k_is)
    (case cl_shown => k_is)
    (case kl_shown => k_is)
    (case al_new => k_is)
    (case ll_new => k_is)
    (case cl_new => k_is)
    (case kl_new => k_is)
    (case al_held => k_is)
    (case ll_held => k_is)
    (case cl_held => k_is)
    (case kl_held => k_is)
    (case al_changed => k_is)
    (case ll_changed => k_is)
    (case cl_changed => k_is)
    (case kl_changed => k_is)
    (case al_work => k_is)
    (case ll_work => k_is)
    (case cl_work => k_is)
    (case kl_work => k_is)
    (case al_done => k_is)
    (case ll_done => k_is)
    (case cl_done => k_is)
    (case kl_done => k_is)
    (case al_equal => k_is)
    (case ll_equal => k_is)
    (case cl_equal => k_is)
    (case kl_equal => k_is)
    (case al_paired => k_is)
    (case ll_paired => k_is)
    (case cl_paired => k_is)
    (case kl_paired => k_is)
    (case al_alike => k_is)
    (case ll_alike => k_is)
    (case cl_alike => k_is)
    (case kl_alike => k_is)
    (case al_row => k_is)
    (case ll_row => k_is)
    (case cl_row => k_is)
    (case kl_row => k_is)
    (case al_state => k_is)
    (case ll_state => k_is)
    (case cl_state => k_is)
    (case kl_state => k_is)
    (case al_coll => k_is)
    (case ll_coll => k_is)
    (case cl_coll => k_is)
    (case kl_coll => k_is)
    (case al_both => k_is)
    (case ll_both => k_is)
    (case cl_both => k_is)
    (case kl_both => k_is)
    (case al_begun => k_is)
    (case ll_begun => k_is)
    (case cl_begun => k_is)
    (case kl_begun => k_is)
    (case al_grown => k_is)
    (case ll_grown => k_is)
    (case cl_grown => k_is)
    (case kl_grown => k_is)
    (case al_first => k_is)
    (case ll_first => k_is)
    (case cl_first => k_is)
    (case kl_first => k_is)
    (case al_undone => k_is)
    (case ll_undone => k_is)
    (case cl_undone => k_is)
    (case kl_undone => k_is)
    (case al_pressed => k_is)
    (case ll_pressed => k_is)
    (case cl_pressed => k_is)
    (case kl_pressed => k_is)
    (case al_limits => k_is)
    (case ll_limits => k_is)
    (case cl_limits => k_is)
    (case kl_limits => k_is)
    (case al_law => k_is)
    (case ll_law => k_is)
    (case cl_law => k_is)
    (case kl_law => k_is)
    (case znT_room => k_is)
    (case znT_entries => k_is)
    (case znT_words => k_is)
    (case znT_places => k_is)
    (case znT_least => k_is)
    (case znS_store => k_is)
    (case znS_pressure => k_is)
    (case znS_always => k_is)
    (case znS_allocations => k_is)
    (case znS_collections => k_is)
    (case znS_roots => k_is)
    (case znS_held => k_is)
    (case znS_saved => k_is)
    (case zb_len => k_is)
    (case zb_sorted => k_is)
    (case zb_sum => k_is)
    (case zb_min => k_is)
    (case zb_list => k_is)
    (case zb_dict => k_is)
    (case zb_int => k_is)
    (case zb_isinstance => k_is)
    (case zb_range => k_is)
    (case zb_bool => k_is)
    (case zb_super => k_is)
    (case zb_str => k_is)
    (case gNIL => k_is)
    (case gHEADER => k_is)
    (case gROOTS => k_is)
    (case tpa => k_is)
    (case xR => k_is)
    (case rvR => decide +kernel)
    (case xsaR => k_is)
    (case xgaR => k_is)
    (case xggR => k_is)
    (case xnoR => k_is)
    (case xiR => k_is)
    (case xtR => k_is)
    (case xkR => k_is)
    (case xeR => k_is)
    (case xtyR => k_is)
    (case xhR => k_is)
    (case xsuR => ks_is)
    (case xvR => k_is)
    (case xmR => k_is)
    (case xlR => k_is)
    (case xcR => k_is)
    (case xdR => k_is)
    (case xfR => rfl)
    (case xgR => decide +kernel)
    (case xcellR => k_is)
    (case xN => k_is)
    (case rvN => decide +kernel)
    (case xsaN => k_is)
    (case xgaN => k_is)
    (case xggN => k_is)
    (case xnoN => k_is)
    (case xiN => k_is)
    (case xtN => k_is)
    (case xkN => k_is)
    (case xeN => k_is)
    (case xtyN => k_is)
    (case xhN => k_is)
    (case xsuN => ks_is)
    (case xvN => k_is)
    (case xmN => k_is)
    (case xlN => k_is)
    (case xcN => k_is)
    (case xdN => k_is)
    (case xfN => rfl)
    (case xgN => decide +kernel)
    (case xcellN => k_is)
    (case xW => k_is)
    (case rvW => decide +kernel)
    (case xsaW => k_is)
    (case xgaW => k_is)
    (case xggW => k_is)
    (case xnoW => k_is)
    (case xiW => k_is)
    (case xtW => k_is)
    (case xkW => k_is)
    (case xeW => k_is)
    (case xtyW => k_is)
    (case xhW => k_is)
    (case xsuW => ks_is)
    (case xvW => k_is)
    (case xmW => k_is)
    (case xlW => k_is)
    (case xcW => k_is)
    (case xdW => k_is)
    (case xfW => rfl)
    (case xgW => decide +kernel)
    (case xcellW => k_is)
    (case iccR => k_is)
    (case iccN => k_is)
    (case iccW => k_is)
    (case iccE => k_is)
    (case xtyE => k_is)
    (case xeE => k_is)
    (case sbRR => k_is)
    (case sbNR => k_is)
    (case sbNN => k_is)
    (case sbWW => k_is)
    (case sbWE => k_is)
    (case htop => exact (by decide +kernel))
    (case nT => kernel_rfl)
    (case cH => kernel_rfl)
end
