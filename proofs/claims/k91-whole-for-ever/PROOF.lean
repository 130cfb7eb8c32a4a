import PyProof.Rows.All
import Wide.All
import OpenK.AllK
import Wide.FinOn
import HandS.ForMost
import HandS.AnyAll
import HandS.GenOver
import PyProof.GenQ
import HandS.Deep
import HandS.Defaults
import HandS.Wide
import HandS.Style
import HandS.Conv
import HandS.Zip
import HandS.RaiseMore
import HandS.Walk
import HandS.WideMore
import HandS.Words
import HandS.ForList
import HandS.Dict
import HandS.More
import HandS.Head0
import HandS.Head1
import HandS.Head2
import HandS.HeadHook1
import HandS.HeadHook2
import HandS.HeadHook4
import HandS.HeadWalk
import PySem.Challenge.RW_raytrain_k91_whole_for_ever
set_option Elab.async false
set_option linter.all false
set_option maxRecDepth 100000
set_option maxHeartbeats 4000000
/-! all(.. for .. in ..), any(.. for .. in ..): the element and what is walked by the layer's own rules. -/
namespace Gx
open PySem PySem.Spec PyProof.Rows L2 GxR GenW

theorem over_compLoop {A : Around} {elt iter target : Expr} {ifs : List Expr} {scope : Scope} {pos : Pos} {it acc : Value} {env : Env} :
    A.over (.compLoop (.GeneratorExp elt [⟨target, iter, ifs, 0⟩] scope pos) 0 it acc env) [] = A.deeper env := by
  first
    | rfl
    | (obtain ⟨hd, d, fr, gs, u⟩ := A; simp [Around.over, Around.deeper, marksOver, frameCount, unitsOf, envsOf, guardsOf, pushEnvs, pushGuards, Code.envs, Code.env?, Code.isFrame, Code.guards, Code.isGuard, Code.weight, Code.frames, Code.isCreation, Code.isCaller, Code.cUnits])
theorem over_compStart {A : Around} {elt iter target : Expr} {ifs : List Expr} {scope : Scope} {pos : Pos} {it acc : Value} {env : Env} :
    A.over (.compStart (.GeneratorExp elt [⟨target, iter, ifs, 0⟩] scope pos) 0 it acc env) [] = A.deeper env := by
  first
    | rfl
    | (obtain ⟨hd, d, fr, gs, u⟩ := A; simp [Around.over, Around.deeper, marksOver, frameCount, unitsOf, envsOf, guardsOf, pushEnvs, pushGuards, Code.envs, Code.env?, Code.isFrame, Code.guards, Code.isGuard, Code.weight, Code.frames, Code.isCreation, Code.isCaller, Code.cUnits])

/-- the context of a generator expression's element -/
abbrev gen (X : Cx) (s : Shared) (H : Hp) (N : List Str) (cenv : Env) (fp : List Addr) (pn : List (Addr × Obj)) : Cx :=
  { X with A := (X.A.in1.in1).deeper cenv, N := N, s_0 := s, H_0 := H, env := cenv, outer := X.stack, stack := cenv :: X.stack, ex := fp, fn := fun _ => false, calm := true, pn := pn, xe := fun _ _ => False }

/-- the generator expression's scope; its names N, of each captured one its place in the def -/
structure GenCap (XN : List Str) (xs scope : Scope) (N : List Str) (cap : List (Option Nat)) : Prop where
  kind : scope.kind = .function
  co : scope.isCoroutine = false
  cell : ∀ y ∈ scope.names, y.2 ≠ .cell
  dot : scope.names.lookup (".0" : Str) = some NameKind.local
  free : ∀ y ∈ scope.names, y.2 = .free → xs.names.lookup y.1 = some .cell ∨ xs.names.lookup y.1 = some .free
  len : cap.length = N.length
  cp : ∀ (i j : Nat), cap[i]? = some (some j) → ∃ y, N[i]? = some y ∧ XN[j]? = some y ∧ scope.names.lookup y = some .free

def slot1 (σ : L2.St) (o : Option Nat) : Option V := match o with
  | some j => (match σ[j]? with
    | some v => v
    | none => none)
  | none => none
def gsl (cap : List (Option Nat)) (σ : L2.St) : L2.St := cap.map (slot1 σ)
theorem gsl_get {cap : List (Option Nat)} {σ : L2.St} {i : Nat} {v : V} (h : (gsl cap σ)[i]? = some (some v)) : ∃ j, cap[i]? = some (some j) ∧ σ[j]? = some (some v) := by
  unfold gsl at h
  rw [List.getElem?_map] at h
  cases e : cap[i]? with
  | none =>
    rw [e] at h
    cases h
  | some o =>
    rw [e] at h
    have h1 : slot1 σ o = some v := Option.some.inj h
    cases o with
    | none => cases h1
    | some j =>
      refine ⟨j, rfl, ?_⟩
      have h2 : (match σ[j]? with
        | some v => v
        | none => none) = some v := h1
      cases e2 : σ[j]? with
      | none =>
        rw [e2] at h2
        cases h2
      | some z =>
        rw [e2] at h2
        have h3 : z = some v := h2
        rw [h3]

section
variable {X : Cx} {pins : List (Addr × Obj)} {σ : L2.St} {H : Hp} {s : Shared}
theorem gen_start {scope : Scope} {N : List Str} {cap : List (Option Nat)} {fp : List Addr} {h' : Heap} {it : Value} {code : Value} {go : Obj} {G : Array GenState} {tk : Nat}
    (I : Inv X pins σ H s) (hc : X.calm = true) (S : GenCap X.N X.env.scope scope N cap) (hfp : ∀ b ∈ fp, FpOk X pins H b ∧ b < s.heap.objs.size)
    (hn : h'.Ns s.heap.objs.size (fun y => if y = ".0" then some it else none)) (hs : Heap.SameBut s.heap.objs.size (s.heap.push { cls := .type "frame", data := .dict #[] }) h')
    (hgo : ∀ v, go.data ≠ .cell v) (hal : (h'.push go).get? h'.objs.size = some go) (hb : AllBare G) :
    Inv (gen X s H N (genEnv scope (cloFrom X.env.cells scope.names []) s.heap.objs.size code builtinsNs X.env) fp [(h'.objs.size, go)]) [] (gsl cap σ) H { s with gens := G, toks := tk, heap := h'.push go } := by
  have hsz : h'.objs.size = s.heap.objs.size + 1 := by rw [hs.1, Heap.size_push]
  have kp : ∀ b o, s.heap.get? b = some o → (h'.push go).get? b = some o := fun b o e =>
    Heap.get?_push_of_some _ (hs.extBut b o (Nat.ne_of_lt (Heap.lt_size e)) (Heap.get?_push_of_some _ e))
  have hfree : ∀ y ∈ scope.names, y.2 = .free → ∃ c, X.env.cells.lookup y.1 = some c := fun y hy e => by
    rcases S.free y hy e with k | k
    · exact I.ok.has _ (.inl k)
    · exact I.ok.has _ (.inr k)
  have cm : ∀ {y c}, (y, c) ∈ cloFrom X.env.cells scope.names [] → X.env.cells.lookup y = some c ∧ c < s.heap.objs.size := fun {y c} hm => by
    rcases cloFrom_mem hm with hm | ⟨h1, rfl⟩
    · cases hm
    · obtain ⟨c, hc⟩ := hfree _ h1 rfl
      rw [hc]
      obtain ⟨w, z⟩ := I.cell _ _ hc
      exact ⟨rfl, z.lt⟩
  have cml : ∀ {y c}, (cloFrom X.env.cells scope.names []).lookup y = some c → X.env.cells.lookup y = some c ∧ c < s.heap.objs.size := fun {y c} h => cm (PySem.mem_of_lookup h)
  have look : ∀ {y}, scope.names.lookup y = some .free → ∃ c, (cloFrom X.env.cells scope.names []).lookup y = some c ∧ X.env.cells.lookup y = some c := fun {y} hl => by
    have hy : (y, NameKind.free) ∈ scope.names := PySem.mem_of_lookup hl
    obtain ⟨c', e'⟩ := mem_lookup (cloFrom_has (cells := X.env.cells) (acc := []) hy)
    exact ⟨c', e', (cml e').1⟩
  have nocell : ∀ y, ¬ scope.names.lookup y = some .cell := fun y h => S.cell _ (PySem.mem_of_lookup h) rfl
  refine ⟨⟨I.ok.mod, S.kind, I.ok.glob, rfl, Nat.le_refl _, fun y z c h1 h2 => ?_, fun y hy => ?_, fun y c h _ => (by cases h), fun _ => I.ok.hd hc, Around.frames_deeper (A := X.A.in1.in1) I.ok.frames, .inr ⟨rfl, rfl⟩, fun b hb => ⟨?_, fun y c e z => ?_⟩,
      I.bs, Nat.le_trans I.ok.bsz I.sz, fun b o e hb => ?_, fun b hb z => ?_, I.stack, I.stkFree⟩,
    rfl, hb, Un.kept kp, ⟨_, hn.push _, fun i y v h1 h2 h3 => ?_⟩, fun y c h => ?_, I.hok.fresh (Nat.le_refl _), fun y c h => ?_, fun p hp => ?_, I.hok.kept kp, ?_⟩
  · exact I.ok.inj y z c (cml h1).1 (cml h2).1
  · have hy : scope.names.lookup y = some .cell ∨ scope.names.lookup y = some .free := hy
    rcases hy with hy | hy
    · exact absurd hy (nocell y)
    · obtain ⟨c, h1, _⟩ := look hy
      exact ⟨c, h1⟩
  · exact Nat.ne_of_lt (hfp b hb).2
  · exact (hfp b hb).1.2.2.2.2.1 y c (cml e).1 z
  · rcases (hfp b hb).1.2.2.2.1 with z | z
    · exact I.ok.noex b o e z
    · exact absurd (Nat.lt_of_lt_of_le (Heap.lt_size e) (Nat.le_trans I.ok.bsz z)) (Nat.lt_irrefl _)
  · rcases List.mem_cons.mp (I.stkSub b z) with z | z
    · exact (hfp b hb).1.2.1 z
    · exact (hfp b hb).1.2.2.1 z
  · obtain ⟨j, e1, e2⟩ := gsl_get h2
    obtain ⟨y', n1, n2, n3⟩ := S.cp i j e1
    have ey : y' = y := by
      have n1' : (some y' : Option Str) = some y := n1.symm.trans h1
      exact Option.some.inj n1'
    subst ey
    obtain ⟨m, hn', hl⟩ := I.loc
    have hvis : Vis X.env.scope y' := (S.free _ (PySem.mem_of_lookup n3) rfl).elim (fun k => .inr (.inl k)) (fun k => .inr (.inr k))
    obtain ⟨u, r, q⟩ := hl j y' v n2 e2 hvis
    refine ⟨u, r, .inr ⟨.inr n3, ?_⟩⟩
    obtain ⟨c, c1, c2⟩ := look n3
    rcases q with ⟨k, _⟩ | ⟨_, c', e', z⟩
    · have k : X.env.scope.names.lookup y' = some .local := k
      rcases S.free _ (PySem.mem_of_lookup n3) rfl with k' | k' <;> rw [show X.env.scope.names.lookup y' = _ from k'] at k <;> cases k
    · rw [c2] at e'; cases e'
      exact ⟨c, c1, z.keeps kp⟩
  · obtain ⟨w, z⟩ := I.cell y c (cml h).1
    exact ⟨w, z.keeps kp⟩
  · exact I.freeC y c (cml h).1
  · have hp' : p = (h'.objs.size, go) := by simpa using hp
    subst hp'
    refine ⟨hal, I.hok.fresh (by show s.heap.objs.size ≤ h'.objs.size; omega), ?_, fun z => ?_, hgo⟩
    · show h'.objs.size ≠ s.heap.objs.size
      omega
    · obtain ⟨_, o, ho, _⟩ := I.stack.mem z
      have h1 := Heap.lt_size ho
      have h2 : h'.objs.size < s.heap.objs.size := h1
      omega
  · show (gsl cap σ).length = N.length
    unfold gsl
    rw [List.length_map]
    exact S.len
end
end Gx
set_option Elab.async false
set_option linter.all false
set_option maxRecDepth 100000
set_option maxHeartbeats 4000000
namespace Gx
open PySem PySem.Spec PyProof.Rows L2 GxR GenW

/-- where the walk stands between two turns -/
structure Mid (X : Cx) (fp : List Addr) (tn : Nat → Heap → Prop) (i : Nat) (σ : L2.St) (H : Hp) (s : Shared) : Prop where
  inv : Inv X [] σ H s
  tn : tn i s.heap
  fr : ∀ b ∈ fp, H b = none
/-- while the generator sleeps nothing is written -/
def Wk (s s' : Shared) : Prop := ∃ (G : Array GenState) (tk : Nat), AllBare G ∧ s' = { s with gens := G, toks := tk }
theorem Wk.inv {X : Cx} {pins : List (Addr × Obj)} {σ : L2.St} {H : Hp} {s s' : Shared} (h : Wk s s') (I : Inv X pins σ H s) : Inv X pins σ H s' := by
  obtain ⟨G, tk, hb, rfl⟩ := h
  exact I.call' (ch := []) rfl Un.refl I.hok hb fun b z => by simp at z
theorem Mid.wk {X : Cx} {fp : List Addr} {tn : Nat → Heap → Prop} {i : Nat} {σ : L2.St} {H : Hp} {s s' : Shared} (h : Wk s s') (m : Mid X fp tn i σ H s) : Mid X fp tn i σ H s' := by
  refine ⟨h.inv m.inv, ?_, m.fr⟩
  obtain ⟨G, tk, hb, rfl⟩ := h
  exact m.tn
/-- the walk's invariant: m turns are left; go: the answer that goes on -/
abbrev WG := Nat → Nat → L2.St → Hp → Prop
def Turns (J : It) (g : TG) (te : TE) (go : Bool) (W : WG) (Qe : Bool → Hp → Prop) : Prop := ∀ i m σ H, W i m σ H →
  (m = 0 ∧ J.stop i H ∧ Qe go H) ∨ (∃ m', m = m' + 1 ∧ J.go i H ∧ ∀ x H1, J.yld i H x H1 → g x σ H1 fun σ2 H2 => te σ2 H2 fun y H3 => ∃ b, y = .bl b ∧ ((b = go ∧ W (i + 1) m' σ2 H3) ∨ (b = !go ∧ Qe b H3)))
def YG (X : Cx) (fp : List Addr) (tn : Nat → Heap → Prop) (go : Bool) (W : WG) (Qe : Bool → Hp → Prop) : Protocol := fun n s₀ v s kap =>
  ∃ (b : Bool) (i : Nat) (σ : L2.St) (H : Hp), v = .bool b ∧ Mid X fp tn i σ H s ∧ ((b = go ∧ W i n σ H ∧ ∀ s', Wk s s' → kap (.send .none) s') ∨ (b = !go ∧ Qe b H))
def PG0 (X : Cx) (go : Bool) (Qe : Bool → Hp → Prop) : Nat → Shared → Shared → Prop := fun _ _ s => ∃ σ H, Inv X [] σ H s ∧ Qe go H

section
variable {X : Cx} {A : Around} {tg elt iter : Expr} {scope : Scope} {pos : Pos} {it : Addr} {fp : List Addr} {tn : Nat → Heap → Prop} {J : It} {g : TG} {te : TE} {go : Bool} {W : WG} {Qe : Bool → Hp → Prop}
theorem seg_loop (hA : X.A = A.deeper X.env) (hc : X.calm = true) (hco : X.env.scope.isCoroutine = false) (T : Turn X.prog X.w X.K tg J fp it tn) (hfs : ∀ b ∈ fp, ∀ H : Hp, H b = none → FpOk X [] H b) (hg : PG X tg g) (he : PE X elt te) (hxe : X.xe = fun _ _ => False)
    (hW : Turns J g te go W Qe) : ∀ (m i : Nat) (s₀ s : Shared) (σ : L2.St) (H : Hp), W i m σ H → Mid X fp tn i σ H s →
      Seg (model X.prog X.w) A (fun n s₀ r s₁ => r = .ok .next ∧ PG0 X go Qe n s₀ s₁) (YG X fp tn go W Qe) m s₀
        (.compLoop (.GeneratorExp elt [⟨tg, iter, [], 0⟩] scope pos) 0 (.ref it) .none X.env)
        ((model X.prog X.w).den (.compLoop (.GeneratorExp elt [⟨tg, iter, [], 0⟩] scope pos) 0 (.ref it) .none X.env)) [] s := by
  have hov : A.over (.compLoop (.GeneratorExp elt [⟨tg, iter, [], 0⟩] scope pos) 0 (.ref it) .none X.env) [] = X.A := over_compLoop.trans hA.symm
  intro m
  induction m with
  | zero =>
    intro i s₀ s σ H w M
    show Seg _ A _ _ _ s₀ _ ((compTurn (.GeneratorExp elt [⟨tg, iter, [], 0⟩] scope pos) 0 (.ref it) .none X.env).onRaise (leaving X.env)) [] s
    rw [compTurn_gen, Sem.onRaise_eq_wrap]
    refine seg_bind_wrap (wpAny_standAt ?_)
    rcases hW i 0 σ H w with ⟨_, stop, q⟩ | ⟨m', e, _⟩
    · refine seg_bind_wrap ?_
      rw [hov]
      refine thn (T.done X rfl rfl rfl hc i [] s σ H _ M.inv (fun b hb => hfs b hb H (M.fr b hb)) M.tn stop) fun r s1 ⟨hr, I1⟩ => ?_
      subst hr
      exact seg_end (.ok .next) ⟨rfl, σ, H, I1, q⟩
    · cases e
  | succ m ih =>
    intro i s₀ s σ H w M
    show Seg _ A _ _ _ s₀ _ ((compTurn (.GeneratorExp elt [⟨tg, iter, [], 0⟩] scope pos) 0 (.ref it) .none X.env).onRaise (leaving X.env)) [] s
    rw [compTurn_gen, Sem.onRaise_eq_wrap]
    refine seg_bind_wrap (wpAny_standAt ?_)
    rcases hW i (m + 1) σ H w with ⟨e, _⟩ | ⟨m', e, jgo, turn⟩
    · cases e
    have em : m' = m := by omega
    subst em
    refine seg_bind_wrap ?_
    rw [hov]
    refine thn (T.item X rfl rfl rfl hc i [] s σ H _ M.inv (fun b hb => hfs b hb H (M.fr b hb)) M.tn jgo) fun r s1 ⟨u, hr, h1⟩ => ?_
    subst hr
    refine seg_bind_wrap ?_
    rw [hov]
    refine wpAny_mono h1 (fun _ s2 ⟨x, H2, I2, r2, y2, st2, fr2⟩ => ?_) fun e s' z => z
    have I2' := I2.pinned (fun b hb => hfs b hb H2 (fr2 b hb)) (T.obj _ _ st2)
    refine seg_bind_wrap ?_
    rw [hov]
    have hgr := hg.run _ s2 σ H2 x u _ I2' r2 (turn x H2 y2)
    rw [hxe] at hgr
    refine thnF hgr fun _ s3 ⟨σ3, H3, I3, q3⟩ => ?_
    refine seg_bind_wrap (wpAny_tests_nil ?_)
    simp only [if_true]
    have hy : ∀ v, yieldOut X.env v = yieldValue v := fun v => by simp only [yieldOut, hco, Bool.false_eq_true, if_false]
    simp only [hy]
    rw [Sem.bind_eq_wrap', Sem.bind_eq_wrap', Sem.wrap_wrap, Sem.wrap_wrap]
    refine seg_wrap ?_
    rw [hov]
    have her := he.run _ s3 σ3 H3 _ I3 q3
    rw [hxe] at her
    refine thnF her fun v s4 ⟨y, H4, I4, r4, b, ey, q4⟩ => ?_
    subst ey
    obtain rfl : v = Value.bool b := r4
    have M4 : Mid X fp tn (i + 1) σ3 H4 s4 := by
      refine ⟨I4.unpinned, T.keep _ _ _ st2 fun b hb o e => (I4.pin (b, o) (List.mem_append_right _ (List.mem_append_right _ (mem_pinsAt hb e)))).1, fun b hb => ?_⟩
      obtain ⟨o, e, d⟩ := T.obj _ _ st2 b hb
      exact (I4.pin (b, o) (List.mem_append_right _ (List.mem_append_right _ (mem_pinsAt hb e)))).2.1
    refine seg_at (seg_yield rfl rfl rfl ⟨b, i + 1, σ3, H4, rfl, M4, ?_⟩)
    rcases q4 with ⟨eb, w4⟩ | ⟨eb, q⟩
    · exact .inl ⟨eb, w4, fun s' hk => seg_again rfl (ih (i + 1) s' s' σ3 H4 w4 (M4.wk hk))⟩
    · exact .inr ⟨eb, q⟩
theorem seg_begin (hA : X.A = A.deeper X.env) (hc : X.calm = true) (hco : X.env.scope.isCoroutine = false) (T : Turn X.prog X.w X.K tg J fp it tn) (hfs : ∀ b ∈ fp, ∀ H : Hp, H b = none → FpOk X [] H b) (hg : PG X tg g) (he : PE X elt te) (hxe : X.xe = fun _ _ => False)
    (hW : Turns J g te go W Qe) (m i : Nat) (s₀ s : Shared) (σ : L2.St) (H : Hp) (w : W i m σ H) (M : Mid X fp tn i σ H s) :
      Seg (model X.prog X.w) A (fun n s₀ r s₁ => r = .ok .next ∧ PG0 X go Qe n s₀ s₁) (YG X fp tn go W Qe) m s₀
        (.compStart (.GeneratorExp elt [⟨tg, iter, [], 0⟩] scope pos) 0 (.ref it) .none X.env)
        ((model X.prog X.w).den (.compStart (.GeneratorExp elt [⟨tg, iter, [], 0⟩] scope pos) 0 (.ref it) .none X.env)) [] s := by
  have loop := seg_loop (iter := iter) (scope := scope) (pos := pos) hA hc hco T hfs hg he hxe hW m i s₀ s σ H w M
  show Seg _ A _ _ _ s₀ _ ((compStart (.GeneratorExp elt [⟨tg, iter, [], 0⟩] scope pos) 0 (.ref it) .none X.env).onRaise (leaving X.env)) [] s
  unfold compStart
  rw [Sem.onRaise_eq_wrap]
  show Seg _ A _ _ _ s₀ _ ((ask >>= _).wrap _ _ _ _) [] s
  refine seg_bind_wrap (wpAny_askSetting ?_)
  split
  · exact seg_again rfl loop
  · first
      | exact seg_bind_wrap (wpAny_rule (seg_bind_wrap (wpAny_standAt (seg_bind_wrap (T.self _ i s _ _ M.tn (seg_again rfl loop))))))
      | (refine seg_bind_wrap (wpAny_rule ?_); show Seg _ A _ _ _ s₀ _ ((standAt iter.pos >>= _).wrap _ _ _ _) [] s; exact seg_bind_wrap (wpAny_standAt (seg_bind_wrap (T.self _ i s _ _ M.tn (seg_again rfl loop)))))
end
end Gx
set_option Elab.async false
set_option linter.all false
set_option maxRecDepth 100000
set_option maxHeartbeats 4000000
namespace Gx
open PySem PySem.Spec PyProof.Rows L2 GxR GenW
open PySem (F.entry_all_loop)

theorem bare_set {G : Array GenState} {g : Nat} {x : GenState} (h : AllBare G) (hx : x.bare = true) : AllBare (G.setIfInBounds g x) := fun y hy => by
  rcases Array.mem_or_eq_of_mem_setIfInBounds hy with z | z
  · exact h y z
  · rw [z]
    exact hx
theorem wk_set {s : Shared} {g : Nat} {x : GenState} (h : AllBare s.gens) (hx : x.bare = true) : Wk s (s.setGen g x) := ⟨_, s.toks, bare_set h hx, rfl⟩
theorem set_at {s : Shared} {g : Nat} {x : GenState} (h : g < s.gens.size) : (s.setGen g x).gens[g]? = some x := by
  simp [Shared.setGen, h]
theorem Wk.trans {s s1 s2 : Shared} (a : Wk s s1) (b : Wk s1 s2) : Wk s s2 := by
  obtain ⟨G, tk, hb, rfl⟩ := a
  obtain ⟨G', tk', hb', rfl⟩ := b
  exact ⟨G', tk', hb', rfl⟩

section
variable {X : Cx} {B : Around} {fp : List Addr} {tn : Nat → Heap → Prop} {J : It} {g : TG} {te : TE} {go : Bool} {W : WG} {Qe : Bool → Hp → Prop} {a : Addr} {gn : Nat}
/-- the generator as its consumer meets it -/
structure Sleeps (X : Cx) (B : Around) (fp : List Addr) (tn : Nat → Heap → Prop) (go : Bool) (W : WG) (Qe : Bool → Hp → Prop) (gn : Nat) (m : Nat) (s : Shared) : Prop where
  ex : ∃ gs, s.gens[gn]? = some gs ∧ ∀ s', Wk s s' → gs.Goes (model X.prog X.w) B.in1.in1 (fun n s₀ r s₁ => r = .ok .next ∧ PG0 X go Qe n s₀ s₁) (YG X fp tn go W Qe) m (.send .none) s'
theorem next_gen (hh : B.handled = none) (hroom : B.depth < recursionLimit) (hpn : ∃ ob, (a, ob) ∈ X.pn ∧ ∀ h : Heap, h.get? a = some ob → h.IsGen a gn) {m i : Nat} {σ : L2.St} {H : Hp} {s : Shared} (M : Mid X fp tn i σ H s) (z : Sleeps X B fp tn go W Qe gn m s)
    {Q : Option Value → Shared → Prop} {E : Value → Shared → Prop} (hN : ∀ σ' H' s', Inv X [] σ' H' s' → Qe go H' → Q none s') (hS : ∀ b i' m' σ' H' s', m = m' + 1 → Mid X fp tn i' σ' H' s' → b = go → W i' m' σ' H' → Sleeps X B fp tn go W Qe gn m' s' → Q (some (.bool b)) s')
    (hX : ∀ b σ' H' s', Inv X [] σ' H' s' → b = !go → Qe b H' → Q (some (.bool b)) s') : wpAny (model X.prog X.w) B.in1 (pyNext (.ref a)) Q E s := by
  obtain ⟨ob, hob, hisg⟩ := hpn
  obtain ⟨gs, hgs, hgo⟩ := z.ex
  have isg : ∀ {σ' : L2.St} {H' : Hp} {s' : Shared}, Inv X [] σ' H' s' → s'.heap.IsGen a gn := fun I => hisg _ (I.pin (a, ob) (List.mem_append_left _ hob)).1
  have hlt : gn < s.gens.size := (Array.getElem?_eq_some_iff.mp hgs).1
  refine wpAny_gsz (n := s.gens.size) (Nat.le_refl _) ?_
  refine wpAny_pyNext_genexpQ (A := B.in1) (P := PG0 X go Qe) hh M.inv.nolimit hroom (isg M.inv) hgs (hgo _ (wk_set M.inv.bare rfl)) (fun v s₁ gs' hb hv hsz => ?_) (fun s₁ hp h' hk hsz => ?_)
  · obtain ⟨b, i', σ', H', rfl, M1, q⟩ := hv
    have hszS : gn < s₁.gens.size := by
      have e : (s₁.setGen gn gs').gens.size = s₁.gens.size := setGen_size _ _ _
      rw [e] at hsz
      omega
    have wk : Wk s₁ (s₁.setGen gn gs') := wk_set M1.inv.bare hb
    rcases q with ⟨eb, w, kap⟩ | ⟨eb, q⟩
    · cases m with
      | zero => exact (kap s₁ ⟨_, s₁.toks, M1.inv.bare, rfl⟩).elim
      | succ m' => exact hS b i' m' σ' H' _ rfl (M1.wk wk) eb w ⟨gs', set_at hszS, fun s' hs' => kap s' (wk.trans hs')⟩
    · exact hX b σ' H' _ (wk.inv M1.inv) eb q
  · obtain ⟨σ', H', I', q⟩ := hp
    refine hN σ' H' _ ?_ q
    have I2 := (wk_set (g := gn) (x := .finished) I'.bare rfl).inv I'
    exact I2.call' (ch := []) rfl (Un.kept hk) (I2.hok.kept hk) I2.bare fun b z => by simp at z
theorem loop_all (hh : B.handled = none) (hroom : B.depth < recursionLimit) (hpn : ∃ ob, (a, ob) ∈ X.pn ∧ ∀ h : Heap, h.get? a = some ob → h.IsGen a gn) {R : Result → Shared → Prop}
    (hR : ∀ b σ H s, Inv X [] σ H s → Qe b H → R (.ok (.ret (.bool b))) s) : ∀ (m i : Nat) (σ : L2.St) (H : Hp) (s : Shared), Mid X fp tn i σ H s → Sleeps X B fp tn true W Qe gn m s → codeAny (model X.prog X.w) B (.builtin "all.loop" ⟨[.ref a], []⟩) R s := by
  intro m
  induction m with
  | zero =>
    intro i σ H s M z
    refine codeAny_builtin F.entry_all_loop ?_
    rw [Around.under_plainId F.plain_all_loop _]
    show wpAny _ B.in1 (pyNext (.ref a) >>= _) _ _ s
    refine wpAny_bind (next_gen hh hroom hpn M z (fun σ' H' s' I q => ?_) (fun b i' m' σ' H' s' em M1 eb w z1 => ?_) fun b σ' H' s' I eb q => ?_)
    · refine wpAny_bind (wpAny_rule (wpAny_pure ?_))
      exact hR _ _ _ _ I q
    · cases em
    · subst eb
      refine wpAny_bind (wpAny_holding (wpAny_truthy_bool ?_))
      refine wpAny_bind (wpAny_letGo ?_)
      simp only [Bool.not_true, Bool.false_eq_true, if_false]
      refine wpAny_bind (wpAny_rule (wpAny_pure ?_))
      exact hR _ _ _ _ I q
  | succ m ih =>
    intro i σ H s M z
    refine codeAny_builtin F.entry_all_loop ?_
    rw [Around.under_plainId F.plain_all_loop _]
    show wpAny _ B.in1 (pyNext (.ref a) >>= _) _ _ s
    refine wpAny_bind (next_gen hh hroom hpn M z (fun σ' H' s' I q => ?_) (fun b i' m' σ' H' s' em M1 eb w z1 => ?_) fun b σ' H' s' I eb q => ?_)
    · refine wpAny_bind (wpAny_rule (wpAny_pure ?_))
      exact hR _ _ _ _ I q
    · have em' : m' = m := by omega
      subst em' eb
      refine wpAny_bind (wpAny_holding (wpAny_truthy_bool ?_))
      refine wpAny_bind (wpAny_letGo ?_)
      simp only [if_true]
      exact wpAny_pure ⟨plainId_quiet F.plain_all_loop _, ih i' σ' H' s' M1 z1⟩
    · subst eb
      refine wpAny_bind (wpAny_holding (wpAny_truthy_bool ?_))
      refine wpAny_bind (wpAny_letGo ?_)
      simp only [Bool.not_true, Bool.false_eq_true, if_false]
      refine wpAny_bind (wpAny_rule (wpAny_pure ?_))
      exact hR _ _ _ _ I q
theorem loop_any (hh : B.handled = none) (hroom : B.depth < recursionLimit) (hpn : ∃ ob, (a, ob) ∈ X.pn ∧ ∀ h : Heap, h.get? a = some ob → h.IsGen a gn) {R : Result → Shared → Prop}
    (hR : ∀ b σ H s, Inv X [] σ H s → Qe b H → R (.ok (.ret (.bool b))) s) : ∀ (m i : Nat) (σ : L2.St) (H : Hp) (s : Shared), Mid X fp tn i σ H s → Sleeps X B fp tn false W Qe gn m s → codeAny (model X.prog X.w) B (.builtin "any.loop" ⟨[.ref a], []⟩) R s := by
  intro m
  induction m with
  | zero =>
    intro i σ H s M z
    refine codeAny_builtin F.entry_any_loop ?_
    rw [Around.under_plainId F.plain_any_loop _]
    show wpAny _ B.in1 (pyNext (.ref a) >>= _) _ _ s
    refine wpAny_bind (next_gen hh hroom hpn M z (fun σ' H' s' I q => ?_) (fun b i' m' σ' H' s' em M1 eb w z1 => ?_) fun b σ' H' s' I eb q => ?_)
    · refine wpAny_bind (wpAny_rule (wpAny_pure ?_))
      exact hR _ _ _ _ I q
    · cases em
    · subst eb
      refine wpAny_bind (wpAny_holding (wpAny_truthy_bool ?_))
      refine wpAny_bind (wpAny_letGo ?_)
      simp only [Bool.not_false, if_true]
      refine wpAny_bind (wpAny_rule (wpAny_pure ?_))
      exact hR _ _ _ _ I q
  | succ m ih =>
    intro i σ H s M z
    refine codeAny_builtin F.entry_any_loop ?_
    rw [Around.under_plainId F.plain_any_loop _]
    show wpAny _ B.in1 (pyNext (.ref a) >>= _) _ _ s
    refine wpAny_bind (next_gen hh hroom hpn M z (fun σ' H' s' I q => ?_) (fun b i' m' σ' H' s' em M1 eb w z1 => ?_) fun b σ' H' s' I eb q => ?_)
    · refine wpAny_bind (wpAny_rule (wpAny_pure ?_))
      exact hR _ _ _ _ I q
    · have em' : m' = m := by omega
      subst em' eb
      refine wpAny_bind (wpAny_holding (wpAny_truthy_bool ?_))
      refine wpAny_bind (wpAny_letGo ?_)
      simp only [Bool.false_eq_true, if_false]
      exact wpAny_pure ⟨plainId_quiet F.plain_any_loop _, ih i' σ' H' s' M1 z1⟩
    · subst eb
      refine wpAny_bind (wpAny_holding (wpAny_truthy_bool ?_))
      refine wpAny_bind (wpAny_letGo ?_)
      simp only [Bool.not_false, if_true]
      refine wpAny_bind (wpAny_rule (wpAny_pure ?_))
      exact hR _ _ _ _ I q
end
end Gx
set_option Elab.async false
set_option linter.all false
set_option maxRecDepth 100000
set_option maxHeartbeats 4000000
namespace Gx
open PySem PySem.Spec PyProof.Rows L2 GxR GenW

section
variable {X : Cx} {pins : List (Addr × Obj)} {σ : L2.St} {H : Hp} {s : Shared}
/-- what is behind the iterator's coming: the table may have grown -/
def tGenR (P : Addr) (cap : List (Option Nat)) (g : TG) (te : TE) (go : Bool) (σ : L2.St) (Qe : Bool → Hp → Prop) (J : It) (H1 : Hp) : Prop :=
  TabG H1 P ∧ ∀ H2, Tabbed P H1 H2 → ∃ W : WG, (∃ m, W 0 m (gsl cap σ) H2) ∧ Turns J g te go W Qe

theorem gen_make {c P : Addr} {elt iter tg : Expr} {gpos : Pos} {scope : Scope} {N : List Str} {cap : List (Option Nat)} {wi : TI} {g : TG} {te : TE} {go : Bool} {Qe : Bool → Hp → Prop} {Q' : Value → Shared → Prop}
    (hc : X.calm = true) (hroom : X.A.depth < recursionLimit) (TB : TabB X.base X.mg c P) (hcode : X.env.code = .ref c) (S : GenCap X.N X.env.scope scope N cap) (hi : PI X tg iter wi)
    (hgt : ∀ (s : Shared) (H : Hp) (C : Addr) (code : Value) (fp : List Addr) (pn : List (Addr × Obj)), PG (gen X s H N (genEnv scope (cloFrom X.env.cells scope.names []) C code builtinsNs X.env) fp pn) tg g)
    (hel : ∀ (s : Shared) (H : Hp) (C : Addr) (code : Value) (fp : List Addr) (pn : List (Addr × Obj)), PE (gen X s H N (genEnv scope (cloFrom X.env.cells scope.names []) C code builtinsNs X.env) fp pn) elt te)
    (hs : ∀ v, genFold iter X.env v = pure v) (I : Inv X pins σ H s) (h : wi σ H (tGenR P cap g te go σ Qe))
    (hQ : ∀ (s4 s5 : Shared) (H4 : Hp) (cenv : Env) (fp : List Addr) (tn : Nat → Heap → Prop) (W : WG) (m a gn : Nat) (ob : Obj), (∀ h : Heap, h.get? a = some ob → h.IsGen a gn) → s5.heap.IsGen a gn →
      Mid (gen X s4 H4 N cenv fp [(a, ob)]) fp tn 0 (gsl cap σ) H4 s5 → Sleeps (gen X s4 H4 N cenv fp [(a, ob)]) X.A fp tn go W Qe gn m s5 →
      (∀ σ' H' s', Inv (gen X s4 H4 N cenv fp [(a, ob)]) [] σ' H' s' → Inv X pins σ H' s') → Q' (.ref a) s5) :
    wpAny (model X.prog X.w) X.A (eval (.GeneratorExp elt [⟨tg, iter, [], 0⟩] scope gpos) X.env) Q' X.xe s := by
  refine wpAny_GeneratorExp_make S.co (closure_ok fun y hy e => ?_) S.cell S.dot S.kind hroom ?_ hs
  · rcases S.free y hy e with k | k
    · exact I.ok.has _ (.inl k)
    · exact I.ok.has _ (.inr k)
  refine thn (hi.run pins s σ H _ I h) fun xv s1 h1 => thn h1 fun itv s2 h2 => ?_
  obtain ⟨it, fp, tn, J, H1, rfl, I2, T, st2, f2, ⟨ps, hP, ht⟩, hrest⟩ := h2
  refine ⟨I2.nolimit, ?_⟩
  have hPs : s2.heap.get? P = some { cls := .none, data := .fields ps } := I2.hok P _ hP
  have hPlt : P < s2.heap.objs.size := Heap.lt_size hPs
  have cd : PySem.W.CodeHd s2.heap c P := TB.code.keeps fun b u e => I2.bk b u e
  have nfp : ∀ b ∈ fp, b ≠ P := fun b hb z => by
    have q := (f2 b hb).1
    rw [z, hP] at q
    cases q
  have cont : ∀ (code : Value) (h3 : Heap) (tk : Nat) (ps' : Array Value), Heap.ExtBut P s2.heap h3 → h3.get? P = some { cls := .none, data := .fields ps' } → (∃ more, ps' = ps ++ more) → TriplesOk ps'.toList →
      wpAny (model X.prog X.w) X.A (builtinsFor X.env.globals X.env.builtins) (fun bi s₄ =>
        ∀ h', h'.Ns s₄.heap.objs.size (fun y => if y = ".0" then some (.ref it) else none) → Heap.SameBut s₄.heap.objs.size (s₄.heap.push { cls := .type "frame", data := .dict #[] }) h' →
          Q' (.ref h'.objs.size) { s₄ with
            gens := s₄.gens.push (.fresh (.compStart (.GeneratorExp elt [⟨tg, iter, [], 0⟩] scope gpos) 0 (.ref it) .none (genEnv scope (cloFrom X.env.cells scope.names []) s₄.heap.objs.size code bi X.env))),
            toks := s₄.toks + 1 + 1 + 1,
            heap := h'.push { cls := .type "generator", data := .fields #[.int s₄.gens.size 0, .str "<genexpr>" (s₄.toks + 1), .str (X.env.qual ++ "<genexpr>") (s₄.toks + 1 + 1)] } }) X.xe { s2 with heap := h3, toks := tk } := by
    intro code h3 tk ps' hx hP3 hmore ht3
    obtain ⟨more, em⟩ := hmore
    subst em
    obtain ⟨bm, ob, e1, e2, e3, e4, e5, e6, e7, e8⟩ := TB.bm
    have I4 : Inv X pins σ (upd H1 P (.tbl (ps ++ more))) { s2 with heap := h3, toks := tk } :=
      inv_tab (more := more) (h' := h3) (g' := s2.gens) (d' := s2.drawn) (t' := tk) I2 hP (fun b u hb e => hx b u hb e) hP3 I2.bare
    refine wpAny_builtinsFor (m := X.mg) (by rw [I2.ok.glob]; exact (I2.mod.glob.keeps I2.bk).extBut hx TB.gP) e1 e2 (hx _ _ e4 (I2.bk _ _ e5)) e6 e7 e8 ?_
    intro h' hn' hs'
    obtain ⟨W, ⟨m, w0⟩, hW⟩ := hrest (upd H1 P (.tbl (ps ++ more))) ⟨⟨_, upd_same, ht3⟩, fun b hb => upd_ne hb⟩
    have st3 : tn 0 h3 := T.keep 0 _ _ st2 fun b hb o e => hx b o (nfp b hb) e
    have f4 : ∀ b ∈ fp, FpOk X pins (upd H1 P (.tbl (ps ++ more))) b := fun b hb => by
      obtain ⟨q1, q2, q3, q4, q5, q6⟩ := f2 b hb
      exact ⟨by rw [upd_ne (nfp b hb)]; exact q1, q2, q3, q4, q5, q6⟩
    have hfl : ∀ b ∈ fp, b < h3.objs.size := fun b hb => by
      obtain ⟨o, e, _⟩ := T.obj 0 h3 st3 b hb
      exact Heap.lt_size e
    have hsz : h'.objs.size = h3.objs.size + 1 := by rw [hs'.1, Heap.size_push]
    have keep5 : ∀ (go : Obj) b o, h3.get? b = some o → (h'.push go).get? b = some o := fun go b o e => Heap.get?_push_of_some _ (hs'.extBut b o (Nat.ne_of_lt (Heap.lt_size e)) (Heap.get?_push_of_some _ e))
    have hgen : ∀ h : Heap, h.get? h'.objs.size = some { cls := .type "generator", data := .fields #[.int s2.gens.size 0, .str "<genexpr>" (tk + 1), .str (X.env.qual ++ "<genexpr>") (tk + 1 + 1)] } → h.IsGen h'.objs.size s2.gens.size := fun h e => ⟨_, _, _, e, rfl, rfl, rfl⟩
    have hpushed : (h'.push { cls := .type "generator", data := .fields #[.int s2.gens.size 0, .str "<genexpr>" (tk + 1), .str (X.env.qual ++ "<genexpr>") (tk + 1 + 1)] }).get? h'.objs.size = some { cls := .type "generator", data := .fields #[.int s2.gens.size 0, .str "<genexpr>" (tk + 1), .str (X.env.qual ++ "<genexpr>") (tk + 1 + 1)] } := Heap.get?_push_size _ rfl
    have I5 := gen_start (N := N) (code := code) (tk := tk + 1 + 1 + 1) (it := .ref it) (G := s2.gens.push (.fresh (.compStart (.GeneratorExp elt [⟨tg, iter, [], 0⟩] scope gpos) 0 (.ref it) .none (genEnv scope (cloFrom X.env.cells scope.names []) h3.objs.size code builtinsNs X.env))))
      I4 hc S (fun b hb => ⟨f4 b hb, hfl b hb⟩) hn' hs' (fun v z => by cases z) hpushed (I2.bare.push rfl)
    have M5 : Mid (gen X { s2 with heap := h3, toks := tk } (upd H1 P (.tbl (ps ++ more))) N (genEnv scope (cloFrom X.env.cells scope.names []) h3.objs.size code builtinsNs X.env) fp [(h'.objs.size, _)]) fp tn 0 (gsl cap σ) (upd H1 P (.tbl (ps ++ more))) _ :=
      ⟨I5, T.keep 0 _ _ st3 fun b hb o e => keep5 _ b o e, fun b hb => (f4 b hb).1⟩
    have T' : Turn X.prog X.w X.K tg J fp it tn := T
    refine hQ { s2 with heap := h3, toks := tk } _ (upd H1 P (.tbl (ps ++ more))) (genEnv scope (cloFrom X.env.cells scope.names []) h3.objs.size code builtinsNs X.env) fp tn W m h'.objs.size s2.gens.size _ hgen (hgen _ hpushed) M5 ⟨_, Array.getElem?_push_size .., fun s' hk => ⟨rfl, ?_⟩⟩ ?_
    · refine seg_begin (X := gen X { s2 with heap := h3, toks := tk } (upd H1 P (.tbl (ps ++ more))) N (genEnv scope (cloFrom X.env.cells scope.names []) h3.objs.size code builtinsNs X.env) fp _) (A := X.A.in1.in1) rfl rfl S.co T' (fun b hb H' hH' => ?_) (hgt _ _ _ _ _ _) (hel _ _ _ _ _ _) rfl hW m 0 s' s' (gsl cap σ) _ w0 (M5.wk hk)
      obtain ⟨q1, q2, q3, q4, q5, q6⟩ := f2 b hb
      refine ⟨hH', ?_, fun z => ?_, .inl hb, fun y c e z => ?_, fun p hp z => ?_⟩
      · show b ≠ h3.objs.size
        exact Nat.ne_of_lt (hfl b hb)
      · rcases List.mem_cons.mp (I2.stkSub b z) with z | z
        · exact q2 z
        · exact q3 z
      · have e' : (cloFrom X.env.cells scope.names []).lookup y = some c := e
        rcases cloFrom_mem (PySem.mem_of_lookup e') with hm | ⟨h1, h2⟩
        · cases hm
        · have hy : ∃ c', X.env.cells.lookup y = some c' := by
            rcases S.free _ h1 rfl with k | k
            · exact I2.ok.has _ (.inl k)
            · exact I2.ok.has _ (.inr k)
          obtain ⟨c', hc'⟩ := hy
          rw [hc'] at h2
          have h3 : c = c' := h2
          exact q5 y c' hc' (h3 ▸ z)
      · rcases List.mem_append.mp hp with hp | hp
        · rw [List.mem_singleton.mp hp] at z
          have z1 : (h'.objs.size : Nat) = b := z
          have z2 : (b : Nat) < h3.objs.size := hfl b hb
          have z3 : (h'.objs.size : Nat) = h3.objs.size + 1 := hsz
          rw [z3] at z1
          exact absurd z2 (by rw [← z1]; exact Nat.not_lt_of_le (Nat.le_succ _))
        · cases hp
    · intro σ' H' s' J'
      refine I4.call' (ch := fp) J'.os J'.base J'.hok J'.bare fun b hb => ?_
      obtain ⟨q1, q2, q3, q4, q5, q6⟩ := f4 b hb
      exact ⟨q4, q2, q5, q6⟩
  cases hf : codeAmong gpos ps.toList with
  | none =>
    refine wpAny_genexprCodeX hcode (cd.code hPs ht) (cd.tab hPs) hf fun c' h' tk hx hge hlt hco' _ htab' _ => ?_
    obtain ⟨o1, vs, f1, tf, fl, tg1, inF, tx, tt, op, _, _, _, _, _, _, _, _, _, htr, _⟩ := hco'
    exact cont _ h' tk _ hx htab'.2 ⟨_, rfl⟩ htr
  | some cv =>
    refine wpAny_genexprCode_hit hcode (cd.code hPs ht) hf ?_
    exact cont cv s2.heap s2.toks ps (Heap.ExtBut.refl _ _) hPs ⟨#[], by simp⟩ ht
end

/-- all(elt for tg in iter), any(..): go is the answer that goes on -/
def tGen (P : Addr) (cap : List (Option Nat)) (wi : TI) (g : TG) (te : TE) (go : Bool) : TE := fun σ H Q => wi σ H (tGenR P cap g te go σ fun b H' => Q (.bl b) H')
section
variable {X : Cx} {c P : Addr} {elt iter tg : Expr} {p gpos pos : Pos} {scope : Scope} {N : List Str} {cap : List (Option Nat)} {wi : TI} {g : TG} {te : TE}
theorem pe_all (hc : X.calm = true) (hroom : X.A.depth < recursionLimit) (hg : Gl X "all") (hm : X.mg "all" = none) (hb : bootBuiltins "all" = some (.builtin "all")) (TB : TabB X.base X.mg c P) (hcode : X.env.code = .ref c) (S : GenCap X.N X.env.scope scope N cap) (hi : PI X tg iter wi)
    (hgt : ∀ (s : Shared) (H : Hp) (C : Addr) (code : Value) (fp : List Addr) (pn : List (Addr × Obj)), PG (gen X s H N (genEnv scope (cloFrom X.env.cells scope.names []) C code builtinsNs X.env) fp pn) tg g)
    (hel : ∀ (s : Shared) (H : Hp) (C : Addr) (code : Value) (fp : List Addr) (pn : List (Addr × Obj)), PE (gen X s H N (genEnv scope (cloFrom X.env.cells scope.names []) C code builtinsNs X.env) fp pn) elt te)
    (hs : ∀ v, genFold iter X.env v = pure v)
    (he : starEach [.GeneratorExp elt [⟨tg, iter, [], 0⟩] scope gpos] X.env = (false, eval (.GeneratorExp elt [⟨tg, iter, [], 0⟩] scope gpos) X.env) :: starEach [] X.env := by rfl) :
    PE X (.Call (.Name "all" p) [.GeneratorExp elt [⟨tg, iter, [], 0⟩] scope gpos] [] pos) (tGen P cap wi g te true) := by
  refine ⟨fun pins s σ H Q I h => ?_⟩
  refine wpAny_Call_Name_kw (ld_blt I hg hm hb ?_)
  refine PyProof.Rows.callWith_builtin1 ?_ he (by rfl)
  rw [he]
  show wpAny _ _ (spliced ((false, eval (.GeneratorExp elt [⟨tg, iter, [], 0⟩] scope gpos) X.env) :: backTo pos (starEach [] X.env))) _ _ s
  refine Calls.spliced_cons (gen_make hc hroom TB hcode S hi hgt hel hs I h fun s4 s5 H4 cenv fp tn W m a gn ob hgen isg M Z fin => ?_)
  refine Calls.spliced_nil ?_
  refine call_function_tree F.kind_all F.plain_all F.entry_all (F.args_all1 _) ?_
  unfold Builtin.«all»
  refine wpAny_bind (m := oneArg "all" _) (wpAny_pure ?_)
  refine wpAny_bind (wpAny_pyIter_gen isg ?_)
  exact wpAny_pure ⟨plainId_quiet F.plain_all_loop _, loop_all (X := gen X s4 H4 N cenv fp [(a, ob)]) (B := X.A) (I.ok.hd hc) hroom ⟨ob, List.mem_singleton.mpr rfl, hgen⟩ (fun b σ' H' s' J q => ⟨.bl b, H', fin σ' H' s' J, rfl, q⟩) m 0 _ _ s5 M Z⟩
theorem pe_any (hc : X.calm = true) (hroom : X.A.depth < recursionLimit) (hg : Gl X "any") (hm : X.mg "any" = none) (TB : TabB X.base X.mg c P) (hcode : X.env.code = .ref c) (S : GenCap X.N X.env.scope scope N cap) (hi : PI X tg iter wi)
    (hgt : ∀ (s : Shared) (H : Hp) (C : Addr) (code : Value) (fp : List Addr) (pn : List (Addr × Obj)), PG (gen X s H N (genEnv scope (cloFrom X.env.cells scope.names []) C code builtinsNs X.env) fp pn) tg g)
    (hel : ∀ (s : Shared) (H : Hp) (C : Addr) (code : Value) (fp : List Addr) (pn : List (Addr × Obj)), PE (gen X s H N (genEnv scope (cloFrom X.env.cells scope.names []) C code builtinsNs X.env) fp pn) elt te)
    (hs : ∀ v, genFold iter X.env v = pure v)
    (he : starEach [.GeneratorExp elt [⟨tg, iter, [], 0⟩] scope gpos] X.env = (false, eval (.GeneratorExp elt [⟨tg, iter, [], 0⟩] scope gpos) X.env) :: starEach [] X.env := by rfl) :
    PE X (.Call (.Name "any" p) [.GeneratorExp elt [⟨tg, iter, [], 0⟩] scope gpos] [] pos) (tGen P cap wi g te false) := by
  refine ⟨fun pins s σ H Q I h => ?_⟩
  refine wpAny_Call_Name_kw (ld_blt I hg hm boot_any ?_)
  refine PyProof.Rows.callWith_builtin1 ?_ he (by rfl)
  rw [he]
  show wpAny _ _ (spliced ((false, eval (.GeneratorExp elt [⟨tg, iter, [], 0⟩] scope gpos) X.env) :: backTo pos (starEach [] X.env))) _ _ s
  refine Calls.spliced_cons (gen_make hc hroom TB hcode S hi hgt hel hs I h fun s4 s5 H4 cenv fp tn W m a gn ob hgen isg M Z fin => ?_)
  refine Calls.spliced_nil ?_
  refine call_function_tree F.kind_any F.plain_any F.entry_any (F.args_any1 _) ?_
  unfold Builtin.«any»
  refine wpAny_bind (m := oneArg "any" _) (wpAny_pure ?_)
  refine wpAny_bind (wpAny_pyIter_gen isg ?_)
  exact wpAny_pure ⟨plainId_quiet F.plain_any_loop _, loop_any (X := gen X s4 H4 N cenv fp [(a, ob)]) (B := X.A) (I.ok.hd hc) hroom ⟨ob, List.mem_singleton.mpr rfl, hgen⟩ (fun b σ' H' s' J q => ⟨.bl b, H', fin σ' H' s' J, rfl, q⟩) m 0 _ _ s5 M Z⟩
end
/-- the room that the element has -/
theorem room_gen {k : Nat} {A : Around} {env : Env} (r : Room (k + 3) A) : Room k ((A.in1.in1).deeper env) := ((r.in1).in1).deeper env
end Gx
set_option Elab.async false
set_option linter.all false
set_option maxRecDepth 100000
set_option maxHeartbeats 4000000
/-! The layer over data: what a reading makes of data (PyData), two heaps at a time: B, in which all data stand, and H, the whole; a list that a def fills stands in H alone. -/
namespace Rt
open PySem PySem.Spec PyProof.Rows L2 GxR
abbrev D := PyData

/-! data that stand in a heap: each list tracked -/
mutual
inductive Dq (K : PySem.W.Frag) (H : Hp) : V → PyData → Prop
  | non : Dq K H .non .none
  | bl (b : Bool) : Dq K H (.bl b) (.bool b)
  | int (i : Int) : Dq K H (.int i) (.int i)
  | str (x : Str) : Dq K H (.str x) (.str x)
  | lst {a : Addr} {xs : List V} {ds : List PyData} : H a = some (.lst xs) → DqAll K H xs ds → Dq K H (.ref a) (.list ds)
  | tup {a : Addr} {xs : List V} {ds : List PyData} : SqT K H a xs → DqAll K H xs ds → Dq K H (.ref a) (.tuple ds)
inductive DqAll (K : PySem.W.Frag) (H : Hp) : List V → List PyData → Prop
  | nil : DqAll K H [] []
  | cons {v : V} {vs : List V} {d : PyData} {ds : List PyData} : Dq K H v d → DqAll K H vs ds → DqAll K H (v :: vs) (d :: ds)
end
mutual
theorem Dq.dp {K : PySem.W.Frag} {H : Hp} : ∀ (d : PyData) (v : V), Dq K H v d → Dp K H v d
  | .none, _, h => by cases h; exact .non
  | .bool b, _, h => by cases h; exact .bl b
  | .int i, _, h => by cases h; exact .int i
  | .str x, _, h => by cases h; exact .str x
  | .list ds, _, h => by
    cases h with
    | lst hs ha => exact .lst (SqL.of hs) (DqAll.dp ds _ ha)
  | .tuple ds, _, h => by
    cases h with
    | tup hs ha => exact .tup hs (DqAll.dp ds _ ha)
  | .dict _, _, h => by cases h
theorem DqAll.dp {K : PySem.W.Frag} {H : Hp} : ∀ (ds : List PyData) (vs : List V), DqAll K H vs ds → DpAll K H vs ds
  | [], _, h => by cases h; exact .nil
  | d :: ds, _, h => by
    cases h with
    | cons h1 h2 => exact .cons (Dq.dp d _ h1) (DqAll.dp ds _ h2)
end

/-! ### heaps -/
def Gr (H H' : Hp) : Prop := ∀ a o, H a = some o → ∃ o', H' a = some o' ∧ (o' = o ∨ ∃ ps ps', o = .tbl ps ∧ o' = .tbl ps' ∧ (TriplesOk ps.toList → TriplesOk ps'.toList))
theorem Gr.refl (H : Hp) : Gr H H := fun _ o e => ⟨o, e, .inl rfl⟩
theorem Gr.trans {H H1 H2 : Hp} (a : Gr H H1) (b : Gr H1 H2) : Gr H H2 := fun x o e => by
  obtain ⟨o1, e1, c1⟩ := a x o e
  obtain ⟨o2, e2, c2⟩ := b x o1 e1
  rcases c1 with rfl | ⟨ps, ps', rfl, rfl, i1⟩
  · exact ⟨o2, e2, c2⟩
  · rcases c2 with rfl | ⟨qs, qs', h1, rfl, i2⟩
    · exact ⟨_, e2, .inr ⟨ps, ps', rfl, rfl, i1⟩⟩
    · cases h1
      exact ⟨_, e2, .inr ⟨ps, qs', rfl, rfl, fun z => i2 (i1 z)⟩⟩
theorem Gr.at {H H' : Hp} (g : Gr H H') {a : Addr} {o : HO} (e : H a = some o) (h : ∀ ps, o ≠ .tbl ps) : H' a = some o := by
  obtain ⟨o', e', c⟩ := g a o e
  rcases c with rfl | ⟨ps, _, h1, _⟩
  · exact e'
  · exact absurd h1 (h ps)
theorem Gr.lst {H H' : Hp} (g : Gr H H') {a : Addr} {xs : List V} (e : H a = some (.lst xs)) : H' a = some (.lst xs) := g.at e fun _ z => by cases z
theorem Gr.none {H H' : Hp} (g : Gr H H') {a : Addr} (e : H' a = Option.none) : H a = Option.none := by
  cases h : H a with
  | none => rfl
  | some o =>
    obtain ⟨o', e', _⟩ := g a o h
    rw [e] at e'
    cases e'
theorem Gr.some {H H' : Hp} (g : Gr H H') {a : Addr} (e : H a ≠ Option.none) : H' a ≠ Option.none := fun z => e (g.none z)
theorem Gr.tab {H H' : Hp} (g : Gr H H') {P : Addr} (t : TabG H P) : TabG H' P := by
  obtain ⟨ps, e, ok⟩ := t
  obtain ⟨o', e', c⟩ := g P _ e
  rcases c with rfl | ⟨qs, qs', h1, rfl, i⟩
  · exact ⟨ps, e', ok⟩
  · cases h1
    exact ⟨qs', e', i ok⟩
theorem Gr.new {H : Hp} {p : Addr} {o : HO} (h : H p = Option.none) : Gr H (upd H p o) := fun a u e => ⟨u, by rw [upd_ne (ne_of_none e h)]; exact e, .inl rfl⟩
theorem Gr.rd {H H' : Hp} (g : Gr H H') {a : Addr} {u : HO} (hu : ∀ ps, u ≠ .tbl ps) (h : Rd H a u) : Rd H' a u := by
  rcases h with h | ⟨o, h⟩
  · exact .inl (g.at h hu)
  · exact .inr ⟨o, g.at h fun _ z => by cases z⟩
section
variable {K : PySem.W.Frag}
theorem Gr.seqL {H H' : Hp} (g : Gr H H') {a : Addr} {xs : List V} (h : SqL K H a xs) : SqL K H' a xs := by
  rcases h with h | h
  · exact .inl (g.rd (fun _ z => by cases z) h)
  · exact .inr h
theorem Gr.seqT {H H' : Hp} (g : Gr H H') {a : Addr} {xs : List V} (h : SqT K H a xs) : SqT K H' a xs := by
  rcases h with h | h
  · exact .inl (g.rd (fun _ z => by cases z) h)
  · exact .inr h
mutual
theorem Gr.dp {H H' : Hp} (g : Gr H H') : ∀ (d : D) (v : V), Dq K H v d → Dq K H' v d
  | .none, _, h => by cases h; exact .non
  | .bool b, _, h => by cases h; exact .bl b
  | .int i, _, h => by cases h; exact .int i
  | .str x, _, h => by cases h; exact .str x
  | .list ds, _, h => by
    cases h with
    | lst hs ha => exact .lst (g.lst hs) (Gr.dpA g ds _ ha)
  | .tuple ds, _, h => by
    cases h with
    | tup hs ha => exact .tup (g.seqT hs) (Gr.dpA g ds _ ha)
  | .dict _, _, h => by cases h
theorem Gr.dpA {H H' : Hp} (g : Gr H H') : ∀ (ds : List D) (vs : List V), DqAll K H vs ds → DqAll K H' vs ds
  | [], _, h => by cases h; exact .nil
  | d :: ds, _, h => by
    cases h with
    | cons h1 h2 => exact .cons (Gr.dp g d _ h1) (Gr.dpA g ds _ h2)
end
end
/-- a step: both heaps have grown, what was hidden from B is so still -/
structure Stp (B H B' H' : Hp) : Prop where
  b : Gr B B'
  h : Gr H H'
  v : Gr B' H'
  hid : ∀ a, B a = none → H a ≠ none → B' a = none
theorem Stp.refl {B H : Hp} (v : Gr B H) : Stp B H B H := ⟨.refl _, .refl _, v, fun _ e _ => e⟩
theorem Stp.trans {B H B1 H1 B2 H2 : Hp} (x : Stp B H B1 H1) (y : Stp B1 H1 B2 H2) : Stp B H B2 H2 :=
  ⟨x.b.trans y.b, x.h.trans y.h, y.v, fun a e n => y.hid a (x.hid a e n) (x.h.some n)⟩
theorem Stp.new {B H : Hp} {p : Addr} {o : HO} (v : Gr B H) (h : H p = none) : Stp B H (upd B p o) (upd H p o) := by
  refine ⟨.new (v.none h), .new h, fun a u e => ?_, fun a e n => ?_⟩
  · by_cases q : a = p
    · subst q
      rw [upd_same] at e
      exact ⟨u, by rw [upd_same]; exact e, .inl rfl⟩
    · rw [upd_ne q] at e
      rw [upd_ne q]
      exact v a u e
  · have q : a ≠ p := fun z => by
      subst z
      exact n h
    rw [upd_ne q]
    exact e
/-- a hidden list changes (seen from an entry that does not know it) -/
theorem Stp.mut {B0 H0 B H : Hp} {p : Addr} {o : HO} (x : Stp B0 H0 B H) (h0 : H0 p = none) (hb : B p = none) : Stp B0 H0 B (upd H p o) := by
  refine ⟨x.b, fun a u e => ?_, fun a u e => ?_, x.hid⟩
  · have q : a ≠ p := fun z => by
      subst z
      rw [h0] at e
      cases e
    rw [upd_ne q]
    exact x.h a u e
  · have q : a ≠ p := fun z => by
      subst z
      rw [hb] at e
      cases e
    rw [upd_ne q]
    exact x.v a u e
/-- a hidden new object -/
theorem Stp.hide {B0 H0 B H : Hp} {p : Addr} {o : HO} (x : Stp B0 H0 B H) (h : H p = none) : Stp B0 H0 B (upd H p o) := x.mut (x.h.none h) (x.v.none h)
/-- a hidden object is shown -/
theorem Stp.show {B0 H0 B H : Hp} {p : Addr} {o : HO} (x : Stp B0 H0 B H) (h0 : H0 p = none) (hb : B p = none) (e : H p = some o) : Stp B0 H0 (upd B p o) H := by
  refine ⟨x.b.trans (.new hb), x.h, fun a u q => ?_, fun a q n => ?_⟩
  · by_cases z : a = p
    · subst z
      rw [upd_same] at q
      cases q
      exact ⟨o, e, .inl rfl⟩
    · rw [upd_ne z] at q
      exact x.v a u q
  · have z : a ≠ p := fun z => by
      subst z
      exact n h0
    rw [upd_ne z]
    exact x.hid a q n
/-- a table of code has grown -/
theorem Stp.tab {B H H2 : Hp} {P : Addr} (v : Gr B H) (t : TabG B P) (tt : Tabbed P H H2) : ∃ B2, Stp B H B2 H2 := by
  obtain ⟨⟨ps2, e2, ok2⟩, hk⟩ := tt
  obtain ⟨ps, e, ok⟩ := t
  obtain ⟨o', eH, cH⟩ := v P _ e
  have tb : ∃ qs, H P = some (.tbl qs) := by
    rcases cH with rfl | ⟨_, qs, _, rfl, _⟩
    · exact ⟨_, eH⟩
    · exact ⟨_, eH⟩
  obtain ⟨qs, eq⟩ := tb
  refine ⟨upd B P (.tbl ps2), fun a o q => ?_, fun a o q => ?_, fun a o q => ?_, fun a q n => ?_⟩
  · by_cases z : a = P
    · subst z
      rw [e] at q
      cases q
      exact ⟨_, upd_same, .inr ⟨ps, ps2, rfl, rfl, fun _ => ok2⟩⟩
    · exact ⟨o, by rw [upd_ne z]; exact q, .inl rfl⟩
  · by_cases z : a = P
    · subst z
      rw [eq] at q
      cases q
      exact ⟨_, e2, .inr ⟨qs, ps2, rfl, rfl, fun _ => ok2⟩⟩
    · exact ⟨o, by rw [hk a z]; exact q, .inl rfl⟩
  · by_cases z : a = P
    · subst z
      rw [upd_same] at q
      cases q
      exact ⟨_, e2, .inl rfl⟩
    · rw [upd_ne z] at q
      rw [hk a z]
      exact v a o q
  · have z : a ≠ P := fun z => by
      subst z
      rw [e] at q
      cases q
    rw [upd_ne z]
    exact q

/-! ### what stands in the slots -/
inductive Sl where
  | no
  | val (d : D)
  | own (ds : List D)
abbrev Gm := List Sl
section
variable (K : PySem.W.Frag) (cs : List Addr)
def SlOk (H0 B H : Hp) : Sl → Option V → Prop
  | .no, _ => True
  | .val d, x => ∃ v, x = some v ∧ Dq K B v d
  | .own ds, x => ∃ p vs, x = some (.ref p) ∧ H0 p = none ∧ B p = none ∧ H p = some (.lst vs) ∧ DqAll K B vs ds
structure Rs (H0 : Hp) (σ : L2.St) (B H : Hp) (Γ : Gm) : Prop where
  len : σ.length = Γ.length
  sl : ∀ (i : Nat) (s : Sl) (x : Option V), Γ[i]? = some s → σ[i]? = some x → SlOk K H0 B H s x
  sep : ∀ (i j : Nat) (ds es : List D) (p : Addr), i ≠ j → Γ[i]? = some (.own ds) → Γ[j]? = some (.own es) → σ[i]? = some (some (.ref p)) → σ[j]? ≠ some (some (.ref p))
  tab : ∀ P ∈ cs, TabG B P
end
section
variable {K : PySem.W.Frag} {cs : List Addr} {H0 B H B' H' : Hp} {σ : L2.St} {Γ : Gm}
theorem SlOk.step (st : Stp B H B' H') : ∀ {s : Sl} {x : Option V}, SlOk K H0 B H s x → SlOk K H0 B' H' s x
  | .no, _, _ => trivial
  | .val d, _, h => by
    obtain ⟨v, e, q⟩ := h
    exact ⟨v, e, st.b.dp d v q⟩
  | .own ds, _, h => by
    obtain ⟨p, vs, e, h0, hb, hp, q⟩ := h
    exact ⟨p, vs, e, h0, st.hid p hb (by rw [hp]; simp), st.h.lst hp, st.b.dpA ds vs q⟩
theorem Rs.step (st : Stp B H B' H') (r : Rs K cs H0 σ B H Γ) : Rs K cs H0 σ B' H' Γ :=
  ⟨r.len, fun i s x h1 h2 => (r.sl i s x h1 h2).step st, r.sep, fun P hP => st.b.tab (r.tab P hP)⟩
theorem Rs.set {i : Nat} {v : V} {d : D} (r : Rs K cs H0 σ B H Γ) (h : Dq K B v d) : Rs K cs H0 (σ.set i (some v)) B H (Γ.set i (.val d)) := by
  refine ⟨by rw [List.length_set, List.length_set]; exact r.len, fun j s x h1 h2 => ?_, fun j k ds es p hjk h1 h2 h3 => ?_, r.tab⟩
  · by_cases e : i = j
    · subst e
      rw [List.getElem?_set] at h1 h2
      rw [if_pos rfl] at h1 h2
      split at h1
      · split at h2
        · cases h1
          cases h2
          exact ⟨v, rfl, h⟩
        · cases h2
      · cases h1
    · rw [List.getElem?_set_ne e] at h1 h2
      exact r.sl j s x h1 h2
  · have nj : i ≠ j := fun e => by
      subst e
      rw [List.getElem?_set] at h1
      rw [if_pos rfl] at h1
      split at h1
      · cases h1
      · cases h1
    have nk : i ≠ k := fun e => by
      subst e
      rw [List.getElem?_set] at h2
      rw [if_pos rfl] at h2
      split at h2
      · cases h2
      · cases h2
    rw [List.getElem?_set_ne nj] at h1 h3
    rw [List.getElem?_set_ne nk] at h2 ⊢
    exact r.sep j k ds es p hjk h1 h2 h3
theorem Rs.val {i : Nat} {d : D} (r : Rs K cs H0 σ B H Γ) (h : Γ[i]? = some (.val d)) : ∃ v, σ[i]? = some (some v) ∧ Dq K B v d := by
  have hi : i < σ.length := by
    rw [r.len]
    exact (List.getElem?_eq_some_iff.mp h).1
  obtain ⟨v, e, q⟩ := r.sl i _ _ h (List.getElem?_eq_getElem hi)
  exact ⟨v, by rw [List.getElem?_eq_getElem hi, e], q⟩
theorem Rs.own {i : Nat} {ds : List D} (r : Rs K cs H0 σ B H Γ) (h : Γ[i]? = some (.own ds)) : ∃ p vs, σ[i]? = some (some (.ref p)) ∧ H0 p = none ∧ B p = none ∧ H p = some (.lst vs) ∧ DqAll K B vs ds := by
  have hi : i < σ.length := by
    rw [r.len]
    exact (List.getElem?_eq_some_iff.mp h).1
  obtain ⟨p, vs, e, q⟩ := r.sl i _ _ h (List.getElem?_eq_getElem hi)
  exact ⟨p, vs, by rw [List.getElem?_eq_getElem hi, e], q⟩
end

/-! ### judgements over data -/
section
variable (K : PySem.W.Frag) (cs : List Addr)
/-- an expression gives data of which R holds -/
def Ex (te : TE) (Γ : Gm) (R : D → Prop) : Prop := ∀ (H0 : Hp) (σ : L2.St) (B H : Hp), Rs K cs H0 σ B H Γ → Gr B H → ∀ Q : VK, (∀ v B' H' d, Stp B H B' H' → Dq K B' v d → R d → Q v H') → te σ H Q
def Ax (ta : TA) (Γ : Gm) (R : List D → Prop) : Prop := ∀ (H0 : Hp) (σ : L2.St) (B H : Hp), Rs K cs H0 σ B H Γ → Gr B H → ∀ Q : List V → Hp → Prop, (∀ vs B' H' ds, Stp B H B' H' → DqAll K B' vs ds → R ds → Q vs H') → ta σ H Q
def Tx (tt : TT) (Γ : Gm) (R : Bool → Prop) : Prop := ∀ (H0 : Hp) (σ : L2.St) (B H : Hp), Rs K cs H0 σ B H Γ → Gr B H → ∀ Q : Bool → Hp → Prop, (∀ b B' H', Stp B H B' H' → R b → Q b H') → tt σ H Q
/-- a statement: N of the slots where it goes on, R of what is returned -/
def Sx (t : TS) (Γ : Gm) (N : Gm → Prop) (R : D → Prop) : Prop := ∀ (B0 H0 : Hp) (σ : L2.St) (B H : Hp), Stp B0 H0 B H → Rs K cs H0 σ B H Γ → ∀ E : Ends,
  (∀ σ' B' H' Γ', Stp B0 H0 B' H' → Rs K cs H0 σ' B' H' Γ' → N Γ' → E.nx σ' H') → (∀ v B' H' d, Stp B0 H0 B' H' → Dq K B' v d → R d → E.rt v H') → t E σ H
/-- a def's promise over data -/
def Pm (F : List D → (D → Prop) → Prop) : Sp := fun vs H Q _ => ∃ B ds R, Gr B H ∧ (∀ P ∈ cs, TabG B P) ∧ DqAll K B vs ds ∧ F ds R ∧ ∀ v B' H' d, Stp B H B' H' → Dq K B' v d → R d → Q v H'
end
end Rt
namespace Rt
open PySem L2
theorem DqAll.length {K : PySem.W.Frag} {H : Hp} : ∀ {ds : List PyData} {vs : List V}, DqAll K H vs ds → vs.length = ds.length
  | [], _, h => by cases h; rfl
  | d :: ds, _, h => by
    cases h with
    | cons h1 h2 =>
      rw [List.length_cons, List.length_cons, DqAll.length h2]
theorem DqAll.get {K : PySem.W.Frag} {H : Hp} : ∀ {ds : List PyData} {vs : List V} {i : Nat} {d : PyData}, DqAll K H vs ds → ds[i]? = some d → ∃ v, vs[i]? = some v ∧ Dq K H v d
  | [], _, _, _, _, e => by cases e
  | d :: ds, _, 0, _, h, e => by
    cases h with
    | cons h1 h2 =>
      cases e
      exact ⟨_, rfl, h1⟩
  | d :: ds, _, i + 1, _, h, e => by
    cases h with
    | cons h1 h2 =>
      obtain ⟨v, e1, q⟩ := DqAll.get h2 (i := i) e
      exact ⟨v, e1, q⟩
theorem DqAll.getV {K : PySem.W.Frag} {H : Hp} : ∀ {ds : List PyData} {vs : List V} {i : Nat} {v : V}, DqAll K H vs ds → vs[i]? = some v → ∃ d, ds[i]? = some d ∧ Dq K H v d
  | [], _, _, _, h, e => by
    cases h
    cases e
  | d :: ds, _, 0, _, h, e => by
    cases h with
    | cons h1 h2 =>
      cases e
      exact ⟨_, rfl, h1⟩
  | d :: ds, _, i + 1, _, h, e => by
    cases h with
    | cons h1 h2 =>
      obtain ⟨v, e1, q⟩ := DqAll.getV h2 (i := i) e
      exact ⟨v, e1, q⟩
theorem DqAll.app {K : PySem.W.Frag} {H : Hp} : ∀ {ds es : List PyData} {vs ws : List V}, DqAll K H vs ds → DqAll K H ws es → DqAll K H (vs ++ ws) (ds ++ es)
  | [], _, _, _, h, q => by cases h; exact q
  | d :: ds, _, _, _, h, q => by
    cases h with
    | cons h1 h2 => exact .cons h1 (DqAll.app h2 q)
theorem DqAll.drop {K : PySem.W.Frag} {H : Hp} : ∀ (n : Nat) {ds : List PyData} {vs : List V}, DqAll K H vs ds → DqAll K H (vs.drop n) (ds.drop n)
  | 0, _, _, h => h
  | n + 1, [], _, h => by cases h; exact .nil
  | n + 1, d :: ds, _, h => by
    cases h with
    | cons h1 h2 => exact DqAll.drop n h2
theorem DqAll.take {K : PySem.W.Frag} {H : Hp} : ∀ (n : Nat) {ds : List PyData} {vs : List V}, DqAll K H vs ds → DqAll K H (vs.take n) (ds.take n)
  | 0, _, _, h => .nil
  | n + 1, [], _, h => by cases h; exact .nil
  | n + 1, d :: ds, _, h => by
    cases h with
    | cons h1 h2 => exact .cons h1 (DqAll.take n h2)
end Rt
set_option Elab.async false
set_option linter.all false
set_option maxRecDepth 100000
set_option maxHeartbeats 4000000
/-! The rules of the layer over data: expressions, tests, calls. -/
namespace Rt
open PySem PySem.Spec PyProof.Rows L2 GxR

theorem szl {n : Nat} (h : n ≤ 100000) : n ≤ sizeLine := Nat.le_trans h (by decide)
theorem szlt {n : Nat} (h : n < 100000) : n < sizeLine := Nat.lt_of_lt_of_le h (by decide)
/-! ### operators of one's own -/
/-- // by a divisor of either sign -/
def CDivZ (_ j : Int) : Prop := j ≠ 0 ∧ j.natAbs.log2 < 9000
/-- list + list -/
def rCatL (K : PySem.W.Frag) : R2 := fun x y H Q => ∃ l b xs zs, x = .ref l ∧ y = .ref b ∧ SqL K H l xs ∧ SqL K H b zs ∧ xs.length + zs.length ≤ sizeLine ∧ ∀ p, H p = none → Q (.ref p) (upd H p (.lst (xs ++ zs)))
section
variable {X : Cx}
theorem op_fdivZ : OpR X (binaryOp .FloorDiv) (rI CDivZ fun i j => .int (i.fdiv j)) := opI fun i j _ _ _ _ _ hc q => floordiv_int hc.1 q (.inl (PyProof.noPylong_of_log2 hc.2))
theorem op_catLL : OpR X (binaryOp .Add) (rCatL X.K) := by
  intro pins s σ H x y v u Q I rx ry h
  obtain ⟨l, b, xs, zs, rfl, rfl, hl, hb, hz, q⟩ := h
  cases rx
  cases ry
  obtain ⟨its, r, p1, _⟩ := I.list hl
  obtain ⟨its2, r2, p2, _⟩ := I.list hb
  obtain ⟨⟨cls, dd, data, sl⟩, n, ho, hc, _, hd⟩ := p1
  obtain ⟨⟨cls2, dd2, data2, sl2⟩, n2, ho2, hc2, _, hd2⟩ := p2
  simp only at hc hd hc2 hd2
  subst hc hd hc2 hd2
  have e : its.toArray ++ its2.toArray = (its ++ its2).toArray := by simp
  have l1 := r.length
  have l2 := r2.length
  refine concat_meets ⟨_, ho, rfl⟩ ⟨_, ho2, rfl⟩ noFill_list_add seq_list_add PySem.F.slot_list_add PySem.F.entry_list_add (PySem.F.args_list_add_2 _ _) (list_addW l b its.toArray its2.toArray n n2 dd dd2 sl sl2 (by rw [List.size_toArray, List.size_toArray]; omega)) ⟨ho, ho2, ?_⟩
  rw [e]
  exact ⟨.ref _, _, I.lnew (t' := s.toks) (r.append r2) (by rw [List.length_append]; omega), rfl, q _ I.fresh⟩
/-- repr of a truth value -/
def rReprB : List V → Hp → VK → Prop := fun xs H Q => ∃ b : Bool, xs = [.bl b] ∧ Q (.str (if b then "True" else "False")) H
theorem call_reprB : CallR X (.builtin "repr") rReprB := by
  intro pins s σ H xs us Q I r h
  obtain ⟨b, rfl, q⟩ := h
  obtain ⟨u, rfl, rx⟩ := vals1 r
  cases rx
  exact PySem.P.repr_of_bool ⟨.str _, H, I.tok _, ⟨_, rfl⟩, q⟩
end

section
variable {K : PySem.W.Frag} {cs : List Addr} {Γ : Gm} {R Ra Rb : D → Prop} {ta tb te : TE} {t u : TT} {d e : D}
theorem Ex.mono (h : Ex K cs te Γ Ra) (k : ∀ d, Ra d → R d) : Ex K cs te Γ R := fun H0 σ B H r v Q q => h H0 σ B H r v Q fun v' B' H' d st dp rd => q v' B' H' d st dp (k d rd)
/-- it gives just d -/
abbrev Xd (K : PySem.W.Frag) (cs : List Addr) (te : TE) (Γ : Gm) (d : D) : Prop := Ex K cs te Γ (Eq d)
abbrev Ad (K : PySem.W.Frag) (cs : List Addr) (ta : TA) (Γ : Gm) (ds : List D) : Prop := Ax K cs ta Γ (Eq ds)
abbrev Td (K : PySem.W.Frag) (cs : List Addr) (tt : TT) (Γ : Gm) (b : Bool) : Prop := Tx K cs tt Γ (Eq b)
theorem Ex.of (h : Xd K cs te Γ d) (k : R d) : Ex K cs te Γ R := h.mono fun e q => q ▸ k
theorem x_var {i : Nat} (h : Γ[i]? = some (.val d)) (k : R d) : Ex K cs (tVar i) Γ R := fun H0 σ B H r v Q q => by
  obtain ⟨x, e, dp⟩ := r.val h
  exact ⟨x, e, q x B H d (.refl v) dp k⟩
theorem x_int {i : Int} (k : R (.int i)) : Ex K cs (tC (.int i)) Γ R := fun _ _ B H _ v _ q => q _ B H _ (.refl v) (.int i) k
theorem x_bl {b : Bool} (k : R (.bool b)) : Ex K cs (tC (.bl b)) Γ R := fun _ _ B H _ v _ q => q _ B H _ (.refl v) (.bl b) k
theorem x_non (k : R .none) : Ex K cs (tC .non) Γ R := fun _ _ B H _ v _ q => q _ B H _ (.refl v) .non k
theorem x_str {x : Str} (k : R (.str x)) : Ex K cs (tC (.str x)) Γ R := fun _ _ B H _ v _ q => q _ B H _ (.refl v) (.str x) k
/-- a constant of the module -/
theorem x_con {c : V} (h : ∀ H, Dq K H c d) (k : R d) : Ex K cs (tC c) Γ R := fun _ _ B H _ v _ q => q _ B H _ (.refl v) (h B) k
theorem a_nil {Rl : List D → Prop} (k : Rl []) : Ax K cs tNil Γ Rl := fun _ _ B H _ v _ q => q _ B H _ (.refl v) .nil k
theorem a_cons {tr : TA} {Rr Rl : List D → Prop} (h : Ex K cs te Γ Ra) (hr : Ax K cs tr Γ Rr) (k : ∀ d ds, Ra d → Rr ds → Rl (d :: ds)) : Ax K cs (tCons te tr) Γ Rl := fun H0 σ B H r v Q q =>
  h H0 σ B H r v _ fun x B1 H1 d st dp rd => hr H0 σ B1 H1 (r.step st) st.v _ fun xs B2 H2 ds st2 dps rds => q _ B2 H2 _ (st.trans st2) (.cons (st2.b.dp d x dp) dps) (k d ds rd rds)
theorem ad_nil : Ad K cs tNil Γ [] := a_nil rfl
theorem ad_cons {tr : TA} {ds : List D} (h : Xd K cs te Γ d) (hr : Ad K cs tr Γ ds) : Ad K cs (tCons te tr) Γ (d :: ds) := a_cons h hr fun _ _ e1 e2 => by rw [e1, e2]
theorem Ax.mono {ta : TA} {Rl Rl' : List D → Prop} (h : Ax K cs ta Γ Rl) (k : ∀ ds, Rl ds → Rl' ds) : Ax K cs ta Γ Rl' := fun H0 σ B H r v Q q => h H0 σ B H r v Q fun v' B' H' d st dp rd => q v' B' H' d st dp (k d rd)

/-! ### operators -/
def OpD (K : PySem.W.Frag) (r : R2) (P : D → D → (D → Prop) → Prop) : Prop := ∀ (B H : Hp) (x y : V) (d e : D) (R : D → Prop), Gr B H → Dq K B x d → Dq K B y e → P d e R → ∀ Q : VK, (∀ v B' H' f, Stp B H B' H' → Dq K B' v f → R f → Q v H') → r x y H Q
theorem x_op {r : R2} {P : D → D → (D → Prop) → Prop} (o : OpD K r P) (ha : Ex K cs ta Γ Ra) (hb : Ex K cs tb Γ Rb) (k : ∀ d e, Ra d → Rb e → P d e R) : Ex K cs (tOp r ta tb) Γ R := fun H0 σ B H rs v Q q =>
  ha H0 σ B H rs v _ fun x B1 H1 d st dp rd => hb H0 σ B1 H1 (rs.step st) st.v _ fun y B2 H2 e st2 dp2 re =>
    o B2 H2 x y d e R st2.v (st2.b.dp d x dp) dp2 (k d e rd re) Q fun z B3 H3 f st3 dp3 rf => q z B3 H3 f ((st.trans st2).trans st3) dp3 rf
theorem xd_op {r : R2} {P : D → D → (D → Prop) → Prop} (o : OpD K r P) (ha : Xd K cs ta Γ d) (hb : Xd K cs tb Γ e) (k : P d e R) : Ex K cs (tOp r ta tb) Γ R := x_op o ha hb fun _ _ e1 e2 => by rw [← e1, ← e2]; exact k
theorem dp_int {B : Hp} {x : V} {i : Int} (h : Dq K B x (.int i)) : x = .int i := by cases h; rfl
theorem dp_str {B : Hp} {x : V} {i : Str} (h : Dq K B x (.str i)) : x = .str i := by cases h; rfl
theorem dp_bl {B : Hp} {x : V} {i : Bool} (h : Dq K B x (.bool i)) : x = .bl i := by cases h; rfl
theorem dp_non {B : Hp} {x : V} (h : Dq K B x .none) : x = .non := by cases h; rfl
theorem od_I0 {f : Int → Int → Int} : OpD K (rI0 fun i j => .int (f i j)) fun d e R => ∃ i j, d = .int i ∧ e = .int j ∧ R (.int (f i j)) := fun B H x y d e R v h1 h2 p Q q => by
  obtain ⟨i, j, rfl, rfl, k⟩ := p
  exact ⟨i, j, dp_int h1, dp_int h2, q _ B H _ (.refl v) (.int _) k⟩
theorem od_B0 {f : Int → Int → Bool} : OpD K (rI0 fun i j => .bl (f i j)) fun d e R => ∃ i j, d = .int i ∧ e = .int j ∧ R (.bool (f i j)) := fun B H x y d e R v h1 h2 p Q q => by
  obtain ⟨i, j, rfl, rfl, k⟩ := p
  exact ⟨i, j, dp_int h1, dp_int h2, q _ B H _ (.refl v) (.bl _) k⟩
theorem od_I {C : Int → Int → Prop} {f : Int → Int → Int} : OpD K (rI C fun i j => .int (f i j)) fun d e R => ∃ i j, d = .int i ∧ e = .int j ∧ C i j ∧ R (.int (f i j)) := fun B H x y d e R v h1 h2 p Q q => by
  obtain ⟨i, j, rfl, rfl, c, k⟩ := p
  exact ⟨i, j, dp_int h1, dp_int h2, c, q _ B H _ (.refl v) (.int _) k⟩
theorem od_eqD : OpD K (rEqD K) fun d e R => SeqAt.shaped d = true ∧ SeqAt.shaped e = true ∧ R (.bool (PyData.eqv d e)) := fun B H x y d e R v h1 h2 p Q q =>
  ⟨d, e, (v.dp d x h1).dp, (v.dp e y h2).dp, p.1, p.2.1, q _ B H _ (.refl v) (.bl _) p.2.2⟩
theorem od_neD : OpD K (rNeD K) fun d e R => SeqAt.shaped d = true ∧ SeqAt.shaped e = true ∧ R (.bool (!PyData.eqv d e)) := fun B H x y d e R v h1 h2 p Q q =>
  ⟨d, e, (v.dp d x h1).dp, (v.dp e y h2).dp, p.1, p.2.1, q _ B H _ (.refl v) (.bl _) p.2.2⟩
theorem od_inD : OpD K (rInD K) fun d e R => ∃ ds, e = .list ds ∧ SeqAt.shaped d = true ∧ SeqAt.shaped e = true ∧ R (.bool (ds.any fun z => PyData.eqv z d)) := fun B H x y d e R v h1 h2 p Q q => by
  obtain ⟨ds, rfl, s1, s2, k⟩ := p
  exact ⟨d, ds, (v.dp d x h1).dp, (v.dp _ y h2).dp, s1, s2, q _ B H _ (.refl v) (.bl _) k⟩
theorem od_eqI : OpD K rEq fun d e R => ∃ i j, d = .int i ∧ e = .int j ∧ R (.bool (decide (i = j))) := fun B H x y d e R v h1 h2 p Q q => by
  obtain ⟨i, j, rfl, rfl, k⟩ := p
  have e1 := dp_int h1
  have e2 := dp_int h2
  subst e1 e2
  refine ⟨rfl, ?_⟩
  have e : decide (V.int i = V.int j) = decide (i = j) := by simp
  rw [e]
  exact q _ B H _ (.refl v) (.bl _) k
theorem od_neI : OpD K rNe fun d e R => ∃ i j, d = .int i ∧ e = .int j ∧ R (.bool (!decide (i = j))) := fun B H x y d e R v h1 h2 p Q q => by
  obtain ⟨i, j, rfl, rfl, k⟩ := p
  have e1 := dp_int h1
  have e2 := dp_int h2
  subst e1 e2
  refine ⟨rfl, ?_⟩
  have e : decide (V.int i = V.int j) = decide (i = j) := by simp
  rw [e]
  exact q _ B H _ (.refl v) (.bl _) k
theorem od_eqS : OpD K rEq fun d e R => ∃ i j, d = .str i ∧ e = .str j ∧ R (.bool (decide (i = j))) := fun B H x y d e R v h1 h2 p Q q => by
  obtain ⟨i, j, rfl, rfl, k⟩ := p
  have e1 := dp_str h1
  have e2 := dp_str h2
  subst e1 e2
  refine ⟨rfl, ?_⟩
  have e : decide (V.str i = V.str j) = decide (i = j) := by simp
  rw [e]
  exact q _ B H _ (.refl v) (.bl _) k
theorem od_neS : OpD K rNe fun d e R => ∃ i j, d = .str i ∧ e = .str j ∧ R (.bool (!decide (i = j))) := fun B H x y d e R v h1 h2 p Q q => by
  obtain ⟨i, j, rfl, rfl, k⟩ := p
  have e1 := dp_str h1
  have e2 := dp_str h2
  subst e1 e2
  refine ⟨rfl, ?_⟩
  have e : decide (V.str i = V.str j) = decide (i = j) := by simp
  rw [e]
  exact q _ B H _ (.refl v) (.bl _) k
/-- is it None -/
def isN : D → Bool
  | .none => true
  | _ => false
theorem dp_isN {B : Hp} {x : V} (h : Dq K B x d) : decide (x = .non) = isN d := by
  cases h <;> rfl
theorem x_isN {ta : TE} (ha : Ex K cs ta Γ Ra) (k : ∀ d, Ra d → R (.bool (isN d))) : Ex K cs (tIsN ta) Γ R := fun H0 σ B H rs v Q q =>
  ha H0 σ B H rs v _ fun x B1 H1 d st dp rd => by
    rw [dp_isN dp]
    exact q _ B1 H1 _ st (.bl _) (k d rd)
theorem x_notN {ta : TE} (ha : Ex K cs ta Γ Ra) (k : ∀ d, Ra d → R (.bool (!isN d))) : Ex K cs (tNotN ta) Γ R := fun H0 σ B H rs v Q q =>
  ha H0 σ B H rs v _ fun x B1 H1 d st dp rd => by
    rw [dp_isN dp]
    exact q _ B1 H1 _ st (.bl _) (k d rd)
theorem dp_list {B : Hp} {x : V} {ds : List D} (h : Dq K B x (.list ds)) : ∃ a xs, x = .ref a ∧ B a = some (.lst xs) ∧ DqAll K B xs ds := by
  cases h with
  | lst h1 h2 => exact ⟨_, _, rfl, h1, h2⟩
theorem dp_tup {B : Hp} {x : V} {ds : List D} (h : Dq K B x (.tuple ds)) : ∃ a xs, x = .ref a ∧ SqT K B a xs ∧ DqAll K B xs ds := by
  cases h with
  | tup h1 h2 => exact ⟨_, _, rfl, h1, h2⟩
theorem atI_dp {B : Hp} {xs : List V} {ds : List D} {i : Int} {f : D} (h : DqAll K B xs ds) (e : atI ds i = some f) : ∃ v, atI xs i = some v ∧ Dq K B v f := by
  unfold atI at e ⊢
  rw [h.length]
  cases q : ixN ds.length i with
  | none =>
    rw [q] at e
    cases e
  | some j =>
    rw [q] at e
    exact h.get e
theorem od_ixL : OpD K (rIxL K) fun d e R => ∃ ds i f, d = .list ds ∧ e = .int i ∧ atI ds i = some f ∧ R f := fun B H x y d e R v h1 h2 p Q q => by
  obtain ⟨ds, i, f, rfl, rfl, at_, k⟩ := p
  obtain ⟨a, xs, rfl, hs, ha⟩ := dp_list h1
  obtain ⟨z, hz, dz⟩ := atI_dp ha at_
  exact ⟨a, xs, i, z, rfl, dp_int h2, SqL.of (v.lst hs), hz, q _ B H _ (.refl v) dz k⟩
theorem od_ixT : OpD K (rIxT K) fun d e R => ∃ ds i f, d = .tuple ds ∧ e = .int i ∧ atI ds i = some f ∧ R f := fun B H x y d e R v h1 h2 p Q q => by
  obtain ⟨ds, i, f, rfl, rfl, at_, k⟩ := p
  obtain ⟨a, xs, rfl, hs, ha⟩ := dp_tup h1
  obtain ⟨z, hz, dz⟩ := atI_dp ha at_
  exact ⟨a, xs, i, z, rfl, dp_int h2, v.seqT hs, hz, q _ B H _ (.refl v) dz k⟩
theorem od_catT : OpD K (rCatT K) fun d e R => ∃ ds es, d = .tuple ds ∧ e = .tuple es ∧ ds ≠ [] ∧ es ≠ [] ∧ ds.length + es.length ≤ 100000 ∧ R (.tuple (ds ++ es)) := fun B H x y d e R v h1 h2 p Q q => by
  obtain ⟨ds, es, rfl, rfl, nd, ne, hl, k⟩ := p
  obtain ⟨a, xs, rfl, hs, ha⟩ := dp_tup h1
  obtain ⟨b, ys, rfl, ht, hb⟩ := dp_tup h2
  have l1 := ha.length
  have l2 := hb.length
  refine ⟨a, b, xs, ys, rfl, rfl, v.seqT hs, v.seqT ht, fun z => nd ?_, szl (by omega), fun z => absurd ?_ ne, fun _ p hp => ?_⟩
  · subst z
    exact List.eq_nil_of_length_eq_zero l1.symm
  · subst z
    exact List.eq_nil_of_length_eq_zero l2.symm
  · refine q _ (upd B p (.tup (xs ++ ys))) _ _ (Stp.new v hp) (.tup (SqT.of upd_same) ?_) k
    exact (Gr.new (v.none hp)).dpA _ _ (ha.app hb)
theorem od_catL : OpD K (rCatL K) fun d e R => ∃ ds es, d = .list ds ∧ e = .list es ∧ ds.length + es.length ≤ 100000 ∧ R (.list (ds ++ es)) := fun B H x y d e R v h1 h2 p Q q => by
  obtain ⟨ds, es, rfl, rfl, hl, k⟩ := p
  obtain ⟨a, xs, rfl, hs, ha⟩ := dp_list h1
  obtain ⟨b, ys, rfl, ht, hb⟩ := dp_list h2
  have l1 := ha.length
  have l2 := hb.length
  refine ⟨a, b, xs, ys, rfl, rfl, SqL.of (v.lst hs), SqL.of (v.lst ht), szl (by omega), fun p hp => ?_⟩
  refine q _ (upd B p (.lst (xs ++ ys))) _ _ (Stp.new v hp) (.lst upd_same ?_) k
  exact (Gr.new (v.none hp)).dpA _ _ (ha.app hb)
theorem x_neg (ha : Ex K cs ta Γ Ra) (k : ∀ d, Ra d → ∃ i, d = .int i ∧ R (.int (-i))) : Ex K cs (tUn (rU fun i => .int (-i)) ta) Γ R := fun H0 σ B H rs v Q q =>
  ha H0 σ B H rs v _ fun x B1 H1 d st dp rd => by
    obtain ⟨i, rfl, k⟩ := k d rd
    exact ⟨i, dp_int dp, q _ B1 H1 _ st (.int _) k⟩

/-! ### displays, calls -/
theorem x_tup {ta : TA} {Rl : List D → Prop} (ha : Ax K cs ta Γ Rl) (k : ∀ ds, Rl ds → ds.length ≤ 100000 ∧ R (.tuple ds)) : Ex K cs (tTup ta) Γ R := fun H0 σ B H rs v Q q =>
  ha H0 σ B H rs v _ fun xs B1 H1 ds st dp rd => by
    obtain ⟨hl, k⟩ := k ds rd
    have l1 := dp.length
    refine ⟨szl (by omega), fun p hp => q _ (upd B1 p (.tup xs)) _ _ (st.trans (Stp.new st.v hp)) (.tup (SqT.of upd_same) ((Gr.new (st.v.none hp)).dpA _ _ dp)) k⟩
theorem x_lst {ta : TA} {Rl : List D → Prop} (ha : Ax K cs ta Γ Rl) (k : ∀ ds, Rl ds → ds.length ≤ 100000 ∧ R (.list ds)) : Ex K cs (tLst ta) Γ R := fun H0 σ B H rs v Q q =>
  ha H0 σ B H rs v _ fun xs B1 H1 ds st dp rd => by
    obtain ⟨hl, k⟩ := k ds rd
    have l1 := dp.length
    refine ⟨szl (by omega), fun p hp => q _ (upd B1 p (.lst xs)) _ _ (st.trans (Stp.new st.v hp)) (.lst upd_same ((Gr.new (st.v.none hp)).dpA _ _ dp)) k⟩
theorem xd_tup {ta : TA} {ds : List D} (ha : Ad K cs ta Γ ds) (hl : ds.length ≤ 100000) (k : R (.tuple ds)) : Ex K cs (tTup ta) Γ R := x_tup ha fun _ e => by subst e; exact ⟨hl, k⟩
theorem xd_lst {ta : TA} {ds : List D} (ha : Ad K cs ta Γ ds) (hl : ds.length ≤ 100000) (k : R (.list ds)) : Ex K cs (tLst ta) Γ R := x_lst ha fun _ e => by subst e; exact ⟨hl, k⟩
theorem x_call {F : List D → (D → Prop) → Prop} {ta : TA} {Rl : List D → Prop} {dvs : List V} {dds : List D} {E : XK} (ha : Ax K cs ta Γ Rl) (hd : ∀ H, DqAll K H dvs dds) (k : ∀ ds, Rl ds → F (ds ++ dds) R) : Ex K cs (tCall (Pm K cs F) dvs E ta) Γ R := fun H0 σ B H rs v Q q =>
  ha H0 σ B H rs v _ fun xs B1 H1 ds st dp rd => ⟨B1, ds ++ dds, R, st.v, fun P hP => st.b.tab (rs.tab P hP), dp.app (hd B1), k ds rd, fun v2 B2 H2 d st2 dp2 r2 => q v2 B2 H2 d (st.trans st2) dp2 r2⟩
theorem xd_call {F : List D → (D → Prop) → Prop} {ta : TA} {ds : List D} {E : XK} (ha : Ad K cs ta Γ ds) (k : F ds R) : Ex K cs (tCall (Pm K cs F) [] E ta) Γ R := x_call (dds := []) ha (fun _ => .nil) fun _ e => by subst e; rw [List.append_nil]; exact k
theorem xd_callD {F : List D → (D → Prop) → Prop} {ta : TA} {ds dds : List D} {dvs : List V} {E : XK} (ha : Ad K cs ta Γ ds) (hd : ∀ H, DqAll K H dvs dds) (k : F (ds ++ dds) R) : Ex K cs (tCall (Pm K cs F) dvs E ta) Γ R := x_call (dds := dds) ha hd fun _ e => by subst e; exact k
/-- a built-in's call, on data -/
def CbD (K : PySem.W.Frag) (r : List V → Hp → VK → Prop) (P : List D → (D → Prop) → Prop) : Prop := ∀ (B H : Hp) (xs : List V) (ds : List D) (R : D → Prop), Gr B H → DqAll K B xs ds → P ds R → ∀ Q : VK, (∀ v B' H' f, Stp B H B' H' → Dq K B' v f → R f → Q v H') → r xs H Q
theorem x_cb {r : List V → Hp → VK → Prop} {P : List D → (D → Prop) → Prop} {ta : TA} {Rl : List D → Prop} (o : CbD K r P) (ha : Ax K cs ta Γ Rl) (k : ∀ ds, Rl ds → P ds R) : Ex K cs (tCB r ta) Γ R := fun H0 σ B H rs v Q q =>
  ha H0 σ B H rs v _ fun xs B1 H1 ds st dp rd => o B1 H1 xs ds R st.v dp (k ds rd) Q fun v2 B2 H2 d st2 dp2 r2 => q v2 B2 H2 d (st.trans st2) dp2 r2
theorem xd_cb {r : List V → Hp → VK → Prop} {P : List D → (D → Prop) → Prop} {ta : TA} {ds : List D} (o : CbD K r P) (ha : Ad K cs ta Γ ds) (k : P ds R) : Ex K cs (tCB r ta) Γ R := x_cb o ha fun _ e => by subst e; exact k
theorem dpa1 {B : Hp} {xs : List V} {d : D} (h : DqAll K B xs [d]) : ∃ v, xs = [v] ∧ Dq K B v d := by
  cases h with
  | cons h1 h2 =>
    cases h2
    exact ⟨_, rfl, h1⟩
theorem cb_abs : CbD K (fun xs H Q => ∃ i, xs = [.int i] ∧ Q (.int (if i < 0 then -i else i)) H) fun ds R => ∃ i, ds = [.int i] ∧ R (.int (i.natAbs : Int)) := fun B H xs ds R v h p Q q => by
  obtain ⟨i, rfl, k⟩ := p
  obtain ⟨x, rfl, hx⟩ := dpa1 h
  have e := dp_int hx
  subst e
  refine ⟨i, rfl, ?_⟩
  have e2 : (if i < 0 then -i else i) = (i.natAbs : Int) := by split <;> omega
  rw [e2]
  exact q _ B H _ (.refl v) (.int _) k
theorem cb_len : CbD K (fun xs H Q => ∃ p ys, xs = [.ref p] ∧ (SqL K H p ys ∨ SqT K H p ys) ∧ Q (.int ys.length) H) fun ds R => ∃ es, (ds = [.list es] ∨ ds = [.tuple es]) ∧ R (.int (es.length : Int)) := fun B H xs ds R v h p Q q => by
  obtain ⟨es, c, k⟩ := p
  rcases c with rfl | rfl
  · obtain ⟨x, rfl, hx⟩ := dpa1 h
    obtain ⟨a, ys, rfl, hs, ha⟩ := dp_list hx
    refine ⟨a, ys, rfl, .inl (SqL.of (v.lst hs)), ?_⟩
    rw [ha.length]
    exact q _ B H _ (.refl v) (.int _) k
  · obtain ⟨x, rfl, hx⟩ := dpa1 h
    obtain ⟨a, ys, rfl, hs, ha⟩ := dp_tup hx
    refine ⟨a, ys, rfl, .inr (v.seqT hs), ?_⟩
    rw [ha.length]
    exact q _ B H _ (.refl v) (.int _) k
theorem dpa_ints {B : Hp} : ∀ {ns : List Int} {xs : List V}, DqAll K B xs (ns.map PyData.int) → xs = ns.map V.int
  | [], _, h => by cases h; rfl
  | n :: ns, _, h => by
    cases h with
    | cons h1 h2 =>
      rw [dp_int h1, dpa_ints h2]
      rfl
theorem dpa_bls {B : Hp} : ∀ {ns : List Bool} {xs : List V}, DqAll K B xs (ns.map PyData.bool) → xs = ns.map V.bl
  | [], _, h => by cases h; rfl
  | n :: ns, _, h => by
    cases h with
    | cons h1 h2 =>
      rw [dp_bl h1, dpa_bls h2]
      rfl
theorem ints_dpa {B : Hp} : ∀ (ns : List Int), DqAll K B (ns.map V.int) (ns.map PyData.int)
  | [] => .nil
  | n :: ns => .cons (.int n) (ints_dpa ns)
theorem cb_sum : CbD K (rSum K) fun ds R => ∃ ns : List Int, ds = [.list (ns.map PyData.int)] ∧ R (.int ns.sum) := fun B H xs ds R v h p Q q => by
  obtain ⟨ns, rfl, k⟩ := p
  obtain ⟨x, rfl, hx⟩ := dpa1 h
  obtain ⟨a, ys, rfl, hs, ha⟩ := dp_list hx
  have e := dpa_ints ha
  subst e
  exact ⟨a, ns, rfl, SqL.of (v.lst hs), q _ B H _ (.refl v) (.int _) k⟩
theorem cb_all : CbD K (rAll K) fun ds R => ∃ bs : List Bool, ds = [.list (bs.map PyData.bool)] ∧ R (.bool (bs.all id)) := fun B H xs ds R v h p Q q => by
  obtain ⟨bs, rfl, k⟩ := p
  obtain ⟨x, rfl, hx⟩ := dpa1 h
  obtain ⟨a, ys, rfl, hs, ha⟩ := dp_list hx
  have e := dpa_bls ha
  subst e
  exact ⟨a, bs, rfl, SqL.of (v.lst hs), q _ B H _ (.refl v) (.bl _) k⟩
theorem cb_int : CbD K (fun xs H Q => (∃ i, xs = [.int i] ∧ Q (.int i) H) ∨ ∃ k, xs = [.bl k] ∧ Q (.int (if k then 1 else 0)) H) fun ds R => ∃ i, ds = [.int i] ∧ R (.int i) := fun B H xs ds R v h p Q q => by
  obtain ⟨i, rfl, k⟩ := p
  obtain ⟨x, rfl, hx⟩ := dpa1 h
  have e := dp_int hx
  subst e
  exact .inl ⟨i, rfl, q _ B H _ (.refl v) (.int _) k⟩
theorem cb_repr : CbD K rReprB fun ds R => ∃ b, ds = [.bool b] ∧ R (.str (if b then "True" else "False")) := fun B H xs ds R v h p Q q => by
  obtain ⟨b, rfl, k⟩ := p
  obtain ⟨x, rfl, hx⟩ := dpa1 h
  have e := dp_bl hx
  subst e
  exact ⟨b, rfl, q _ B H _ (.refl v) (.str _) k⟩
theorem cb_tuple : CbD K (fun xs H Q => ∃ p ys, xs = [.ref p] ∧ ((SqL K H p ys ∧ ∀ l, H l = none → Q (.ref l) (upd H l (.tup ys))) ∨ (SqT K H p ys ∧ Q (.ref p) H))) fun ds R => ∃ es, ds = [.list es] ∧ R (.tuple es) := fun B H xs ds R v h p Q q => by
  obtain ⟨es, rfl, k⟩ := p
  obtain ⟨x, rfl, hx⟩ := dpa1 h
  obtain ⟨a, ys, rfl, hs, ha⟩ := dp_list hx
  exact ⟨a, ys, rfl, .inl ⟨SqL.of (v.lst hs), fun l hl => q _ (upd B l (.tup ys)) _ _ (Stp.new v hl) (.tup (SqT.of upd_same) ((Gr.new (v.none hl)).dpA _ _ ha)) k⟩⟩

/-! ### tests -/
theorem Tx.mono {t : TT} {P P' : Bool → Prop} (h : Tx K cs t Γ P) (k : ∀ b, P b → P' b) : Tx K cs t Γ P' := fun H0 σ B H r v Q q => h H0 σ B H r v Q fun b B' H' st pb => q b B' H' st (k b pb)
theorem t_test {P : Bool → Prop} (h : Ex K cs te Γ Ra) (k : ∀ d, Ra d → ∃ b, d = .bool b ∧ P b) : Tx K cs (tTest te) Γ P := fun H0 σ B H r v Q q => h H0 σ B H r v _ fun x B1 H1 d st dp rd => by
  obtain ⟨b, rfl, k⟩ := k d rd
  exact ⟨b, dp_bl dp, q b B1 H1 st k⟩
theorem t_B {P : Bool → Prop} (h : Ex K cs te Γ Ra) (k : ∀ d, Ra d → ∃ b, d = .bool b ∧ P b) : Tx K cs (tB te) Γ P := fun H0 σ B H r v Q q => h H0 σ B H r v _ fun x B1 H1 d st dp rd => by
  obtain ⟨b, rfl, k⟩ := k d rd
  exact ⟨b, dp_bl dp, q b B1 H1 st k⟩
theorem td_test {P : Bool → Prop} {b : Bool} (h : Xd K cs te Γ (.bool b)) (k : P b) : Tx K cs (tTest te) Γ P := t_test h fun _ e => ⟨b, e.symm, k⟩
theorem td_B {P : Bool → Prop} {b : Bool} (h : Xd K cs te Γ (.bool b)) (k : P b) : Tx K cs (tB te) Γ P := t_B h fun _ e => ⟨b, e.symm, k⟩
theorem t_and {P Pa : Bool → Prop} (h : Tx K cs t Γ Pa) (h1 : Pa true → Tx K cs u Γ P) (h2 : Pa false → P false) : Tx K cs (tAnd t u) Γ P := fun H0 σ B H r v Q q => h H0 σ B H r v _ fun b B1 H1 st pb => by
  cases b with
  | true =>
    show u σ H1 Q
    exact h1 pb H0 σ B1 H1 (r.step st) st.v Q fun c B2 H2 st2 pc => q c B2 H2 (st.trans st2) pc
  | false =>
    show Q false H1
    exact q false B1 H1 st (h2 pb)
theorem t_or {P Pa : Bool → Prop} (h : Tx K cs t Γ Pa) (h1 : Pa true → P true) (h2 : Pa false → Tx K cs u Γ P) : Tx K cs (tOr t u) Γ P := fun H0 σ B H r v Q q => h H0 σ B H r v _ fun b B1 H1 st pb => by
  cases b with
  | false =>
    show u σ H1 Q
    exact h2 pb H0 σ B1 H1 (r.step st) st.v Q fun c B2 H2 st2 pc => q c B2 H2 (st.trans st2) pc
  | true =>
    show Q true H1
    exact q true B1 H1 st (h1 pb)
theorem t_not {P : Bool → Prop} (h : Tx K cs t Γ fun b => P (!b)) : Tx K cs (tNot t) Γ P := fun H0 σ B H r v Q q => h H0 σ B H r v _ fun b B1 H1 st pb => q _ B1 H1 st pb
/-! ### and, or, not as values -/
theorem x_andV {Pa : Bool → Prop} (h : Ex K cs ta Γ Ra) (ka : ∀ d, Ra d → ∃ b, d = .bool b ∧ Pa b) (h1 : Pa true → Ex K cs tb Γ R) (h2 : Pa false → R (.bool false)) : Ex K cs (tAndV ta tb) Γ R := fun H0 σ B H r v Q q => h H0 σ B H r v _ fun x B1 H1 d st dp rd => by
  obtain ⟨b, rfl, k⟩ := ka d rd
  refine ⟨b, dp_bl dp, ?_⟩
  cases b with
  | true =>
    show tb σ H1 Q
    exact h1 k H0 σ B1 H1 (r.step st) st.v Q fun c B2 H2 d2 st2 dp2 pc => q c B2 H2 d2 (st.trans st2) dp2 pc
  | false =>
    show Q (.bl false) H1
    exact q _ B1 H1 _ st (.bl _) (h2 k)
theorem x_orV {Pa : Bool → Prop} (h : Ex K cs ta Γ Ra) (ka : ∀ d, Ra d → ∃ b, d = .bool b ∧ Pa b) (h1 : Pa true → R (.bool true)) (h2 : Pa false → Ex K cs tb Γ R) : Ex K cs (tOrV ta tb) Γ R := fun H0 σ B H r v Q q => h H0 σ B H r v _ fun x B1 H1 d st dp rd => by
  obtain ⟨b, rfl, k⟩ := ka d rd
  refine ⟨b, dp_bl dp, ?_⟩
  cases b with
  | false =>
    show tb σ H1 Q
    exact h2 k H0 σ B1 H1 (r.step st) st.v Q fun c B2 H2 d2 st2 dp2 pc => q c B2 H2 d2 (st.trans st2) dp2 pc
  | true =>
    show Q (.bl true) H1
    exact q _ B1 H1 _ st (.bl _) (h1 k)
theorem x_notV (h : Ex K cs ta Γ Ra) (ka : ∀ d, Ra d → ∃ b, d = .bool b ∧ R (.bool (!b))) : Ex K cs (tNotV ta) Γ R := fun H0 σ B H r v Q q => h H0 σ B H r v _ fun x B1 H1 d st dp rd => by
  obtain ⟨b, rfl, k⟩ := ka d rd
  exact ⟨b, dp_bl dp, q _ B1 H1 _ st (.bl _) k⟩
/-! ### slices of lists -/
theorem dpa_cut {B : Hp} {xs : List V} {ds : List D} (lo hi : Option Int) (h : DqAll K B xs ds) : DqAll K B (cutV xs lo hi) ((ds.drop (HT.sIx ds.length 0 lo)).take (HT.sIx ds.length ds.length hi - HT.sIx ds.length 0 lo)) := by
  unfold cutV
  rw [h.length]
  exact (h.drop _).take _
def cutD (ds : List D) (lo hi : Option Int) : List D := (ds.drop (HT.sIx ds.length 0 lo)).take (HT.sIx ds.length ds.length hi - HT.sIx ds.length 0 lo)
def Ox (K : PySem.W.Frag) (cs : List Addr) (to : TO) (Γ : Gm) (R : Option Int → Prop) : Prop := ∀ (H0 : Hp) (σ : L2.St) (B H : Hp), Rs K cs H0 σ B H Γ → Gr B H → ∀ Q : Option Int → Hp → Prop, (∀ b B' H', Stp B H B' H' → R b → Q b H') → to σ H Q
theorem o_none {P : Option Int → Prop} (k : P none) : Ox K cs tNoPart Γ P := fun _ _ B H _ v _ q => q _ B H (.refl v) k
theorem o_some {P : Option Int → Prop} (h : Ex K cs te Γ Ra) (k : ∀ d, Ra d → ∃ i, d = .int i ∧ P (some i)) : Ox K cs (tPart te) Γ P := fun H0 σ B H r v Q q => h H0 σ B H r v _ fun x B1 H1 d st dp rd => by
  obtain ⟨i, rfl, k⟩ := k d rd
  exact ⟨i, dp_int dp, q _ B1 H1 st k⟩
theorem x_slice {tl th : TO} {Pl Ph : Option Int → Prop} (h : Ex K cs te Γ Ra) (hl : Ox K cs tl Γ Pl) (hh : Ox K cs th Γ Ph) (k : ∀ d lo hi, Ra d → Pl lo → Ph hi → ∃ ds, d = .list ds ∧ R (.list (cutD ds lo hi))) : Ex K cs (tSl (rSlL K) te tl th) Γ R := fun H0 σ B H r v Q q =>
  h H0 σ B H r v _ fun x B1 H1 d st dp rd => hl H0 σ B1 H1 (r.step st) st.v _ fun lo B2 H2 st2 pl => hh H0 σ B2 H2 (r.step (st.trans st2)) st2.v _ fun hi B3 H3 st3 ph => by
    obtain ⟨ds, rfl, k⟩ := k d lo hi rd pl ph
    obtain ⟨a, xs, rfl, hs, ha⟩ := dp_list ((st2.trans st3).b.dp _ _ dp)
    refine ⟨a, xs, rfl, SqL.of (st3.v.lst hs), fun p hp => ?_⟩
    refine q _ (upd B3 p (.lst (cutV xs lo hi))) _ _ ((st.trans (st2.trans st3)).trans (Stp.new st3.v hp)) (.lst upd_same ?_) k
    exact (Gr.new (st3.v.none hp)).dpA _ _ (dpa_cut lo hi ha)
end
end Rt
set_option Elab.async false
set_option linter.all false
set_option maxRecDepth 100000
set_option maxHeartbeats 4000000
/-! The rules of the layer over data: statements, loops, comprehensions, generator expressions. -/
namespace Rt
open PySem PySem.Spec PyProof.Rows L2 GxR

section
variable {K : PySem.W.Frag} {cs : List Addr} {Γ : Gm} {R Ra Rb : D → Prop} {N : Gm → Prop} {ta tb te : TE} {t u : TS} {d e : D}
/-! ### slots -/
/-- less is known -/
def Le (Γ' Γ : Gm) : Prop := Γ'.length = Γ.length ∧ ∀ (i : Nat) (s : Sl), Γ'[i]? = some s → s = .no ∨ Γ[i]? = some s
theorem Rs.weak {H0 B H : Hp} {σ : L2.St} {Γ' : Gm} (h : Le Γ' Γ) (r : Rs K cs H0 σ B H Γ) : Rs K cs H0 σ B H Γ' := by
  refine ⟨by rw [r.len, h.1], fun i s x h1 h2 => ?_, fun i j ds es p hij h1 h2 h3 => ?_, r.tab⟩
  · rcases h.2 i s h1 with rfl | q
    · trivial
    · exact r.sl i s x q h2
  · rcases h.2 i _ h1 with q | q
    · cases q
    · rcases h.2 j _ h2 with q' | q'
      · cases q'
      · exact r.sep i j ds es p hij q q' h3
def setS (σ : L2.St) : List Nat → List V → L2.St
  | j :: js, v :: vs => setS (σ.set j (some v)) js vs
  | _, _ => σ
def setG (Γ : Gm) : List Nat → List D → Gm
  | j :: js, d :: ds => setG (Γ.set j (.val d)) js ds
  | _, _ => Γ
theorem Rs.setL {H0 B H : Hp} : ∀ {js : List Nat} {vs : List V} {ds : List D} {σ : L2.St} {Γ : Gm}, Rs K cs H0 σ B H Γ → DqAll K B vs ds → Rs K cs H0 (setS σ js vs) B H (setG Γ js ds)
  | [], _, _, _, _, r, _ => r
  | _ :: _, _, [], _, _, r, h => by
    cases h
    exact r
  | j :: js, _, d :: ds, σ, Γ, r, h => by
    cases h with
    | cons h1 h2 =>
      show Rs K cs H0 (setS (σ.set j (some _)) js _) B H (setG (Γ.set j (.val d)) js ds)
      exact Rs.setL (js := js) (r.set (i := j) h1) h2
def clr (Γ : Gm) (js : List Nat) : Gm := js.foldl (fun g j => g.set j .no) Γ
theorem clr_length : ∀ (js : List Nat) (Γ : Gm), (clr Γ js).length = Γ.length
  | [], _ => rfl
  | j :: js, Γ => by
    show (clr (Γ.set j .no) js).length = _
    rw [clr_length js, List.length_set]
theorem clr_get : ∀ (js : List Nat) (Γ : Gm) (i : Nat) (s : Sl), (clr Γ js)[i]? = some s → s = .no ∨ (Γ[i]? = some s ∧ i ∉ js)
  | [], _, _, _, h => .inr ⟨h, by simp⟩
  | j :: js, Γ, i, s, h => by
    rcases clr_get js (Γ.set j .no) i s h with q | ⟨q, hn⟩
    · exact .inl q
    · by_cases e : j = i
      · subst e
        rw [List.getElem?_set] at q
        rw [if_pos rfl] at q
        split at q
        · exact .inl (Option.some.inj q).symm
        · cases q
      · rw [List.getElem?_set_ne e] at q
        exact .inr ⟨q, fun z => by
          rcases List.mem_cons.mp z with z | z
          · exact e z.symm
          · exact hn z⟩
theorem setG_length : ∀ (js : List Nat) (ds : List D) (Γ : Gm), (setG Γ js ds).length = Γ.length
  | [], _, _ => by unfold setG; rfl
  | _ :: _, [], _ => by unfold setG; rfl
  | j :: js, d :: ds, Γ => by
    show (setG (Γ.set j (.val d)) js ds).length = _
    rw [setG_length js ds, List.length_set]
theorem setG_get : ∀ (js : List Nat) (ds : List D) (Γ : Gm) (i : Nat), i ∉ js → (setG Γ js ds)[i]? = Γ[i]?
  | [], _, _, _, _ => by unfold setG; rfl
  | _ :: _, [], _, _, _ => by unfold setG; rfl
  | j :: js, d :: ds, Γ, i, h => by
    show (setG (Γ.set j (.val d)) js ds)[i]? = _
    rw [setG_get js ds _ i (fun z => h (List.mem_cons_of_mem _ z)), List.getElem?_set_ne (fun e => h (by rw [e]; exact List.mem_cons_self))]
theorem le_clr_set (js : List Nat) (ds : List D) (Γ : Gm) : Le (clr Γ js) (setG (clr Γ js) js ds) := by
  refine ⟨(setG_length _ _ _).symm, fun i s h => ?_⟩
  rcases clr_get js Γ i s h with q | ⟨_, hn⟩
  · exact .inl q
  · exact .inr (by rw [setG_get js ds _ i hn]; exact h)
theorem Le.refl (Γ : Gm) : Le Γ Γ := ⟨rfl, fun _ _ h => .inr h⟩

/-! ### statements -/
theorem Sx.mono {N' : Gm → Prop} {R' : D → Prop} (h : Sx K cs t Γ N R) (kn : ∀ g, N g → N' g) (kr : ∀ d, R d → R' d) : Sx K cs t Γ N' R' := fun B0 H0 σ B H st r E q1 q2 =>
  h B0 H0 σ B H st r E (fun σ' B' H' Γ' s1 r1 n => q1 σ' B' H' Γ' s1 r1 (kn _ n)) fun v B' H' d s1 dp rd => q2 v B' H' d s1 dp (kr _ rd)
theorem Sx.weak {Γ' : Gm} (hl : Le Γ' Γ) (h : Sx K cs t Γ' N R) : Sx K cs t Γ N R := fun B0 H0 σ B H st r E q1 q2 => h B0 H0 σ B H st (r.weak hl) E q1 q2
theorem s_ret (h : Ex K cs te Γ R) : Sx K cs (tRet te) Γ N R := fun B0 H0 σ B H st r E _ q => h H0 σ B H r st.v _ fun v B' H' d s1 dp rd => q v B' H' d (st.trans s1) dp rd
theorem s_retN (k : R .none) : Sx K cs tRetN Γ N R := fun B0 H0 σ B H st r E _ q => q _ B H _ st .non k
theorem s_next (k : N Γ) : Sx K cs tNext Γ N R := fun B0 H0 σ B H st r E q _ => q σ B H Γ st r k
theorem s_seq (h : Sx K cs t Γ (fun Γ' => Sx K cs u Γ' N R) R) : Sx K cs (tSeq t u) Γ N R := fun B0 H0 σ B H st r E q1 q2 =>
  h B0 H0 σ B H st r { E with nx := u E } (fun σ' B' H' Γ' s1 r1 n => n B0 H0 σ' B' H' s1 r1 E q1 q2) q2
theorem s_asg {i : Nat} (h : Ex K cs te Γ Ra) (k : ∀ d, Ra d → N (Γ.set i (.val d))) : Sx K cs (tAsg te (gName i)) Γ N R := fun B0 H0 σ B H st r E q _ =>
  h H0 σ B H r st.v _ fun v B' H' d s1 dp rd => q _ B' H' _ (st.trans s1) ((r.step s1).set dp) (k d rd)
theorem s_set {i : Nat} (h : Ex K cs te Γ Ra) (k : ∀ d, Ra d → Sx K cs u (Γ.set i (.val d)) N R) : Sx K cs (tSeq (tAsg te (gName i)) u) Γ N R := s_seq (s_asg h k)
theorem sd_set {i : Nat} (h : Xd K cs te Γ d) (k : Sx K cs u (Γ.set i (.val d)) N R) : Sx K cs (tSeq (tAsg te (gName i)) u) Γ N R := s_set h fun _ e => by subst e; exact k
theorem sd_asg {i : Nat} (h : Xd K cs te Γ d) (k : N (Γ.set i (.val d))) : Sx K cs (tAsg te (gName i)) Γ N R := s_asg h fun _ e => by subst e; exact k
theorem s_if {c : TT} {P : Bool → Prop} (h : Tx K cs c Γ P) (h1 : P true → Sx K cs t Γ N R) (h2 : P false → Sx K cs u Γ N R) : Sx K cs (tIfS c t u) Γ N R := fun B0 H0 σ B H st r E q1 q2 =>
  h H0 σ B H r st.v _ fun b B' H' s1 pb => by
    cases b with
    | true =>
      show t E σ H'
      exact h1 pb B0 H0 σ B' H' (st.trans s1) (r.step s1) E q1 q2
    | false =>
      show u E σ H'
      exact h2 pb B0 H0 σ B' H' (st.trans s1) (r.step s1) E q1 q2
/-- if c: .. ; the rest -/
theorem s_when {c : TT} {P : Bool → Prop} (h : Tx K cs c Γ P) (h1 : P true → Sx K cs t Γ (fun Γ' => Sx K cs u Γ' N R) R) (h2 : P false → Sx K cs u Γ N R) : Sx K cs (tSeq (tIfS c t tNext) u) Γ N R :=
  s_seq (s_if h h1 fun p => s_next (h2 p))
theorem s_drop (h : Ex K cs te Γ Ra) (k : N Γ) : Sx K cs (tDrop te) Γ N R := fun B0 H0 σ B H st r E q _ => h H0 σ B H r st.v _ fun v B' H' d s1 dp rd => q _ B' H' _ (st.trans s1) (r.step s1) k
theorem dqa2 {B : Hp} {xs : List V} {d e : D} (h : DqAll K B xs [d, e]) : ∃ v w, xs = [v, w] ∧ Dq K B v d ∧ Dq K B w e := by
  cases h with
  | cons h1 h2 =>
    cases h2 with
    | cons h3 h4 =>
      cases h4
      exact ⟨_, _, rfl, h1, h3⟩
theorem s_par {i j : Nat} {ta : TA} (h : Ad K cs ta Γ [d, e]) (k : N ((Γ.set i (.val d)).set j (.val e))) : Sx K cs (tPar i j ta) Γ N R := fun B0 H0 σ B H st r E q _ =>
  h H0 σ B H r st.v _ fun vs B' H' ds s1 dp rd => by
    subst rd
    obtain ⟨v, w, rfl, h1, h2⟩ := dqa2 dp
    exact ⟨v, w, rfl, q _ B' H' _ (st.trans s1) (((r.step s1).set h1).set h2) k⟩
/-! ### targets -/
/-- a target stores the parts f d at the slots js -/
def Tg (K : PySem.W.Frag) (g : TG) (js : List Nat) (f : D → Option (List D)) : Prop := ∀ (x : V) (σ : L2.St) (B H : Hp) (d : D) (es : List D), Gr B H → Dq K B x d → f d = some es → ∃ vs, DqAll K B vs es ∧ ∀ k : L2.St → Hp → Prop, k (setS σ js vs) H → g x σ H k
theorem tg_name {i : Nat} : Tg K (gName i) [i] fun d => some [d] := fun x σ B H d es v dp e => by
  cases e
  exact ⟨[x], .cons dp .nil, fun k q => q⟩
def gNames : List Nat → TGs
  | [] => gNil
  | j :: js => gCons (gName j) (gNames js)
theorem gNames_ok : ∀ (js : List Nat) (xs : List V) (σ : L2.St) (H : Hp) (k : L2.St → Hp → Prop), xs.length = js.length → k (setS σ js xs) H → gNames js xs σ H k
  | [], [], _, _, _, _, q => ⟨rfl, q⟩
  | j :: js, x :: xs, σ, H, k, hl, q => ⟨x, xs, rfl, gNames_ok js xs _ H k (Nat.succ.inj hl) q⟩
  | [], _ :: _, _, _, _, hl, _ => by cases hl
  | _ :: _, [], _, _, _, hl, _ => by cases hl
def parts (n : Nat) : D → Option (List D)
  | .tuple es => if es.length = n then some es else none
  | _ => none
theorem tg_tup {js : List Nat} {n : Nat} (hn : js.length = n) : Tg K (gTup K n (gNames js)) js (parts n) := fun x σ B H d es v dp e => by
  cases d with
  | tuple fs =>
    have e2 : (if fs.length = n then some fs else none) = some es := e
    split at e2
    · rename_i hl
      cases e2
      obtain ⟨a, xs, rfl, hs, ha⟩ := dp_tup dp
      exact ⟨xs, ha, fun k q => ⟨a, xs, rfl, v.seqT hs, by rw [ha.length]; exact hl, gNames_ok js xs σ H k (by rw [ha.length, hl, hn]) q⟩⟩
    · cases e2
  | _ => cases e
/-- a, b, .. = a tuple -/
theorem s_unp {g : TG} {js : List Nat} {f : D → Option (List D)} (hg : Tg K g js f) (h : Ex K cs te Γ Ra) (k : ∀ d, Ra d → ∃ es, f d = some es ∧ N (setG Γ js es)) : Sx K cs (tAsg te g) Γ N R := fun B0 H0 σ B H st r E q _ =>
  h H0 σ B H r st.v _ fun x B' H' d s1 dp rd => by
    obtain ⟨es, e, n⟩ := k d rd
    obtain ⟨vs, dv, go⟩ := hg x σ B' H' d es s1.v dp e
    exact go _ (q _ B' H' _ (st.trans s1) ((r.step s1).setL dv) n)
theorem sd_unp {g : TG} {js : List Nat} {f : D → Option (List D)} {es : List D} (hg : Tg K g js f) (h : Xd K cs te Γ d) (e : f d = some es) (k : Sx K cs u (setG Γ js es) N R) : Sx K cs (tSeq (tAsg te g) u) Γ N R :=
  s_seq (s_unp hg h fun _ e2 => by subst e2; exact ⟨es, e, k⟩)
/-! ### lists that a def fills -/
theorem setOwn {H0 B H : Hp} {σ : L2.St} {i : Nat} {p : Addr} {vs : List V} {ds : List D} (r : Rs K cs H0 σ B H Γ) (h0 : H0 p = none) (hb : B p = none) (hp : H p = some (.lst vs)) (hd : DqAll K B vs ds)
    (hx : ∀ (j : Nat) (es : List D), j ≠ i → Γ[j]? = some (.own es) → σ[j]? ≠ some (some (.ref p))) : Rs K cs H0 (σ.set i (some (.ref p))) B H (Γ.set i (.own ds)) := by
  have at_ : ∀ {s : Sl}, (Γ.set i (.own ds))[i]? = some s → s = .own ds := fun {s} h => by
    rw [List.getElem?_set, if_pos rfl] at h
    split at h
    · exact (Option.some.inj h).symm
    · cases h
  have atS : ∀ {x : Option V}, (σ.set i (some (.ref p)))[i]? = some x → x = some (.ref p) := fun {x} h => by
    rw [List.getElem?_set, if_pos rfl] at h
    split at h
    · exact (Option.some.inj h).symm
    · cases h
  refine ⟨by rw [List.length_set, List.length_set]; exact r.len, fun j s x h1 h2 => ?_, fun j k ds' es q hjk h1 h2 h3 => ?_, r.tab⟩
  · by_cases e : i = j
    · subst e
      rw [at_ h1, atS h2]
      exact ⟨p, vs, rfl, h0, hb, hp, hd⟩
    · rw [List.getElem?_set_ne e] at h1 h2
      exact r.sl j s x h1 h2
  · by_cases ej : i = j
    · subst ej
      rw [List.getElem?_set_ne hjk] at h2 ⊢
      have e := atS h3
      cases e
      exact hx k es (Ne.symm hjk) h2
    · rw [List.getElem?_set_ne ej] at h1 h3
      by_cases ek : i = k
      · subst ek
        intro h4
        have e := atS h4
        cases e
        exact hx j ds' (Ne.symm ej) h1 h3
      · rw [List.getElem?_set_ne ek] at h2 ⊢
        exact r.sep j k ds' es q hjk h1 h2 h3
/-- x = [..]: a new list that the def goes on to fill -/
theorem s_newL {i : Nat} {ta : TA} {ds : List D} (h : Ad K cs ta Γ ds) (hl : ds.length ≤ 100000) (k : N (Γ.set i (.own ds))) : Sx K cs (tAsg (tLst ta) (gName i)) Γ N R := fun B0 H0 σ B H st r E q _ =>
  h H0 σ B H r st.v _ fun xs B' H' es s1 dp rd => by
    subst rd
    have l1 := dp.length
    refine ⟨szl (by omega), fun p hp => ?_⟩
    have st1 := st.trans s1
    have r1 := r.step s1
    have r2 : Rs K cs H0 σ B' (upd H' p (.lst xs)) Γ := by
      refine ⟨r1.len, fun j s x h1 h2 => ?_, r1.sep, r1.tab⟩
      have z := r1.sl j s x h1 h2
      cases s with
      | no => trivial
      | val d => exact z
      | own es =>
        obtain ⟨a, vs, e1, e2, e3, e4, e5⟩ := z
        exact ⟨a, vs, e1, e2, e3, by rw [upd_ne (ne_of_none e4 hp)]; exact e4, e5⟩
    refine q _ B' (upd H' p (.lst xs)) _ (st1.hide hp) (setOwn r2 (st1.h.none hp) (s1.v.none hp) upd_same dp fun j es hj h1 h2 => ?_) k
    obtain ⟨a, vs, e1, e2, e3, e4, e5⟩ := r1.own h1
    rw [e1] at h2
    have e : a = p := V.ref.inj (Option.some.inj (Option.some.inj h2))
    rw [e, hp] at e4
    cases e4
/-- the list is what it is from now on -/
theorem s_show {i : Nat} {ds : List D} (hi : Γ[i]? = some (.own ds)) (h : Sx K cs t (Γ.set i (.val (.list ds))) N R) : Sx K cs t Γ N R := fun B0 H0 σ B H st r E q1 q2 => by
  obtain ⟨p, vs, e1, e2, e3, e4, e5⟩ := r.own hi
  have st1 := st.show e2 e3 e4
  refine h B0 H0 σ (upd B p (.lst vs)) H st1 ?_ E q1 q2
  have g : Gr B (upd B p (.lst vs)) := .new e3
  refine ⟨by rw [List.length_set]; exact r.len, fun j s x h1 h2 => ?_, fun j k ds' es q hjk h1 h2 h3 => ?_, fun P hP => g.tab (r.tab P hP)⟩
  · by_cases e : i = j
    · subst e
      rw [List.getElem?_set, if_pos rfl] at h1
      split at h1
      · cases h1
        rw [e1] at h2
        cases h2
        exact ⟨_, rfl, .lst upd_same (g.dpA _ _ e5)⟩
      · cases h1
    · rw [List.getElem?_set_ne e] at h1
      have z := r.sl j s x h1 h2
      cases s with
      | no => trivial
      | val d =>
        obtain ⟨v, q1, q2⟩ := z
        exact ⟨v, q1, g.dp _ _ q2⟩
      | own es =>
        obtain ⟨a, ws, q1, q2, q3, q4, q5⟩ := z
        have na : a ≠ p := fun z => by
          subst z
          exact r.sep i j ds es a e hi h1 e1 (by rw [h2, q1])
        exact ⟨a, ws, q1, q2, by rw [upd_ne na]; exact q3, q4, g.dpA _ _ q5⟩
  · have nj : i ≠ j := fun e => by
      subst e
      rw [List.getElem?_set, if_pos rfl] at h1
      split at h1
      · cases h1
      · cases h1
    have nk : i ≠ k := fun e => by
      subst e
      rw [List.getElem?_set, if_pos rfl] at h2
      split at h2
      · cases h2
      · cases h2
    rw [List.getElem?_set_ne nj] at h1
    rw [List.getElem?_set_ne nk] at h2
    exact r.sep j k ds' es q hjk h1 h2 h3
/-- the heap's list at an own slot is written -/
theorem Rs.write {H0 B H : Hp} {σ : L2.St} {i : Nat} {ds es : List D} {p : Addr} {ws : List V} (r : Rs K cs H0 σ B H Γ) (hi : Γ[i]? = some (.own ds)) (hp : σ[i]? = some (some (.ref p))) (hd : DqAll K B ws es) :
    Rs K cs H0 σ B (upd H p (.lst ws)) (Γ.set i (.own es)) := by
  refine ⟨by rw [List.length_set]; exact r.len, fun j s x h1 h2 => ?_, fun j k ds' es' q hjk h1 h2 h3 => ?_, r.tab⟩
  · by_cases e : i = j
    · subst e
      rw [List.getElem?_set, if_pos rfl] at h1
      split at h1
      · cases h1
        rw [hp] at h2
        cases h2
        obtain ⟨a, vs, e1, e2, e3, e4, e5⟩ := r.own hi
        rw [hp] at e1
        cases e1
        exact ⟨p, ws, rfl, e2, e3, upd_same, hd⟩
      · cases h1
    · rw [List.getElem?_set_ne e] at h1
      have z := r.sl j s x h1 h2
      cases s with
      | no => trivial
      | val d => exact z
      | own fs =>
        obtain ⟨a, us, q1, q2, q3, q4, q5⟩ := z
        have na : a ≠ p := fun z => by
          subst z
          exact r.sep i j ds fs a e hi h1 hp (by rw [h2, q1])
        exact ⟨a, us, q1, q2, q3, by rw [upd_ne na]; exact q4, q5⟩
  · have own_ : ∀ {l : Nat} {fs : List D}, (Γ.set i (.own es))[l]? = some (.own fs) → ∃ gs, Γ[l]? = some (.own gs) := fun {l fs} h => by
      by_cases e : i = l
      · subst e
        exact ⟨ds, hi⟩
      · rw [List.getElem?_set_ne e] at h
        exact ⟨fs, h⟩
    obtain ⟨g1, z1⟩ := own_ h1
    obtain ⟨g2, z2⟩ := own_ h2
    exact r.sep j k g1 g2 q hjk z1 z2 h3
/-- xs.append(e) -/
theorem s_app {i : Nat} {ds : List D} (hi : Γ[i]? = some (.own ds)) (hl : ds.length < 100000) (h : Ex K cs te Γ Ra) (k : ∀ d, Ra d → N (Γ.set i (.own (ds ++ [d])))) : Sx K cs (tDrop (tBM K "list" rAppend (tVar i) (tCons te tNil))) Γ N R := fun B0 H0 σ B H st r E q _ => by
  obtain ⟨p, vs, e1, e2, e3, e4, e5⟩ := r.own hi
  refine ⟨.ref p, e1, .inl ⟨rfl, vs, SqL.of e4⟩, ?_⟩
  refine h H0 σ B H r st.v _ fun x B' H' d s1 dp rd => ?_
  have l1 := e5.length
  have e4' : H' p = some (.lst vs) := Gr.lst s1.h e4
  have e3' : B' p = none := s1.hid p e3 (by rw [e4]; simp)
  refine ⟨p, vs, x, rfl, rfl, e4', szlt (by omega), ?_⟩
  have r1 := r.step s1
  exact q _ B' _ _ ((st.trans s1).mut e2 e3') (r1.write hi e1 ((s1.b.dpA _ _ e5).app (.cons dp .nil))) (k d rd)
theorem sd_app {i : Nat} {ds : List D} (hi : Γ[i]? = some (.own ds)) (hl : ds.length < 100000) (h : Xd K cs te Γ d) (k : N (Γ.set i (.own (ds ++ [d])))) : Sx K cs (tDrop (tBM K "list" rAppend (tVar i) (tCons te tNil))) Γ N R := s_app hi hl h fun _ e => by subst e; exact k
/-- xs += ys -/
theorem s_ext {i : Nat} {ds es : List D} (hi : Γ[i]? = some (.own ds)) (h : Xd K cs te Γ (.list es)) (hl : ds.length + es.length ≤ 100000) (k : N (Γ.set i (.own (ds ++ es)))) : Sx K cs (tAug i te rExt2) Γ N R := fun B0 H0 σ B H st r E q _ => by
  obtain ⟨p, vs, e1, e2, e3, e4, e5⟩ := r.own hi
  refine ⟨.ref p, e1, ?_⟩
  refine h H0 σ B H r st.v _ fun x B' H' d s1 dp rd => ?_
  subst rd
  obtain ⟨b, zs, rfl, hb, hz⟩ := dp_list dp
  have l1 := e5.length
  have l2 := hz.length
  have e4' : H' p = some (.lst vs) := Gr.lst s1.h e4
  have e3' : B' p = none := s1.hid p e3 (by rw [e4]; simp)
  refine ⟨p, b, vs, zs, rfl, rfl, e4', Gr.lst s1.v hb, szl (by omega), ?_⟩
  have r1 := r.step s1
  have eσ : σ.set i (some (.ref p)) = σ := by
    have hi2 := (List.getElem?_eq_some_iff.mp e1)
    rw [← hi2.2]
    exact List.set_getElem_self _
  show E.nx (σ.set i (some (.ref p))) _
  rw [eσ]
  exact q _ B' _ _ ((st.trans s1).mut e2 e3') (r1.write hi e1 ((s1.b.dpA _ _ e5).app hz)) k
/-- xs[i] of a list that is being filled -/
theorem x_ixOwn {i : Nat} {ds : List D} {j : Int} {f : D} (hi : Γ[i]? = some (.own ds)) (hj : Xd K cs te Γ (.int j)) (at_ : atI ds j = some f) (k : R f) : Ex K cs (tOp (rIxL K) (tVar i) te) Γ R := fun H0 σ B H r v Q q => by
  obtain ⟨p, vs, e1, e2, e3, e4, e5⟩ := r.own hi
  refine ⟨.ref p, e1, ?_⟩
  refine hj H0 σ B H r v _ fun y B' H' d s1 dp rd => ?_
  subst rd
  obtain ⟨z, hz, dz⟩ := atI_dp (s1.b.dpA _ _ e5) at_
  exact ⟨p, vs, j, z, rfl, dp_int dp, SqL.of (Gr.lst s1.h e4), hz, q _ B' H' _ s1 dz k⟩
/-- len(xs) of such -/
theorem x_lenOwn {i : Nat} {ds : List D} (hi : Γ[i]? = some (.own ds)) (k : R (.int (ds.length : Int))) : Ex K cs (tCB (fun xs H Q => ∃ p ys, xs = [.ref p] ∧ (SqL K H p ys ∨ SqT K H p ys) ∧ Q (.int ys.length) H) (tCons (tVar i) tNil)) Γ R := fun H0 σ B H r v Q q => by
  obtain ⟨p, vs, e1, e2, e3, e4, e5⟩ := r.own hi
  refine ⟨.ref p, e1, p, vs, rfl, .inl (SqL.of e4), ?_⟩
  rw [e5.length]
  exact q _ B H _ (.refl v) (.int _) k
/-- x += e (ints), x //= e -/
theorem s_augI {i : Nat} {f : Int → Int → Int} {a b : Int} (hi : Γ[i]? = some (.val (.int a))) (h : Xd K cs te Γ (.int b)) (k : N (Γ.set i (.val (.int (f a b))))) : Sx K cs (tAug i te (ipI f)) Γ N R := fun B0 H0 σ B H st r E q _ => by
  obtain ⟨x, e1, dx⟩ := r.val hi
  cases dp_int dx
  refine ⟨.int a, e1, ?_⟩
  refine h H0 σ B H r st.v _ fun y B' H' d s1 dp rd => ?_
  subst rd
  cases dp_int dp
  exact ⟨a, b, rfl, rfl, q _ B' H' _ (st.trans s1) ((r.step s1).set (.int _)) k⟩
theorem s_augC {i : Nat} {C : Int → Int → Prop} {f : Int → Int → Int} {a b : Int} (hi : Γ[i]? = some (.val (.int a))) (h : Xd K cs te Γ (.int b)) (c : C a b) (k : N (Γ.set i (.val (.int (f a b))))) : Sx K cs (tAug i te (rI C fun i j => .int (f i j))) Γ N R := fun B0 H0 σ B H st r E q _ => by
  obtain ⟨x, e1, dx⟩ := r.val hi
  cases dp_int dx
  refine ⟨.int a, e1, ?_⟩
  refine h H0 σ B H r st.v _ fun y B' H' d s1 dp rd => ?_
  subst rd
  cases dp_int dp
  exact ⟨a, b, rfl, rfl, c, q _ B' H' _ (st.trans s1) ((r.step s1).set (.int _)) k⟩
end
end Rt
set_option Elab.async false
set_option linter.all false
set_option maxRecDepth 100000
set_option maxHeartbeats 4000000
/-! The rules of the layer over data: what is walked, loops, comprehensions, generator expressions, a def's entry. -/
namespace Rt
open PySem PySem.Spec PyProof.Rows L2 GxR Gx RZ

section
variable {K : PySem.W.Frag} {cs : List Addr} {Γ : Gm} {R Ra Rb : D → Prop} {N : Gm → Prop} {ta tb te : TE} {t u : TS} {d e : D}
/-! ### what is walked -/
structure ItD (K : PySem.W.Frag) (J : It) (B : Hp) (ds : List D) : Prop where
  go : ∀ (i : Nat) (B1 H1 : Hp), Gr B B1 → Gr B1 H1 → i < ds.length → J.go i H1
  yld : ∀ (i : Nat) (d : D) (B1 H1 : Hp) (x : V) (H2 : Hp), Gr B B1 → Gr B1 H1 → ds[i]? = some d → J.yld i H1 x H2 → ∃ B2, Stp B1 H1 B2 H2 ∧ Dq K B2 x d
  stop : ∀ (i : Nat) (B1 H1 : Hp), Gr B B1 → Gr B1 H1 → ds.length ≤ i → J.stop i H1
theorem ItD.grow {J : It} {B B' : Hp} {ds : List D} (h : ItD K J B ds) (g : Gr B B') : ItD K J B' ds :=
  ⟨fun i B1 H1 a b c => h.go i B1 H1 (g.trans a) b c, fun i d B1 H1 x H2 a b c y => h.yld i d B1 H1 x H2 (g.trans a) b c y, fun i B1 H1 a b c => h.stop i B1 H1 (g.trans a) b c⟩
theorem itd_list {B : Hp} {a : Addr} {xs : List V} {ds : List D} (h : B a = some (.lst xs)) (hd : DqAll K B xs ds) : ItD K (Itl K a) B ds := by
  refine ⟨fun i B1 H1 g1 g2 hi => ?_, fun i d B1 H1 x H2 g1 g2 hi y => ?_, fun i B1 H1 g1 g2 hi => ?_⟩
  · obtain ⟨v, hv, _⟩ := hd.get (List.getElem?_eq_getElem hi)
    exact ⟨xs, v, SqL.of ((g1.trans g2).lst h), hv⟩
  · obtain ⟨rfl, y⟩ := y
    obtain ⟨v, hv, dv⟩ := hd.get hi
    have e := y xs (SqL.of ((g1.trans g2).lst h))
    rw [hv] at e
    cases e
    exact ⟨B1, .refl g2, g1.dp d _ dv⟩
  · exact ⟨xs, SqL.of ((g1.trans g2).lst h), by rw [hd.length]; exact hi⟩
theorem itd_tup {B : Hp} {a : Addr} {xs : List V} {ds : List D} (h : SqT K B a xs) (hd : DqAll K B xs ds) : ItD K (Itt K a) B ds := by
  refine ⟨fun i B1 H1 g1 g2 hi => ?_, fun i d B1 H1 x H2 g1 g2 hi y => ?_, fun i B1 H1 g1 g2 hi => ?_⟩
  · obtain ⟨v, hv, _⟩ := hd.get (List.getElem?_eq_getElem hi)
    exact ⟨xs, v, (g1.trans g2).seqT h, hv⟩
  · obtain ⟨rfl, y⟩ := y
    obtain ⟨v, hv, dv⟩ := hd.get hi
    have e := y xs ((g1.trans g2).seqT h)
    rw [hv] at e
    cases e
    exact ⟨B1, .refl g2, g1.dp d _ dv⟩
  · exact ⟨xs, (g1.trans g2).seqT h, by rw [hd.length]; exact hi⟩
def rngD (lo : Int) (n : Nat) : List D := (List.range n).map fun (i : Nat) => PyData.int (lo + (i : Int))
theorem rngD_length (lo : Int) (n : Nat) : (rngD lo n).length = n := by simp [rngD]
theorem rngD_get {lo : Int} {n i : Nat} {d : D} (h : (rngD lo n)[i]? = some d) : i < n ∧ d = .int (lo + (i : Int)) := by
  unfold rngD at h
  rw [List.getElem?_map] at h
  have hi : i < n := by
    cases e : (List.range n)[i]? with
    | none =>
      rw [e] at h
      cases h
    | some j =>
      have := (List.getElem?_eq_some_iff.mp e).1
      simpa using this
  rw [List.getElem?_range hi] at h
  exact ⟨hi, (Option.some.inj h).symm⟩
theorem itd_range {B : Hp} {lo : Int} {n : Nat} : ItD K (Itr lo n) B (rngD lo n) := by
  refine ⟨fun i B1 H1 g1 g2 hi => ?_, fun i d B1 H1 x H2 g1 g2 hi y => ?_, fun i B1 H1 g1 g2 hi => ?_⟩
  · rw [rngD_length] at hi
    exact hi
  · obtain ⟨rfl, rfl⟩ := y
    obtain ⟨_, rfl⟩ := rngD_get hi
    exact ⟨B1, .refl g2, .int _⟩
  · rw [rngD_length] at hi
    exact hi
def enumD (ds : List D) : List D := ds.mapIdx fun i d => .tuple [.int (i : Int), d]
theorem enumD_length (ds : List D) : (enumD ds).length = ds.length := by simp [enumD]
theorem enumD_get {ds : List D} {i : Nat} {d : D} (h : (enumD ds)[i]? = some d) : ∃ e, ds[i]? = some e ∧ d = .tuple [.int (i : Int), e] := by
  unfold enumD at h
  rw [List.getElem?_mapIdx] at h
  cases e : ds[i]? with
  | none =>
    rw [e] at h
    cases h
  | some x =>
    rw [e] at h
    exact ⟨x, rfl, (Option.some.inj h).symm⟩
theorem itd_enum {B : Hp} {a : Addr} {xs : List V} {ds : List D} (h : B a = some (.lst xs)) (hd : DqAll K B xs ds) : ItD K (Ite K a) B (enumD ds) := by
  refine ⟨fun i B1 H1 g1 g2 hi => ?_, fun i d B1 H1 x H2 g1 g2 hi y => ?_, fun i B1 H1 g1 g2 hi => ?_⟩
  · rw [enumD_length] at hi
    obtain ⟨v, hv, _⟩ := hd.get (List.getElem?_eq_getElem hi)
    exact ⟨xs, v, SqL.of ((g1.trans g2).lst h), hv⟩
  · obtain ⟨T, y, rfl, nT, rfl, hy⟩ := y
    obtain ⟨e, he, rfl⟩ := enumD_get hi
    obtain ⟨v, hv, dv⟩ := hd.get he
    have q := hy xs (SqL.of ((g1.trans g2).lst h))
    rw [hv] at q
    cases q
    refine ⟨_, Stp.new g2 nT, .tup (SqT.of upd_same) (.cons (.int _) (.cons ?_ .nil))⟩
    exact (g1.trans (.new (g2.none nT))).dp e _ dv
  · rw [enumD_length] at hi
    exact ⟨xs, SqL.of ((g1.trans g2).lst h), by rw [hd.length]; exact hi⟩
def zipD (ds es : List D) : List D := List.zipWith (fun d e => .tuple [d, e]) ds es
theorem zipD_get {ds es : List D} {i : Nat} {d : D} (h : (zipD ds es)[i]? = some d) : ∃ x y, ds[i]? = some x ∧ es[i]? = some y ∧ d = .tuple [x, y] := by
  unfold zipD at h
  rw [List.getElem?_zipWith] at h
  cases e1 : ds[i]? with
  | none =>
    rw [e1] at h
    cases h
  | some x =>
    cases e2 : es[i]? with
    | none =>
      rw [e1, e2] at h
      cases h
    | some y =>
      rw [e1, e2] at h
      exact ⟨x, y, rfl, rfl, (Option.some.inj h).symm⟩
theorem itd_zipT {B : Hp} {a b : Addr} {xs ys : List V} {ds es : List D} (h : SqT K B a xs) (hd : DqAll K B xs ds) (h' : SqT K B b ys) (he : DqAll K B ys es) : ItD K (ItzT K a b) B (zipD ds es) := by
  have hl : (zipD ds es).length = min ds.length es.length := by simp [zipD]
  refine ⟨fun i B1 H1 g1 g2 hi => ?_, fun i d B1 H1 x H2 g1 g2 hi y => ?_, fun i B1 H1 g1 g2 hi => ?_⟩
  · rw [hl] at hi
    obtain ⟨v, hv, _⟩ := hd.get (List.getElem?_eq_getElem (show i < ds.length by omega))
    obtain ⟨w, hw, _⟩ := he.get (List.getElem?_eq_getElem (show i < es.length by omega))
    exact ⟨xs, ys, v, w, (g1.trans g2).seqT h, (g1.trans g2).seqT h', hv, hw⟩
  · obtain ⟨T, y, z, rfl, nT, rfl, hy, hz⟩ := y
    obtain ⟨d1, d2, q1, q2, rfl⟩ := zipD_get hi
    obtain ⟨v, hv, dv⟩ := hd.get q1
    obtain ⟨w, hw, dw⟩ := he.get q2
    have r1 := hy xs ((g1.trans g2).seqT h)
    have r2 := hz ys ((g1.trans g2).seqT h')
    rw [hv] at r1
    rw [hw] at r2
    cases r1
    cases r2
    have g3 := g1.trans (Gr.new (o := .tup [y, z]) (g2.none nT))
    exact ⟨_, Stp.new g2 nT, .tup (SqT.of upd_same) (.cons (g3.dp d1 _ dv) (.cons (g3.dp d2 _ dw) .nil))⟩
  · rw [hl] at hi
    exact ⟨xs, ys, (g1.trans g2).seqT h, (g1.trans g2).seqT h', by rw [hd.length, he.length]; omega⟩
/-- what is walked gives the data ds, one after another -/
def Ix (K : PySem.W.Frag) (cs : List Addr) (wi : TI) (Γ : Gm) (Rl : List D → Prop) : Prop := ∀ (H0 : Hp) (σ : L2.St) (B H : Hp), Rs K cs H0 σ B H Γ → Gr B H → ∀ Q : It → Hp → Prop, (∀ J B' H' ds, Stp B H B' H' → ItD K J B' ds → Rl ds → Q J H') → wi σ H Q
theorem ix_list {Rl : List D → Prop} (h : Ex K cs te Γ Ra) (k : ∀ d, Ra d → ∃ ds, d = .list ds ∧ Rl ds) : Ix K cs (iList K te) Γ Rl := fun H0 σ B H r v Q q => h H0 σ B H r v _ fun x B1 H1 d st dp rd => by
  obtain ⟨ds, rfl, k⟩ := k d rd
  obtain ⟨a, xs, rfl, hs, ha⟩ := dp_list dp
  exact ⟨a, rfl, ⟨xs, SqL.of (Gr.lst st.v hs)⟩, q _ B1 H1 ds st (itd_list hs ha) k⟩
theorem ix_tup {Rl : List D → Prop} (h : Ex K cs te Γ Ra) (k : ∀ d, Ra d → ∃ ds, d = .tuple ds ∧ Rl ds) : Ix K cs (iTup K te) Γ Rl := fun H0 σ B H r v Q q => h H0 σ B H r v _ fun x B1 H1 d st dp rd => by
  obtain ⟨ds, rfl, k⟩ := k d rd
  obtain ⟨a, xs, rfl, hs, ha⟩ := dp_tup dp
  exact ⟨a, rfl, ⟨xs, st.v.seqT hs⟩, q _ B1 H1 ds st (itd_tup hs ha) k⟩
theorem ixd_list {ds : List D} (h : Xd K cs te Γ (.list ds)) : Ix K cs (iList K te) Γ (Eq ds) := ix_list h fun _ e => by subst e; exact ⟨ds, rfl, rfl⟩
theorem ixd_tup {ds : List D} (h : Xd K cs te Γ (.tuple ds)) : Ix K cs (iTup K te) Γ (Eq ds) := ix_tup h fun _ e => by subst e; exact ⟨ds, rfl, rfl⟩
theorem ixd_rng1 {ta : TA} {j : Int} (h : Ad K cs ta Γ [.int j]) (h1 : -1000000 ≤ j) (h2 : j ≤ 1000000) : Ix K cs (iRng1 ta) Γ (Eq (rngD 0 j.toNat)) := fun H0 σ B H r v Q q => h H0 σ B H r v _ fun xs B1 H1 ds st dp rd => by
  subst rd
  obtain ⟨x, rfl, hx⟩ := dpa1 dp
  cases dp_int hx
  exact ⟨j, rfl, by omega, by omega, q _ B1 H1 _ st itd_range rfl⟩
theorem ixd_rng2 {ta : TA} {i j : Int} (h : Ad K cs ta Γ [.int i, .int j]) (h1 : -1000000 ≤ i) (h2 : i ≤ 1000000) (h3 : -1000000 ≤ j) (h4 : j ≤ 1000000) : Ix K cs (iRng2 ta) Γ (Eq (rngD i (j - i).toNat)) := fun H0 σ B H r v Q q => h H0 σ B H r v _ fun xs B1 H1 ds st dp rd => by
  subst rd
  obtain ⟨x, y, rfl, hx, hy⟩ := dqa2 dp
  cases dp_int hx
  cases dp_int hy
  exact ⟨i, j, rfl, by omega, q _ B1 H1 _ st itd_range rfl⟩
theorem ixd_enum {ta : TA} {ds : List D} (h : Ad K cs ta Γ [.list ds]) : Ix K cs (iEnum K ta) Γ (Eq (enumD ds)) := fun H0 σ B H r v Q q => h H0 σ B H r v _ fun xs B1 H1 es st dp rd => by
  subst rd
  obtain ⟨x, rfl, hx⟩ := dpa1 dp
  obtain ⟨a, ys, rfl, hs, ha⟩ := dp_list hx
  exact ⟨a, ys, rfl, SqL.of (Gr.lst st.v hs), q _ B1 H1 _ st (itd_enum hs ha) rfl⟩
theorem ixd_zipT {ta : TA} {ds es : List D} (h : Ad K cs ta Γ [.tuple ds, .tuple es]) : Ix K cs (iZipA K ta) Γ (Eq (zipD ds es)) := fun H0 σ B H r v Q q => h H0 σ B H r v _ fun xs B1 H1 fs st dp rd => by
  subst rd
  obtain ⟨x, y, rfl, hx, hy⟩ := dqa2 dp
  obtain ⟨a, zs, rfl, hs, ha⟩ := dp_tup hx
  obtain ⟨b, ws, rfl, ht, hb⟩ := dp_tup hy
  exact ⟨a, b, zs, ws, rfl, .inr ⟨st.v.seqT hs, st.v.seqT ht, q _ B1 H1 _ st (itd_zipT hs ha ht hb) rfl⟩⟩

/-! ### for -/
theorem s_for {wi : TI} {g : TG} {js : List Nat} {f : D → Option (List D)} {Rl : List D → Prop} (hi : Ix K cs wi Γ Rl) (hg : Tg K g js f)
    (h : ∀ ds, Rl ds → ∃ P : Nat → Gm → Prop, P 0 Γ ∧ (∀ i d Γ', ds[i]? = some d → P i Γ' → ∃ es, f d = some es ∧ Sx K cs t (setG Γ' js es) (P (i + 1)) R) ∧ ∀ Γ', P ds.length Γ' → N Γ') : Sx K cs (tFor wi g t) Γ N R := fun B0 H0 σ B H st r E q1 q2 => by
  refine hi H0 σ B H r st.v _ fun J B1 H1 ds s1 it rl => ?_
  obtain ⟨P, p0, hs, hd⟩ := h ds rl
  refine ⟨fun i m σ' H' => m = ds.length - i ∧ i ≤ ds.length ∧ ∃ B' Γ', Gr B1 B' ∧ Stp B0 H0 B' H' ∧ Rs K cs H0 σ' B' H' Γ' ∧ P i Γ', ⟨ds.length, rfl, Nat.zero_le _, B1, Γ, .refl _, st.trans s1, r.step s1, p0⟩, ?_⟩
  rintro i m σ' H' ⟨rfl, hle, B', Γ', g1, s2, r2, p⟩
  by_cases hlt : i < ds.length
  · refine .inr ⟨it.go i B' H' g1 s2.v hlt, fun σ3 H3 => ∃ B3 Γ3, Gr B1 B3 ∧ Stp B0 H0 B3 H3 ∧ Rs K cs H0 σ3 B3 H3 Γ3 ∧ P (i + 1) Γ3, fun σ3 H3 z => ⟨ds.length - (i + 1), by omega, rfl, hlt, z⟩, fun x H2 y => ?_⟩
    obtain ⟨B2, s3, dx⟩ := it.yld i _ B' H' x H2 g1 s2.v (List.getElem?_eq_getElem hlt) y
    obtain ⟨es, ef, hb⟩ := hs i _ Γ' (List.getElem?_eq_getElem hlt) p
    obtain ⟨vs, dv, go⟩ := hg x σ' B2 H2 _ es s3.v dx ef
    have stp := s2.trans s3
    have hgoal := hb B0 H0 (setS σ' js vs) B2 H2 stp ((r2.step s3).setL dv)
    -- the body, with the base that has grown
    have key : Sx K cs t (setG Γ' js es) (P (i + 1)) R := hb
    refine go _ ?_
    -- run the body from (B2, H2) as its entry's extension
    have hrun : ∀ E' : Ends, (∀ σ4 B4 H4 Γ4, Stp B0 H0 B4 H4 → Gr B2 B4 → Rs K cs H0 σ4 B4 H4 Γ4 → P (i + 1) Γ4 → E'.nx σ4 H4) → (∀ v B4 H4 d, Stp B0 H0 B4 H4 → Dq K B4 v d → R d → E'.rt v H4) → t E' (setS σ' js vs) H2 := fun E' k1 k2 => by
      -- the entry's B0 is replaced by B2: what is told is told of B2's extensions, and so of B0's
      have st' : Stp B2 H0 B2 H2 := ⟨.refl _, stp.h, stp.v, fun _ e _ => e⟩
      refine hb B2 H0 (setS σ' js vs) B2 H2 st' ((r2.step s3).setL dv) E' (fun σ4 B4 H4 Γ4 s4 r4 p4 => ?_) fun v B4 H4 d s4 d4 rd => ?_
      · exact k1 σ4 B4 H4 Γ4 ⟨stp.b.trans s4.b, s4.h, s4.v, fun a e n => s4.hid a (stp.hid a e n) n⟩ s4.b r4 p4
      · exact k2 v B4 H4 d ⟨stp.b.trans s4.b, s4.h, s4.v, fun a e n => s4.hid a (stp.hid a e n) n⟩ d4 rd
    exact hrun _ (fun σ4 B4 H4 Γ4 s4 g4 r4 p4 => ⟨B4, Γ4, (g1.trans s3.b).trans g4, s4, r4, p4⟩) fun v B4 H4 d s4 d4 rd => q2 v B4 H4 d s4 d4 rd
  · have e : i = ds.length := by omega
    subst e
    exact .inl ⟨it.stop _ B' H' g1 s2.v (Nat.le_refl _), q1 σ' B' H' Γ' s2 r2 (hd Γ' p)⟩
theorem sd_for {wi : TI} {g : TG} {js : List Nat} {f : D → Option (List D)} {ds : List D} (hi : Ix K cs wi Γ (Eq ds)) (hg : Tg K g js f) (P : Nat → Gm → Prop) (h0 : P 0 Γ)
    (hs : ∀ i d Γ', ds[i]? = some d → P i Γ' → ∃ es, f d = some es ∧ Sx K cs t (setG Γ' js es) (P (i + 1)) R) (hd : ∀ Γ', P ds.length Γ' → N Γ') : Sx K cs (tFor wi g t) Γ N R :=
  s_for hi hg fun _ e => by subst e; exact ⟨P, h0, hs, hd⟩

/-! ### while -/
theorem s_while {c : TT} (W : Nat → Gm → Prop) (m0 : Nat) (h0 : W m0 Γ) (h : ∀ m Γ', W m Γ' → ∃ P : Bool → Prop, Tx K cs c Γ' P ∧ (P true → Sx K cs t Γ' (fun Γ'' => ∃ m', m' < m ∧ W m' Γ'') R) ∧ (P false → N Γ')) : Sx K cs (tWhile c t) Γ N R := fun B0 H0 σ B H st r E q1 q2 => by
  refine ⟨fun m σ' H' => ∃ B' Γ', Stp B0 H0 B' H' ∧ Rs K cs H0 σ' B' H' Γ' ∧ W m Γ', ⟨m0, B, Γ, st, r, h0⟩, ?_⟩
  rintro m σ' H' ⟨B', Γ', s1, r1, w⟩
  obtain ⟨P, hc, ht, hf⟩ := h m Γ' w
  refine hc H0 σ' B' H' r1 s1.v _ fun b B2 H2 s2 pb => ?_
  cases b with
  | true =>
    show ∃ N' : L2.St → Hp → Prop, _ ∧ _
    refine ⟨fun σ3 H3 => ∃ m', m' < m ∧ ∃ B' Γ', Stp B0 H0 B' H3 ∧ Rs K cs H0 σ3 B' H3 Γ' ∧ W m' Γ', fun σ3 H3 z => z, ?_⟩
    exact ht pb B0 H0 σ' B2 H2 (s1.trans s2) (r1.step s2) _ (fun σ3 B3 H3 Γ3 s3 r3 ⟨m', hm, w3⟩ => ⟨m', hm, B3, Γ3, s3, r3, w3⟩) q2
  | false =>
    show E.nx σ' H2
    exact q1 σ' B2 H2 Γ' (s1.trans s2) (r1.step s2) (hf pb)

/-! ### comprehensions -/
theorem wipe_get : ∀ (vs : List Nat) (σ : L2.St) (i : Nat), i ∉ vs → (wipe σ vs)[i]? = σ[i]?
  | [], _, _, _ => rfl
  | v :: vs, σ, i, h => by
    show ((wipe σ vs).set v none)[i]? = _
    rw [List.getElem?_set_ne (fun e => h (by rw [e]; exact List.mem_cons_self)), wipe_get vs σ i fun z => h (List.mem_cons_of_mem _ z)]
theorem wipe_in : ∀ (vs : List Nat) (σ : L2.St) (i : Nat), i ∈ vs → i < σ.length → (wipe σ vs)[i]? = some none
  | [], _, _, h, _ => by cases h
  | v :: vs, σ, i, h, hl => by
    show ((wipe σ vs).set v none)[i]? = _
    by_cases e : v = i
    · subst e
      rw [List.getElem?_set, if_pos rfl, if_pos (by rw [wipe_length]; exact hl)]
    · rw [List.getElem?_set_ne e]
      rcases List.mem_cons.mp h with z | z
      · exact absurd z.symm e
      · exact wipe_in vs σ i z hl
theorem setS_length : ∀ (js : List Nat) (xs : List V) (σ : L2.St), (setS σ js xs).length = σ.length
  | [], _, _ => by unfold setS; rfl
  | _ :: _, [], _ => by unfold setS; rfl
  | j :: js, x :: xs, σ => by
    show (setS (σ.set j (some x)) js xs).length = _
    rw [setS_length js xs, List.length_set]
theorem setS_get : ∀ (js : List Nat) (xs : List V) (σ : L2.St) (i : Nat), i ∉ js → (setS σ js xs)[i]? = σ[i]?
  | [], _, _, _, _ => by unfold setS; rfl
  | _ :: _, [], _, _, _ => by unfold setS; rfl
  | j :: js, x :: xs, σ, i, h => by
    show (setS (σ.set j (some x)) js xs)[i]? = _
    rw [setS_get js xs _ i (fun z => h (List.mem_cons_of_mem _ z)), List.getElem?_set_ne (fun e => h (by rw [e]; exact List.mem_cons_self))]
theorem wipe_setS {vs js : List Nat} {xs : List V} {σ : L2.St} (hv : ∀ j ∈ js, j ∈ vs) : wipe (setS (wipe σ vs) js xs) vs = wipe σ vs := by
  refine List.ext_getElem? fun i => ?_
  by_cases h : i ∈ vs
  · by_cases hl : i < σ.length
    · rw [wipe_in vs σ i h hl, wipe_in vs _ i h (by rw [setS_length, wipe_length]; exact hl)]
    · rw [List.getElem?_eq_none (by rw [wipe_length, setS_length, wipe_length]; omega), List.getElem?_eq_none (by rw [wipe_length]; omega)]
  · rw [wipe_get vs _ i h, setS_get js xs _ i (fun z => h (hv i z))]
theorem Rs.wipe {H0 B H : Hp} {σ : L2.St} {vs : List Nat} (r : Rs K cs H0 σ B H Γ) : Rs K cs H0 (L2.wipe σ vs) B H (clr Γ vs) := by
  have key : ∀ (i : Nat) (s : Sl), (clr Γ vs)[i]? = some s → s = .no ∨ (Γ[i]? = some s ∧ (L2.wipe σ vs)[i]? = σ[i]?) := fun i s h => by
    rcases clr_get vs Γ i s h with q | ⟨q, hn⟩
    · exact .inl q
    · exact .inr ⟨q, wipe_get vs σ i hn⟩
  refine ⟨by rw [wipe_length, clr_length]; exact r.len, fun i s x h1 h2 => ?_, fun i j ds es p hij h1 h2 h3 => ?_, r.tab⟩
  · rcases key i s h1 with rfl | ⟨q, e⟩
    · trivial
    · exact r.sl i s x q (e ▸ h2)
  · rcases key i _ h1 with z | ⟨q, e⟩
    · cases z
    · rcases key j _ h2 with z | ⟨q', e'⟩
      · cases z
      · rw [e']
        exact r.sep i j ds es p hij q q' (e ▸ h3)
theorem x_lc {wi : TI} {g : TG} {js vs : List Nat} {f : D → Option (List D)} {tt : TT} {Rl : List D → Prop} (hi : Ix K cs wi Γ Rl) (hg : Tg K g js f) (hv : ∀ j ∈ js, j ∈ vs)
    (h : ∀ ds, Rl ds → ds.length ≤ 90000 ∧ ∃ T : List D → List D → Prop, T [] [] ∧ (∀ i d acc, ds[i]? = some d → T (ds.take i) acc → ∃ es, f d = some es ∧ ∃ Pt : Bool → Prop, Tx K cs tt (setG (clr Γ vs) js es) Pt ∧
      (Pt true → Ex K cs te (setG (clr Γ vs) js es) fun r => T (ds.take (i + 1)) (acc ++ [r])) ∧ (Pt false → T (ds.take (i + 1)) acc)) ∧ ∀ rs, T ds rs → R (.list rs)) : Ex K cs (tLc wi g tt te vs) Γ R := fun H0 σ B H r v Q q => by
  refine hi H0 σ B H r v _ fun J B1 H1 ds s1 it rl => ?_
  obtain ⟨hlen, T, t0, hs, hd⟩ := h ds rl
  intro Dl hD
  have r1 := r.step s1
  have nB : B1 Dl = none := s1.v.none hD
  refine ⟨fun i m H' => m = ds.length - i ∧ i ≤ ds.length ∧ ∃ B' acc rs, Stp B1 H1 B' H' ∧ B' Dl = none ∧ H' Dl = some (.lst acc) ∧ DqAll K B' acc rs ∧ T (ds.take i) rs ∧ acc.length ≤ i,
    ⟨ds.length, rfl, Nat.zero_le _, B1, [], [], (Stp.refl s1.v).hide hD, nB, upd_same, .nil, t0, Nat.le_refl _⟩, ?_⟩
  rintro i m H' ⟨rfl, hle, B', acc, rs, s2, nB2, eD, dq, ti, al⟩
  by_cases hlt : i < ds.length
  · refine .inr ⟨it.go i B' H' s2.b s2.v hlt, fun H3 => ∃ B' acc rs, Stp B1 H1 B' H3 ∧ B' Dl = none ∧ H3 Dl = some (.lst acc) ∧ DqAll K B' acc rs ∧ T (ds.take (i + 1)) rs ∧ acc.length ≤ i + 1,
      fun H3 z => ⟨ds.length - (i + 1), by omega, rfl, hlt, z⟩, fun x H2 y => ?_⟩
    obtain ⟨B2, s3, dx⟩ := it.yld i _ B' H' x H2 s2.b s2.v (List.getElem?_eq_getElem hlt) y
    obtain ⟨es, ef, Pt, htt, he, hno⟩ := hs i _ rs (List.getElem?_eq_getElem hlt) ti
    obtain ⟨ws, dv, go⟩ := hg x (L2.wipe σ vs) B2 H2 _ es s3.v dx ef
    refine go _ ?_
    have nB3 : B2 Dl = none := s3.hid Dl nB2 (by rw [eD]; simp)
    have eD3 : H2 Dl = some (.lst acc) := s3.h.lst eD
    -- the slots hold what they held
    have stp13 : Stp B1 H1 B2 H2 := s2.trans s3
    have r3 : Rs K cs H0 (L2.wipe σ vs) B2 H2 (clr Γ vs) := (r1.step stp13).wipe
    refine ⟨wipe_setS hv, ?_⟩
    refine htt H0 _ B2 H2 (r3.setL dv) s3.v _ fun b B4 H4 s4 pb => ?_
    have nB4 : B4 Dl = none := s4.hid Dl nB3 (by rw [eD3]; simp)
    have eD4 : H4 Dl = some (.lst acc) := s4.h.lst eD3
    have d4 : DqAll K B4 acc rs := (s3.b.trans s4.b).dpA _ _ dq
    cases b with
    | true =>
      show te _ H4 _
      refine he pb H0 _ B4 H4 ((r3.setL dv).step s4) s4.v _ fun y B5 H5 d s5 dy ty => ?_
      have nB5 : B5 Dl = none := s5.hid Dl nB4 (by rw [eD4]; simp)
      have eD5 : H5 Dl = some (.lst acc) := s5.h.lst eD4
      refine ⟨acc, eD5, szlt (by omega), B5, acc ++ [y], rs ++ [d], ((stp13.trans s4).trans s5).mut hD nB5, nB5, upd_same, (s5.b.dpA _ _ d4).app (.cons dy .nil), ty, by rw [List.length_append]; show acc.length + 1 ≤ i + 1; omega⟩
    | false =>
      show ∃ B' acc rs, _
      exact ⟨B4, acc, rs, stp13.trans s4, nB4, eD4, d4, hno pb, by omega⟩
  · have e : i = ds.length := by omega
    subst e
    rw [List.take_length] at ti
    refine .inl ⟨it.stop _ B' H' s2.b s2.v (Nat.le_refl _), ?_⟩
    have s5 := s2.show hD nB2 eD
    exact q _ _ H' _ (s1.trans s5) (.lst upd_same ((Gr.new nB2).dpA _ _ dq)) (hd rs ti)
theorem t_yes {P : Bool → Prop} (k : P true) : Tx K cs tYes Γ P := fun _ _ B H _ v _ q => q true B H (.refl v) k
/-- told by a test p and an element r of each -/
theorem xd_lc {wi : TI} {g : TG} {js vs : List Nat} {f : D → Option (List D)} {tt : TT} {ds : List D} (p : D → Bool) (r : D → D) (hi : Ix K cs wi Γ (Eq ds)) (hg : Tg K g js f) (hv : ∀ j ∈ js, j ∈ vs) (hl : ds.length ≤ 90000)
    (h : ∀ d ∈ ds, ∃ es, f d = some es ∧ Td K cs tt (setG (clr Γ vs) js es) (p d) ∧ (p d = true → Xd K cs te (setG (clr Γ vs) js es) (r d))) (k : R (.list ((ds.filter p).map r))) : Ex K cs (tLc wi g tt te vs) Γ R := by
  refine x_lc hi hg hv fun _ e => ?_
  subst e
  refine ⟨hl, fun pre acc => acc = (pre.filter p).map r, rfl, fun i d acc hd ha => ?_, fun rs e => by subst e; exact k⟩
  obtain ⟨es, ef, ht, he⟩ := h d (List.mem_of_getElem? hd)
  have tk : ds.take (i + 1) = ds.take i ++ [d] := by rw [List.take_add_one, hd]; rfl
  refine ⟨es, ef, fun b => p d = b, ht, fun pt => (he pt).mono fun z ez => ?_, fun pf => ?_⟩
  · subst ez ha
    rw [tk, List.filter_append, List.map_append, List.filter_cons, if_pos pt] <;> rfl
  · subst ha
    rw [tk, List.filter_append, List.map_append, List.filter_cons, if_neg (by rw [pf]; decide)]
    show _ = _ ++ []
    rw [List.append_nil]
theorem xd_map {wi : TI} {g : TG} {js vs : List Nat} {f : D → Option (List D)} {ds : List D} (r : D → D) (hi : Ix K cs wi Γ (Eq ds)) (hg : Tg K g js f) (hv : ∀ j ∈ js, j ∈ vs) (hl : ds.length ≤ 90000)
    (h : ∀ d ∈ ds, ∃ es, f d = some es ∧ Xd K cs te (setG (clr Γ vs) js es) (r d)) (k : R (.list (ds.map r))) : Ex K cs (tLc wi g tYes te vs) Γ R := by
  refine xd_lc (fun _ => true) r hi hg hv hl (fun d hd => ?_) ?_
  · obtain ⟨es, ef, he⟩ := h d hd
    exact ⟨es, ef, t_yes rfl, fun _ => he⟩
  · rw [List.filter_eq_self.mpr fun _ _ => rfl]
    exact k

/-! ### generator expressions -/
def gslG (cap : List (Option Nat)) (Γ : Gm) : Gm := cap.map fun o => match o with
  | some j => (match Γ[j]? with
    | some (.val d) => .val d
    | _ => .no)
  | none => .no
theorem Rs.gsl {H0 B H : Hp} {σ : L2.St} {cap : List (Option Nat)} (r : Rs K cs H0 σ B H Γ) : Rs K cs H0 (Gx.gsl cap σ) B H (gslG cap Γ) := by
  have noown : ∀ {i : Nat} {ds : List D}, (gslG cap Γ)[i]? ≠ some (.own ds) := fun {i ds} h => by
    unfold gslG at h
    rw [List.getElem?_map] at h
    cases e : cap[i]? with
    | none =>
      rw [e] at h
      cases h
    | some o =>
      rw [e] at h
      cases o with
      | none => cases h
      | some j =>
        have h2 : (match Γ[j]? with
          | some (.val d) => Sl.val d
          | _ => .no) = .own ds := Option.some.inj h
        split at h2 <;> cases h2
  refine ⟨by unfold Gx.gsl gslG; simp, fun i s x h1 h2 => ?_, fun i j ds es p hij h1 => absurd h1 noown, r.tab⟩
  unfold gslG at h1
  unfold Gx.gsl at h2
  rw [List.getElem?_map] at h1 h2
  cases e : cap[i]? with
  | none =>
    rw [e] at h1
    cases h1
  | some o =>
    rw [e] at h1 h2
    cases o with
    | none =>
      cases h1
      trivial
    | some j =>
      have h3 : (match Γ[j]? with
        | some (.val d) => Sl.val d
        | _ => .no) = s := Option.some.inj h1
      split at h3
      · rename_i d hd
        subst h3
        obtain ⟨v, ev, dv⟩ := r.val hd
        refine ⟨v, ?_, dv⟩
        have h4 : Gx.slot1 σ (some j) = x := Option.some.inj h2
        rw [← h4]
        unfold Gx.slot1
        show (match σ[j]? with
          | some v => v
          | none => none) = some v
        rw [ev]
      · subst h3
        trivial
theorem Rs.tabbed {H0 B H H2 : Hp} {σ : L2.St} {P : Addr} (hP : P ∈ cs) (r : Rs K cs H0 σ B H Γ) (v : Gr B H) (t : Tabbed P H H2) : ∃ B2, Stp B H B2 H2 := Stp.tab v (r.tab P hP) t
/-- all(..), any(..) over data: go is the answer that goes on; Pb d b: b may be the answer at d -/
theorem x_gen {P : Addr} {cap : List (Option Nat)} {wi : TI} {g : TG} {js : List Nat} {f : D → Option (List D)} {go : Bool} {Rl : List D → Prop} (hP : P ∈ cs) (hi : Ix K cs wi Γ Rl) (hg : Tg K g js f)
    (h : ∀ ds, Rl ds → ∃ Pb : D → Bool → Prop, (∀ d ∈ ds, ∃ es, f d = some es ∧ Ex K cs te (setG (clr (gslG cap Γ) js) js es) fun r => ∃ b, r = .bool b ∧ Pb d b) ∧ ((∀ d ∈ ds, Pb d go) → R (.bool go)) ∧ ∀ d ∈ ds, Pb d (!go) → R (.bool (!go))) :
    Ex K cs (tGen P cap wi g te go) Γ R := fun H0 σ B H r v Q q => by
  refine hi H0 σ B H r v _ fun J B1 H1 ds s1 it rl => ?_
  obtain ⟨Pb, he, hall, hex⟩ := h ds rl
  have r1 := r.step s1
  refine ⟨s1.v.tab (r1.tab P hP), fun H2 tb => ?_⟩
  obtain ⟨B2, s2⟩ := r1.tabbed hP s1.v tb
  have r2 := (r1.step s2).gsl (cap := cap)
  refine ⟨fun i m σ' H' => m = ds.length - i ∧ i ≤ ds.length ∧ ∃ B', Stp B2 H2 B' H' ∧ Rs K cs H0 σ' B' H' (clr (gslG cap Γ) js) ∧ ∀ j d, j < i → ds[j]? = some d → Pb d go,
    ⟨ds.length, rfl, Nat.zero_le _, B2, .refl s2.v, r2.weak ?_, fun j d hj => absurd hj (Nat.not_lt_zero _)⟩, ?_⟩
  · refine ⟨clr_length _ _, fun i s h => ?_⟩
    rcases clr_get js _ i s h with z | ⟨z, _⟩
    · exact .inl z
    · exact .inr z
  rintro i m σ' H' ⟨rfl, hle, B', s3, r3, pre⟩
  by_cases hlt : i < ds.length
  · refine .inr ⟨ds.length - (i + 1), by omega, it.go i B' H' (s2.b.trans s3.b) s3.v hlt, fun x H4 y => ?_⟩
    obtain ⟨B4, s4, dx⟩ := it.yld i _ B' H' x H4 (s2.b.trans s3.b) s3.v (List.getElem?_eq_getElem hlt) y
    obtain ⟨es, ef, hel⟩ := he ds[i] (List.getElem_mem hlt)
    obtain ⟨ws, dv, gok⟩ := hg x σ' B4 H4 _ es s4.v dx ef
    refine gok _ ?_
    have r4 := (r3.step s4).setL (js := js) dv
    refine hel H0 _ B4 H4 r4 s4.v _ fun w B5 H5 d s5 dw hb => ?_
    obtain ⟨b, rfl, pb⟩ := hb
    refine ⟨b, dp_bl dw, ?_⟩
    by_cases eb : b = go
    · subst eb
      refine .inl ⟨rfl, rfl, hlt, B5, (s3.trans s4).trans s5, (r4.step s5).weak (le_clr_set js es _), fun j d hj hd => ?_⟩
      by_cases ej : j = i
      · subst ej
        rw [List.getElem?_eq_getElem hlt] at hd
        cases hd
        exact pb
      · exact pre j d (by omega) hd
    · have eb2 : b = !go := by cases b <;> cases go <;> simp_all
      refine .inr ⟨eb2, ?_⟩
      rw [eb2]
      rw [eb2] at pb
      exact q _ B5 H5 _ (((s1.trans s2).trans (s3.trans s4)).trans s5) (.bl _) (hex _ (List.getElem_mem hlt) pb)
  · have e : i = ds.length := by omega
    subst e
    refine .inl ⟨by omega, it.stop _ B' H' (s2.b.trans s3.b) s3.v (Nat.le_refl _), ?_⟩
    refine q _ B' H' _ ((s1.trans s2).trans s3) (.bl _) (hall fun d hd => ?_)
    obtain ⟨j, hj, rfl⟩ := List.getElem_of_mem hd
    exact pre j _ hj (List.getElem?_eq_getElem hj)

/-! ### a def's entry -/
def entG (n : Nat) (ds : List D) : Gm := ds.map Sl.val ++ List.replicate (n - ds.length) .no
theorem pm_body {F : List D → (D → Prop) → Prop} {Nm : List Str} {n : Nat} (hn : Nm.length = n) (h : ∀ ds R, F ds R → Sx K cs t (entG n ds) (fun _ => R .none) R) {vs : List V} {H : Hp} {Q : VK} {E : XK} (p : Pm K cs F vs H Q E) :
    t { nx := fun _ H' => Q .non H', rt := Q } (L2.start Nm vs) H := by
  obtain ⟨B, ds, R, g, tb, dq, f, q⟩ := p
  have l1 := dq.length
  refine h ds R f B H (L2.start Nm vs) B H (.refl g) ⟨?_, fun i s x h1 h2 => ?_, fun i j es fs p hij h1 => ?_, tb⟩ _ (fun σ' B' H' Γ' s1 _ rn => q _ B' H' _ s1 .non rn) fun v B' H' d s1 dp rd => q v B' H' d s1 dp rd
  · unfold L2.start entG
    rw [List.length_append, List.length_append, List.length_map, List.length_map, List.length_replicate, List.length_replicate, l1, hn]
  · unfold entG at h1
    unfold L2.start at h2
    by_cases hi : i < ds.length
    · rw [List.getElem?_append_left (by simpa using hi), List.getElem?_map, List.getElem?_eq_getElem hi] at h1
      rw [List.getElem?_append_left (by simpa [l1] using hi), List.getElem?_map] at h2
      obtain ⟨v, hv, dv⟩ := dq.get (List.getElem?_eq_getElem hi)
      rw [hv] at h2
      have e1 : s = .val ds[i] := (Option.some.inj h1).symm
      have e2 : x = some v := (Option.some.inj h2).symm
      subst e1 e2
      exact ⟨v, rfl, dv⟩
    · rw [List.getElem?_append_right (by simpa using hi), List.getElem?_replicate] at h1
      split at h1
      · cases h1
        trivial
      · cases h1
  · exfalso
    unfold entG at h1
    by_cases hi : i < ds.length
    · rw [List.getElem?_append_left (by simpa using hi), List.getElem?_map, List.getElem?_eq_getElem hi] at h1
      cases h1
    · rw [List.getElem?_append_right (by simpa using hi), List.getElem?_replicate] at h1
      split at h1 <;> cases h1
theorem pm_len {F : List D → (D → Prop) → Prop} {n : Nat} (h : ∀ ds R, F ds R → ds.length = n) {vs : List V} {H : Hp} {Q : VK} {E : XK} (p : Pm K cs F vs H Q E) : vs.length = n := by
  obtain ⟨B, ds, R, g, tb, dq, f, q⟩ := p
  rw [dq.length]
  exact h ds R f
end
end Rt
set_option Elab.async false
set_option linter.all false
/-! Rationals: sizes, what a fraction in lowest terms is, signs. Plain Lean. -/
namespace Rt
/-- numerator and denominator are short -/
def Sz (n : Nat) (q : Rat) : Prop := q.num.natAbs < 2 ^ n ∧ q.den < 2 ^ n
theorem pow_le {n m : Nat} (h : n ≤ m) : 2 ^ n ≤ 2 ^ m := Nat.pow_le_pow_right (by decide) h
theorem Sz.mono {n m : Nat} {q : Rat} (h : Sz n q) (k : n ≤ m) : Sz m q := ⟨Nat.lt_of_lt_of_le h.1 (pow_le k), Nat.lt_of_lt_of_le h.2 (pow_le k)⟩
theorem Sz.neg {n : Nat} {q : Rat} (h : Sz n q) : Sz n (-q) := by
  refine ⟨?_, h.2⟩
  rw [Rat.neg_num, Int.natAbs_neg]
  exact h.1
theorem Sz.int {n : Nat} {i : Int} (h : i.natAbs < 2 ^ n) (h1 : 1 ≤ n) : Sz n (i : Rat) := by
  refine ⟨by rw [Rat.num_intCast]; exact h, ?_⟩
  rw [Rat.den_intCast]
  exact Nat.lt_of_lt_of_le (by decide : 1 < 2 ^ 1) (pow_le h1)
theorem normalize_num_le (a : Int) (d : Nat) (h : d ≠ 0) : (Rat.normalize a d h).num.natAbs ≤ a.natAbs := by
  rw [Rat.num_normalize, Int.natAbs_ediv_of_dvd]
  · exact Nat.div_le_self _ _
  · exact Int.ofNat_dvd_left.mpr (Nat.gcd_dvd_left _ _)
theorem normalize_den_le (a : Int) (d : Nat) (h : d ≠ 0) : (Rat.normalize a d h).den ≤ d := by
  rw [Rat.den_normalize]
  exact Nat.div_le_self _ _
theorem mul_lt_pow {a b n m : Nat} (h : a < 2 ^ n) (k : b < 2 ^ m) : a * b < 2 ^ (n + m) := by
  rw [Nat.pow_add]
  exact Nat.mul_lt_mul'' h k
theorem Sz.mul {n m : Nat} {p q : Rat} (h : Sz n p) (k : Sz m q) : Sz (n + m) (p * q) := by
  rw [Rat.mul_def]
  refine ⟨Nat.lt_of_le_of_lt (normalize_num_le _ _ _) ?_, Nat.lt_of_le_of_lt (normalize_den_le _ _ _) (mul_lt_pow h.2 k.2)⟩
  rw [Int.natAbs_mul]
  exact mul_lt_pow h.1 k.1
theorem add_num_lt {n m : Nat} {p q : Rat} (h : Sz n p) (k : Sz m q) : (p.num * (q.den : Int) + q.num * (p.den : Int)).natAbs < 2 ^ (n + m + 1) := by
  have h1 : (p.num * (q.den : Int)).natAbs < 2 ^ (n + m) := by
    rw [Int.natAbs_mul]
    exact mul_lt_pow h.1 k.2
  have h2 : (q.num * (p.den : Int)).natAbs < 2 ^ (n + m) := by
    rw [Int.natAbs_mul, Nat.add_comm n m]
    exact mul_lt_pow k.1 h.2
  have h3 := Int.natAbs_add_le (p.num * (q.den : Int)) (q.num * (p.den : Int))
  rw [Nat.pow_succ]
  omega
theorem Sz.add {n m : Nat} {p q : Rat} (h : Sz n p) (k : Sz m q) : Sz (n + m + 1) (p + q) := by
  rw [Rat.add_def]
  refine ⟨Nat.lt_of_le_of_lt (normalize_num_le _ _ _) (add_num_lt h k), Nat.lt_of_le_of_lt (normalize_den_le _ _ _) ?_⟩
  exact Nat.lt_of_lt_of_le (mul_lt_pow h.2 k.2) (pow_le (by omega))
theorem Sz.sub {n m : Nat} {p q : Rat} (h : Sz n p) (k : Sz m q) : Sz (n + m + 1) (p - q) := by
  rw [Rat.sub_eq_add_neg]
  exact h.add k.neg
theorem Sz.inv {n : Nat} {q : Rat} (h : Sz n q) : Sz n q⁻¹ := by
  refine ⟨?_, ?_⟩
  · rw [Rat.num_inv, Int.natAbs_mul]
    have h1 : q.num.sign.natAbs ≤ 1 := by
      rcases Int.sign_trichotomy q.num with e | e | e <;> rw [e] <;> decide
    have h2 := h.2
    calc q.num.sign.natAbs * (q.den : Int).natAbs ≤ 1 * (q.den : Int).natAbs := Nat.mul_le_mul_right _ h1
      _ < 2 ^ n := by rw [Nat.one_mul]; exact h2
  · rw [Rat.den_inv]
    split
    · exact Nat.lt_of_le_of_lt q.den_pos h.2
    · exact h.1
theorem Sz.div {n m : Nat} {p q : Rat} (h : Sz n p) (k : Sz m q) : Sz (n + m) (p / q) := by
  rw [Rat.div_def]
  exact h.mul k.inv
theorem Sz.zero {n : Nat} (h : 1 ≤ n) : Sz n 0 := Sz.int (i := 0) (Nat.lt_of_lt_of_le (by decide : 0 < 2 ^ 1) (pow_le h)) h
theorem Sz.one {n : Nat} (h : 1 ≤ n) : Sz n 1 := Sz.int (i := 1) (Nat.lt_of_lt_of_le (by decide : 1 < 2 ^ 1) (pow_le h)) h
theorem Sz.two {n : Nat} (h : 2 ≤ n) : Sz n 2 := Sz.int (i := 2) (Nat.lt_of_lt_of_le (by decide : 2 < 2 ^ 2) (pow_le h)) (by omega)
/-! ### lowest terms -/
/-- the divisor with the denominator's sign -/
def dvr (a b : Int) : Int := if b < 0 then -(Int.gcd a b : Int) else (Int.gcd a b : Int)
theorem dvr_ne {a b : Int} (h : b ≠ 0) : dvr a b ≠ 0 := by
  have g : Int.gcd a b ≠ 0 := fun e => h (Int.gcd_eq_zero_iff (a := a) (b := b) |>.mp e).2
  unfold dvr
  split <;> omega
theorem fdiv_neg_gcd {G k : Int} (h : G ≠ 0) : (G * k).fdiv (-G) = -k := by
  have e : G * k = (-G) * (-k) := by rw [Int.neg_mul_neg]
  rw [e]
  exact Int.mul_fdiv_cancel_left _ (by omega)
theorem frac_num {a b : Int} (h : b ≠ 0) : a.fdiv (dvr a b) = (Rat.divInt a b).num := by
  have g : (Int.gcd a b : Int) ≠ 0 := fun e => h (Int.gcd_eq_zero_iff (a := a) (b := b) |>.mp (by omega)).2
  rw [Rat.num_divInt, Int.gcd_comm b a]
  unfold dvr
  have hd := Int.gcd_dvd_left a b
  revert hd g
  generalize (Int.gcd a b : Int) = G
  intro g hd
  obtain ⟨k, rfl⟩ := hd
  have hk2 : G * k / G = k := Int.mul_ediv_cancel_left _ g
  split
  · rename_i hb
    have s : b.sign = -1 := Int.sign_eq_neg_one_of_neg hb
    rw [fdiv_neg_gcd g, s, Int.neg_one_mul, Int.neg_ediv_of_dvd ⟨k, rfl⟩, hk2]
  · have s : b.sign = 1 := Int.sign_eq_one_of_pos (by omega)
    rw [Int.mul_fdiv_cancel_left _ g, s, Int.one_mul, hk2]
theorem frac_den {a b : Int} (h : b ≠ 0) : b.fdiv (dvr a b) = ((Rat.divInt a b).den : Int) := by
  have g : 0 < Int.gcd a b := Nat.pos_of_ne_zero fun e => h (Int.gcd_eq_zero_iff (a := a) (b := b) |>.mp e).2
  rw [Rat.den_divInt, if_neg h, Int.gcd_comm b a]
  unfold dvr
  have hd := Int.gcd_dvd_right a b
  revert hd g
  generalize Int.gcd a b = G
  intro g hd
  obtain ⟨k, rfl⟩ := hd
  have gp : (0 : Int) < G := by omega
  have hk2 : ((G : Int) * k).natAbs / G = k.natAbs := by
    rw [Int.natAbs_mul, Int.natAbs_natCast]
    exact Nat.mul_div_cancel_left _ g
  rw [hk2]
  split
  · rename_i hb
    have kn : k < 0 := by
      rw [Int.mul_comm] at hb
      exact Int.neg_of_mul_neg_left hb (by omega)
    rw [fdiv_neg_gcd (by omega)]
    omega
  · rename_i hb
    have kp : 0 < k := by
      have hb2 : 0 < (G : Int) * k := by omega
      rw [Int.mul_comm] at hb2
      exact Int.pos_of_mul_pos_left hb2 (by omega)
    rw [Int.mul_fdiv_cancel_left _ (by omega)]
    omega
theorem divInt_add (p q : Rat) : Rat.divInt (p.num * q.den + q.num * p.den) ((p.den : Int) * q.den) = p + q := by
  rw [Rat.add_def', ← Int.natCast_mul, Rat.divInt_ofNat]
theorem divInt_mul (p q : Rat) : Rat.divInt (p.num * q.num) ((p.den : Int) * q.den) = p * q := by
  rw [Rat.mul_def', ← Int.natCast_mul, Rat.divInt_ofNat]
theorem divInt_div (p q : Rat) : Rat.divInt (p.num * q.den) ((p.den : Int) * q.num) = p / q := by
  rw [← Rat.divInt_mul_divInt, Rat.num_divInt_den, Rat.div_def, Rat.inv_def]
theorem divInt_one (i : Int) : Rat.divInt i 1 = (i : Rat) := by
  rw [Rat.divInt_eq_div]
  show (i : Rat) / ((1 : Int) : Rat) = i
  rw [show ((1 : Int) : Rat) = 1 from rfl, Rat.div_def]
  grind
/-! ### signs -/
/-- what sign says -/
def sg (q : Rat) : Int := if q.num > 0 then 1 else if q.num < 0 then -1 else 0
theorem num_pos {q : Rat} : 0 < q.num ↔ 0 < q := by
  have h := Rat.lt_iff 0 q
  rw [Rat.zero_num, Rat.zero_den, Int.zero_mul] at h
  rw [h]
  omega
theorem num_neg {q : Rat} : q.num < 0 ↔ q < 0 := by
  have h := Rat.lt_iff q 0
  rw [Rat.zero_num, Rat.zero_den, Int.zero_mul] at h
  rw [h]
  omega
theorem sg_pos {q : Rat} : 0 < sg q ↔ 0 < q := by
  rw [← num_pos]
  unfold sg
  split
  · omega
  · split <;> omega
theorem sg_neg {q : Rat} : sg q < 0 ↔ q < 0 := by
  rw [← num_neg]
  unfold sg
  split
  · omega
  · split <;> omega
theorem sg_le {q : Rat} : sg q ≤ 0 ↔ q ≤ 0 := by
  rw [← Rat.not_lt, ← sg_pos]
  omega
theorem sg_ge {q : Rat} : 0 ≤ sg q ↔ 0 ≤ q := by
  rw [← Rat.not_lt, ← sg_neg]
  omega
theorem sg_eq {q : Rat} : sg q = 0 ↔ q = 0 := by
  have h1 := @sg_pos q
  have h2 := @sg_neg q
  have h3 : sg q = 0 ↔ ¬ 0 < sg q ∧ ¬ sg q < 0 := by omega
  rw [h3, h1, h2]
  grind
theorem lt_sub {p q : Rat} : p - q < 0 ↔ p < q := by grind
theorem le_sub {p q : Rat} : p - q ≤ 0 ↔ p ≤ q := by grind
end Rt
set_option Elab.async false
set_option linter.all false
set_option maxRecDepth 100000
set_option maxHeartbeats 4000000
/-! The text: the defs by their places in the top; what is known of them behind the top. -/
namespace Rt
open PySem PySem.Spec PyProof.Rows L2 GxR Gx RZ
def topS (i : Nat) : Stmt := PySem.Challenge.pw_raytrain_k91_whole_for_ever.main.body.getD i (.Pass ⟨0, 0, 0, 0⟩)
/-- a def as it stands behind the top, its code object at c -/
structure Fd (K : PySem.W.Frag) (x : Str) (st : Stmt) (dvs : List V) (f c : Addr) (fd : FuncData) : Prop where
  ex : ∃ (oc : Value) (od : Option Addr) (dV kV doc pm : Value) (an : Option Addr) (ct : Value) (osl : Array (Option Value)),
    fd = PySem.W.fnOf x x (defArgs st) (defBody st) (defScope st) dV kV doc pm an (.ref c) ct ∧ K.lookup f = some ⟨oc, od, .func fd, osl⟩ ∧ PySem.W.codeIn K (.ref c) x = true ∧ DflV K dV dvs
  kp : PySem.W.keepIn K (.ref f) = true
section
variable {P : Program} {w : World} {K : PySem.W.Frag} {mg : Str → Option Value} {base : Heap}
theorem Fd.funD {x : Str} {st : Stmt} {dvs : List V} {f c : Addr} {fd : FuncData} (F : Fd K x st dvs f c fd) : FunD K x x (defArgs st) (defBody st) (defScope st) dvs [] f fd := by
  obtain ⟨oc, od, dV, kV, doc, pm, an, ct, osl, e, lk, hc, hd⟩ := F.ex
  exact ⟨⟨oc, od, dV, kV, doc, pm, an, .ref c, ct, osl, e, lk, hc, hd, .inl rfl⟩, F.kp⟩
theorem Fd.ok {x : Str} {st : Stmt} {dvs : List V} {f c : Addr} {fd : FuncData} {N ps : List Str} {k : Nat} {sp : Sp} (F : Fd K x st dvs f c fd) (S : FnScope N ps (defScope st)) (len : ∀ vs H Q E, sp vs H Q E → vs.length = ps.length)
    (hbody : ∀ (A : Around) (outer : List Env) (s : Shared) (H : Hp) (vs : List V) (Q : VK) (E : XK), Room k (A.deeper (envOfC x (defScope st) s.heap.objs.size f (.ref c))) → sp vs H Q E →
      ∃ t, PSs (cxOf CX0 P w K mg base N x (defScope st) f (.ref c) A outer s H E).nox (defBody st) t ∧ t { nx := fun _ H' => Q .non H', rt := Q } (L2.start N vs) H) : FnOk P w K mg base CX0 (k + 1) f fd ps sp := by
  obtain ⟨oc, od, dV, kV, doc, pm, an, ct, osl, rfl, lk, hcd, hd⟩ := F.ex
  refine fn_of lk hcd S len fun A outer s H vs Q E hr hsp => ?_
  obtain ⟨t, h, q⟩ := hbody A outer s H vs Q E hr hsp
  exact ⟨t, h.nox, q⟩
end
/-- data of the program -/
def dQ (q : Rat) : D := .tuple [.int q.num, .int (q.den : Int)]
/-- a def of the text: its name, its place, its defaults, which table it has (1 on; 0: none) -/
structure Dl where
  nm : Str
  at_ : Nat
  dvs : List V
  tab : Nat
def gNm (s : Str) (i : Nat) : Dl := ⟨s, i, [], 0⟩
/-- the dict CYCLES: in the frame, its keys pairs of ints -/
def CycF (P : Program) (w : World) (K : PySem.W.Frag) (a : Addr) : Prop := ∃ (a1 a2 a3 : Addr) (t1 t2 t3 : Tok), (a == sysModules) = false ∧
  ∀ h : Heap, K.In h → h.DictOfH (tupleKind (mixKind P w)) a [(([.inl (-1), .inl 1] : List Key), a1, .int 3 t1), ([.inl 0, .inl 1], a2, .int 4 t2), ([.inl 1, .inl 1], a3, .int 6 t3)]
/-- what stands behind the top -/
structure Tt (P : Program) (w : World) (K : PySem.W.Frag) (mg : Str → Option Value) (base : Heap) (cs : List Addr) (dl : List Dl) (bl : List Str) : Prop where
  fn : ∀ (i : Nat) (d : Dl), dl[i]? = some d → ∃ f c fd, Fd K d.nm (topS d.at_) d.dvs f c fd ∧ mg d.nm = some (.ref f) ∧ (d.tab ≠ 0 → ∃ P, cs[d.tab - 1]? = some P ∧ TabB base mg c P)
  fr : ∀ x ∈ bl, mg x = none
  zero : ∃ a, mg "ZERO" = some (.ref a) ∧ ∀ H, Dq K H (.ref a) (dQ 0)
  one : ∃ a, mg "ONE" = some (.ref a) ∧ ∀ H, Dq K H (.ref a) (dQ 1)
  two : ∃ a, mg "TWO" = some (.ref a) ∧ ∀ H, Dq K H (.ref a) (dQ 2)
  cyc : ∃ a, mg "CYCLES" = some (.ref a) ∧ CycF P w K a
  ident : ∃ a, mg "IDENTITY" = some (.ref a) ∧ ∀ H, Dq K H (.ref a) (.tuple [dQ 1, dQ 0, dQ 0, dQ 1, dQ 0, dQ 0])
/-- the def x keeps F, called with all its arguments -/
def Good (P : Program) (w : World) (K : PySem.W.Frag) (mg : Str → Option Value) (base : Heap) (cs : List Addr) (x : Str) (ps : List Str) (k : Nat) (F : List D → (D → Prop) → Prop) : Prop :=
  ∃ f fd, mg x = some (.ref f) ∧ PySem.W.keepIn K (.ref f) = true ∧ Binds K fd ps [] ∧ FnOk P w K mg base CX0 k f fd ps (Pm K cs F)
def dl0 : List Dl := [gNm "common_divisor" 3, ⟨"fraction", 4, [.int 1], 0⟩, gNm "add" 5, gNm "negative" 6, gNm "subtract" 7, gNm "multiply" 8, gNm "divide" 9, gNm "sign" 10, gNm "compare" 11, gNm "is_less" 12, gNm "is_at_most" 13, gNm "least_of" 14, gNm "element_map" 17, gNm "weighted" 18, gNm "apply_map" 19, gNm "compose_maps" 20, gNm "invert_map" 21, gNm "ray_transfer" 22, gNm "make_half_plane" 27, gNm "edges_of" 28]
def dl1 : List Dl := [gNm "half_planes_of" 29, gNm "value_at" 30, ⟨"contains_ray", 31, [], 1⟩, gNm "determinant" 32, gNm "product" 33, gNm "opposite_weights" 34, ⟨"triple_weights", 35, [], 2⟩, gNm "opposing_sets" 36, gNm "number_of" 37, ⟨"is_empty", 38, [], 3⟩, gNm "single_bound" 39, gNm "pair_weights" 40, gNm "pair_bound" 41, gNm "supremum" 42, gNm "map_half_planes" 43, gNm "is_implied" 45, gNm "planes_of" 47, gNm "polynomial_holds" 51, gNm "form_of" 52, gNm "cycle_holds" 53]
def dl2 : List Dl := [gNm "ellipse_holds" 54, gNm "turning_holds" 55, gNm "line_holds" 56, gNm "growing_holds" 57, gNm "stays_below" 58, gNm "passes_stop" 60, gNm "gone_through" 61, gNm "trace_ray" 62, gNm "exit_ray" 63, gNm "trace_of" 65, gNm "power_of" 66, gNm "order_of" 67, gNm "fixed_ray" 68, gNm "passes" 69, gNm "pass_planes" 70, gNm "stays" 71, gNm "holds_next" 72, gNm "settled" 73, gNm "is_kept" 74, gNm "meeting" 76]
def dl3 : List Dl := [gNm "is_before" 77, gNm "put_in_order" 78, gNm "corners" 79, gNm "_law_cell" 81, gNm "_law_row" 82, gNm "_law_box" 83, gNm "_law_draw" 84, gNm "_law_same" 85, gNm "_law_frac" 86, gNm "_law_add" 87, gNm "_law_neg" 88, gNm "_law_sub" 89, gNm "_law_mul" 90, gNm "_law_div" 91, gNm "_law_less" 92, gNm "_law_fraction" 93, gNm "_law_stop" 94, gNm "_law_ray" 95, gNm "_law_go" 96, gNm "_law_blocks" 97]
def dl4 : List Dl := [gNm "_law_out" 98, gNm "_law_exit" 99, gNm "_law_map" 100, gNm "_law_cavity" 101, gNm "law" 102]
def dl : List Dl := dl0 ++ dl1 ++ dl2 ++ dl3 ++ dl4
def bl : List Str := ["abs", "all", "any", "enumerate", "int", "len", "range", "repr", "sum", "tuple", "zip"]
abbrev Tc (P : Program) (w : World) (K : PySem.W.Frag) (mg : Str → Option Value) (base : Heap) (cs : List Addr) : Prop := Tt P w K mg base cs dl bl
end Rt
set_option Elab.async false
set_option linter.all false
set_option maxRecDepth 100000
set_option maxHeartbeats 4000000
/-! Short forms of the rules where the answers are known; the data of the program; what the first defs promise. -/
namespace Rt
open PySem PySem.Spec PyProof.Rows L2 GxR Gx RZ
section
variable {K : PySem.W.Frag} {cs : List Addr} {Γ : Gm} {R Ra Rb : D → Prop} {N : Gm → Prop} {ta tb te : TE} {t u : L2.TT} {d e : D} {a b : Bool}
theorem td_and (h : Td K cs t Γ a) (h1 : a = true → Td K cs u Γ b) : Td K cs (tAnd t u) Γ (a && b) := t_and h (fun e => (h1 e).mono fun c ec => by rw [e, ← ec]; rfl) fun e => by rw [e]; rfl
theorem td_or (h : Td K cs t Γ a) (h1 : a = false → Td K cs u Γ b) : Td K cs (tOr t u) Γ (a || b) := t_or h (fun e => by rw [e]; rfl) fun e => (h1 e).mono fun c ec => by rw [e, ← ec]; rfl
theorem td_not (h : Td K cs t Γ a) : Td K cs (tNot t) Γ (!a) := t_not (h.mono fun b e => by rw [e])
theorem xd_andV (h : Xd K cs ta Γ (.bool a)) (h1 : a = true → Xd K cs tb Γ (.bool b)) : Xd K cs (tAndV ta tb) Γ (.bool (a && b)) :=
  x_andV (Pa := Eq a) h (fun d e => ⟨a, e.symm, rfl⟩) (fun e => (h1 e).mono fun c ec => by rw [e, ← ec]; rfl) fun e => by rw [e]; rfl
theorem xd_orV (h : Xd K cs ta Γ (.bool a)) (h1 : a = false → Xd K cs tb Γ (.bool b)) : Xd K cs (tOrV ta tb) Γ (.bool (a || b)) :=
  x_orV (Pa := Eq a) h (fun d e => ⟨a, e.symm, rfl⟩) (fun e => by rw [e]; rfl) fun e => (h1 e).mono fun c ec => by rw [e, ← ec]; rfl
theorem xd_notV (h : Xd K cs ta Γ (.bool a)) : Xd K cs (tNotV ta) Γ (.bool (!a)) := x_notV h fun d e => ⟨a, e.symm, rfl⟩
theorem xd_neg {i : Int} (h : Xd K cs ta Γ (.int i)) : Xd K cs (tUn (rU fun i => .int (-i)) ta) Γ (.int (-i)) := x_neg h fun d e => ⟨i, e.symm, rfl⟩
theorem xd_isN (h : Xd K cs ta Γ d) : Xd K cs (tIsN ta) Γ (.bool (isN d)) := x_isN h fun z e => by rw [e]
theorem xd_notN (h : Xd K cs ta Γ d) : Xd K cs (tNotN ta) Γ (.bool (!isN d)) := x_notN h fun z e => by rw [e]
/-- if with a known answer's form -/
theorem sd_when {c : L2.TT} {t u : TS} (h : Td K cs c Γ a) (h1 : a = true → Sx K cs t Γ (fun Γ' => Sx K cs u Γ' N R) R) (h2 : a = false → Sx K cs u Γ N R) : Sx K cs (tSeq (tIfS c t tNext) u) Γ N R := s_when h h1 h2
theorem sd_if {c : L2.TT} {t u : TS} (h : Td K cs c Γ a) (h1 : a = true → Sx K cs t Γ N R) (h2 : a = false → Sx K cs u Γ N R) : Sx K cs (tIfS c t u) Γ N R := s_if h h1 h2
theorem sd_ret (h : Xd K cs te Γ d) (k : R d) : Sx K cs (tRet te) Γ N R := s_ret (h.of k)
theorem s_never {t : TS} : Sx K cs tNever Γ N R → True := fun _ => trivial
theorem Xd.to (h : Xd K cs te Γ d) (e : d = d') : Xd K cs te Γ d' := e ▸ h
end
/-! ### generator expressions: what is captured, decided -/
def genCapC (XN : List Str) (xs scope : Scope) (N : List Str) (cap : List (Option Nat)) : Bool :=
  (match scope.kind with | .function => true | _ => false) && !scope.isCoroutine && (scope.names.all fun y => match y.2 with | .cell => false | _ => true) && decide (scope.names.lookup (".0" : Str) = some NameKind.local) &&
  (scope.names.all fun y => match y.2 with | .free => (match xs.names.lookup y.1 with | some .cell => true | some .free => true | _ => false) | _ => true) && decide (cap.length = N.length) &&
  ((List.range cap.length).all fun i => match cap[i]? with
    | some (some j) => (match N[i]? with | some y => decide (XN[j]? = some y) && decide (scope.names.lookup y = some .free) | none => false)
    | _ => true)
theorem genCap_by {XN : List Str} {xs scope : Scope} {N : List Str} {cap : List (Option Nat)} (h : genCapC XN xs scope N cap = true) : Gx.GenCap XN xs scope N cap := by
  unfold genCapC at h
  simp only [Bool.and_eq_true, List.all_eq_true, decide_eq_true_eq, Bool.not_eq_true'] at h
  obtain ⟨⟨⟨⟨⟨⟨h1, h2⟩, h3⟩, h4⟩, h5⟩, h6⟩, h7⟩ := h
  refine ⟨?_, h2, fun y hy e => ?_, h4, fun y hy e => ?_, h6, fun i j hij => ?_⟩
  · split at h1
    · assumption
    · cases h1
  · have z := h3 y hy
    rw [e] at z
    cases z
  · have z := h5 y hy
    rw [e] at z
    dsimp only at z
    split at z
    · rename_i q
      exact .inl q
    · rename_i q
      exact .inr q
    · cases z
  · have hi : i < cap.length := (List.getElem?_eq_some_iff.mp hij).1
    have z := h7 i (by simpa using hi)
    rw [hij] at z
    dsimp only at z
    split at z
    · rename_i y hy
      simp only [Bool.and_eq_true, decide_eq_true_eq] at z
      exact ⟨y, hy, z.1, z.2⟩
    · cases z
/-! ### CYCLES -/
def cycHas (i j : Int) : Bool := decide (j = 1) && (decide (i = -1) || decide (i = 0) || decide (i = 1))
def cycAt (i j : Int) : Option Int := if j = 1 then (if i = -1 then some 3 else if i = 0 then some 4 else if i = 1 then some 6 else none) else none
theorem cyc_at {a1 a2 a3 : Addr} {t1 t2 t3 : Tok} (i j : Int) : ∃ o : Option (Addr × Value), atKey [(([.inl (-1), .inl 1] : List Key), a1, .int 3 t1), ([.inl 0, .inl 1], a2, .int 4 t2), ([.inl 1, .inl 1], a3, .int 6 t3)] [.inl i, .inl j] = o ∧ o.isSome = (cycAt i j).isSome ∧ ∀ v, cycAt i j = some v → ∃ (b : Addr) (t : Tok), o = some (b, .int v t) := by
  have q : ∀ a : Int, decide (([Sum.inl a, Sum.inl 1] : List Key) = [Sum.inl i, Sum.inl j]) = (decide (i = a) && decide (j = 1)) := fun a => by
    rw [Bool.eq_iff_iff]
    simp only [List.cons.injEq, Sum.inl.injEq, and_true, decide_eq_true_eq, Bool.and_eq_true]
    exact ⟨fun h => ⟨h.1.symm, h.2.symm⟩, fun h => ⟨h.1.symm, h.2.symm⟩⟩
  unfold atKey cycAt
  simp only [List.find?_cons, List.find?_nil, q]
  by_cases hj : j = 1
  · subst hj
    by_cases h1 : i = -1
    · subst h1; exact ⟨_, rfl, rfl, fun v e => by cases e; exact ⟨_, _, rfl⟩⟩
    · by_cases h2 : i = 0
      · subst h2; exact ⟨_, rfl, rfl, fun v e => by cases e; exact ⟨_, _, rfl⟩⟩
      · by_cases h3 : i = 1
        · subst h3; exact ⟨_, rfl, rfl, fun v e => by cases e; exact ⟨_, _, rfl⟩⟩
        · simp [h1, h2, h3]
  · simp [hj]
theorem cyc_has (i j : Int) : cycHas i j = (cycAt i j).isSome := by
  unfold cycHas cycAt
  by_cases hj : j = 1
  · subst hj
    by_cases h1 : i = -1
    · subst h1; rfl
    · by_cases h2 : i = 0
      · subst h2; rfl
      · by_cases h3 : i = 1
        · subst h3; rfl
        · simp [h1, h2, h3]
  · simp [hj]
def rCycIn (K : PySem.W.Frag) (a : Addr) : R2 := fun x y H Q => ∃ b i j, x = .ref b ∧ y = .ref a ∧ SqT K H b [.int i, .int j] ∧ Q (.bl (cycHas i j)) H
def rCycAt (K : PySem.W.Frag) (a : Addr) : R2 := fun x y H Q => ∃ b i j v, x = .ref a ∧ y = .ref b ∧ SqT K H b [.int i, .int j] ∧ cycAt i j = some v ∧ Q (.int v) H
section
variable {X : Cx}
theorem cyc_key {pins : List (Addr × Obj)} {s : Shared} {σ : L2.St} {H : Hp} {b : Addr} {i j : Int} (I : Inv X pins σ H s) (h : SqT X.K H b [.int i, .int j]) : (tupleKind (mixKind X.prog X.w)).is s.heap [.inl i, .inl j] b := by
  obtain ⟨its, r, ⟨o, h1, h2, n, h3⟩, _⟩ := I.tuple h
  exact ⟨o, its.toArray, n, h1, h2, h3, by simpa using items_are (ks := [.inl i, .inl j]) r⟩
theorem op_cyc {a : Addr} (hc : CycF X.prog X.w X.K a) (hu : X.A.units + 1 < cLine) : OpR X (compareOp .In) (rCycIn X.K a) := by
  intro pins s σ H x y v u Q I rx ry h
  obtain ⟨b, i, j, rfl, rfl, hq, q⟩ := h
  obtain ⟨a1, a2, a3, t1, t2, t3, hs, hd⟩ := hc
  cases rx
  cases ry
  refine wpAny_in_heap (tupleKind_room_in1 hu) (cyc_key I hq) hs (hd _ I.kIn) ?_
  obtain ⟨o, e, e2, _⟩ := cyc_at (a1 := a1) (a2 := a2) (a3 := a3) (t1 := t1) (t2 := t2) (t3 := t3) i j
  rw [e, e2, ← cyc_has]
  exact ⟨.bl _, H, I.tok _, rfl, q⟩
theorem ix_cyc {a : Addr} (hc : CycF X.prog X.w X.K a) (hu : X.A.units + 1 < cLine) : IxR X (rCycAt X.K a) := by
  intro value slice pins s σ H x y v u Q I rx ry h hs
  obtain ⟨b, i, j, z, rfl, rfl, hq, ez, q⟩ := h
  obtain ⟨a1, a2, a3, t1, t2, t3, h0, hd⟩ := hc
  cases rx
  cases ry
  obtain ⟨o, e, _, e2⟩ := cyc_at (a1 := a1) (a2 := a2) (a3 := a3) (t1 := t1) (t2 := t2) (t3 := t3) i j
  obtain ⟨b', t, hp⟩ := e2 z ez
  refine tail_any (hd _ I.kIn).typeIs PySem.F.slot_dict_getitem.lookup (wpAny_getItem_heap (tupleKind_room_in1 hu) (cyc_key I hq) (hd _ I.kIn) (e.trans hp) ?_) hs
  exact ⟨.int z, H, I.tok _, ⟨_, rfl⟩, q⟩
end
section
variable {K : PySem.W.Frag} {cs : List Addr} {Γ : Gm} {R : D → Prop} {ta : TE}
theorem x_cycIn {a : Addr} {i j : Int} (h : Xd K cs ta Γ (.tuple [.int i, .int j])) : Xd K cs (tOp (rCycIn K a) ta (tC (.ref a))) Γ (.bool (cycHas i j)) := fun H0 σ B H rs v Q q => h H0 σ B H rs v _ fun x B1 H1 d st dp rd => by
  subst rd
  obtain ⟨b, xs, rfl, hs, ha⟩ := dp_tup dp
  obtain ⟨v1, v2, rfl, h1, h2⟩ := dqa2 ha
  cases dp_int h1
  cases dp_int h2
  exact ⟨b, i, j, rfl, rfl, st.v.seqT hs, q _ B1 H1 _ st (.bl _) rfl⟩
theorem x_cycAt {a : Addr} {i j v : Int} (h : Xd K cs ta Γ (.tuple [.int i, .int j])) (e : cycAt i j = some v) : Xd K cs (tOp (rCycAt K a) (tC (.ref a)) ta) Γ (.int v) := fun H0 σ B H rs vv Q q => h H0 σ B H rs vv _ fun x B1 H1 d st dp rd => by
  subst rd
  obtain ⟨b, xs, rfl, hs, ha⟩ := dp_tup dp
  obtain ⟨v1, v2, rfl, h1, h2⟩ := dqa2 ha
  cases dp_int h1
  cases dp_int h2
  exact ⟨b, i, j, v, rfl, rfl, st.v.seqT hs, e, q _ B1 H1 _ st (.int _) rfl⟩
end
/-! ### data -/
/-- a value or None -/
def dO : Option Rat → D
  | some q => dQ q
  | none => .none
def dR (r : Rat × Rat) : D := .tuple [dQ r.1, dQ r.2]
/-- a map of rays -/
structure Mp where
  a : Rat
  b : Rat
  c : Rat
  d : Rat
  e : Rat
  f : Rat
def dM (m : Mp) : D := .tuple [dQ m.a, dQ m.b, dQ m.c, dQ m.d, dQ m.e, dQ m.f]
/-- a half-plane x r.1 + y r.2 <= z -/
structure Pl where
  x : Int
  y : Int
  z : Int
def dP (h : Pl) : D := .tuple [.int h.x, .int h.y, .int h.z]
inductive El where
  | gap (l : Rat)
  | lens (p o : Rat)
  | prism (f : Rat)
  | afocal (m : Rat)
  | stop (lo hi : Option Rat)
def dE : El → D
  | .gap l => .tuple [.str "gap", dQ l]
  | .lens p o => .tuple [.str "lens", dQ p, dQ o]
  | .prism f => .tuple [.str "prism", dQ f]
  | .afocal m => .tuple [.str "afocal", dQ m]
  | .stop lo hi => .tuple [.str "stop", dO lo, dO hi]
def dT (t : List El) : D := .list (t.map dE)
def dPs (hs : List Pl) : D := .list (hs.map dP)
def dRs (rs : List (Rat × Rat)) : D := .list (rs.map dR)
def Mp.Sz (n : Nat) (m : Mp) : Prop := Rt.Sz n m.a ∧ Rt.Sz n m.b ∧ Rt.Sz n m.c ∧ Rt.Sz n m.d ∧ Rt.Sz n m.e ∧ Rt.Sz n m.f
def Mp.one : Mp := ⟨1, 0, 0, 1, 0, 0⟩
/-- first, then m -/
def Mp.then (m n : Mp) : Mp := ⟨n.a * m.a + n.b * m.c, n.a * m.b + n.b * m.d, n.c * m.a + n.d * m.c, n.c * m.b + n.d * m.d, n.a * m.e + n.b * m.f + n.e, n.c * m.e + n.d * m.f + n.f⟩
def Mp.inv (m : Mp) : Mp := ⟨m.d, -m.b, -m.c, m.a, m.b * m.f - m.d * m.e, m.c * m.e - m.a * m.f⟩
def Mp.app (m : Mp) (r : Rat × Rat) : Rat × Rat := (m.a * r.1 + m.b * r.2 + m.e, m.c * r.1 + m.d * r.2 + m.f)
def Mp.det (m : Mp) : Rat := m.a * m.d - m.b * m.c
def El.map : El → Mp
  | .gap l => ⟨1, l, 0, 1, 0, 0⟩
  | .lens p o => ⟨1, 0, -p, 1, 0, p * o⟩
  | .prism f => ⟨1, 0, 0, 1, 0, f⟩
  | .afocal m => ⟨m, 0, 0, 1 / m, 0, 0⟩
  | .stop _ _ => Mp.one
def El.Sz (n : Nat) : El → Prop
  | .gap l => Rt.Sz n l
  | .lens p o => Rt.Sz n p ∧ Rt.Sz n o
  | .prism f => Rt.Sz n f
  | .afocal m => Rt.Sz n m ∧ m ≠ 0
  | .stop lo hi => (∀ q, lo = some q → Rt.Sz n q) ∧ ∀ q, hi = some q → Rt.Sz n q
def Pl.Sz (n : Nat) (h : Pl) : Prop := h.x.natAbs < 2 ^ n ∧ h.y.natAbs < 2 ^ n ∧ h.z.natAbs < 2 ^ n
def Pl.at (h : Pl) (r : Rat × Rat) : Rat := (h.x : Rat) * r.1 + (h.y : Rat) * r.2
def Pl.has (h : Pl) (r : Rat × Rat) : Prop := h.at r ≤ (h.z : Rat)
/-! ### equality of data -/
theorem dec_and {p q : Prop} [Decidable p] [Decidable q] : (decide p && decide q) = decide (p ∧ q) := by by_cases h : p <;> by_cases k : q <;> simp [h, k]
theorem eqv_Q (p q : Rat) : PyData.eqv (dQ p) (dQ q) = decide (p = q) := by
  unfold dQ
  rw [Bool.eq_iff_iff]
  simp only [PyData.eqv, PyData.eqvAll, Bool.and_true, Bool.and_eq_true, beq_iff_eq, decide_eq_true_eq]
  exact ⟨fun h => Rat.ext h.1 (by have := h.2; omega), fun h => by rw [h]; exact ⟨rfl, rfl⟩⟩
theorem eqv_R (p q : Rat × Rat) : PyData.eqv (dR p) (dR q) = decide (p = q) := by
  unfold dR
  simp only [PyData.eqv, PyData.eqvAll, Bool.and_true, eqv_Q, dec_and]
  exact decide_eq_decide.mpr ⟨fun h => Prod.ext h.1 h.2, fun h => by rw [h]; exact ⟨rfl, rfl⟩⟩
theorem eqv_M (p q : Mp) : PyData.eqv (dM p) (dM q) = true ↔ p = q := by
  unfold dM
  simp only [PyData.eqv, PyData.eqvAll, Bool.and_true, eqv_Q, Bool.and_eq_true, decide_eq_true_eq]
  obtain ⟨a, b, c, d, e, f⟩ := p
  obtain ⟨a', b', c', d', e', f'⟩ := q
  simp
theorem sh_Q (p : Rat) : SeqAt.shaped (dQ p) = true := rfl
theorem sh_R (p : Rat × Rat) : SeqAt.shaped (dR p) = true := rfl
theorem sh_M (p : Mp) : SeqAt.shaped (dM p) = true := rfl
end Rt
set_option Elab.async false
set_option linter.all false
set_option maxRecDepth 100000
set_option maxHeartbeats 4000000
/-! The walk, part 1: rationals. -/
namespace Rt
open PySem PySem.Spec PyProof.Rows L2 GxR Gx RZ
variable {P : Program} {w : World} {K : PySem.W.Frag} {mg : Str → Option Value} {base : Heap} {cs : List Addr}
theorem wmul {i j : Int} {a b : Nat} (ha : i.natAbs < 2 ^ a) (hb : j.natAbs < 2 ^ b) (h0 : 0 < a) (h1 : 0 < b) (h : a + b ≤ 1000000) : CMulW i j := wide_mul ha hb h0 h1 h
theorem den_lt {n : Nat} {q : Rat} (h : Sz n q) : ((q.den : Int)).natAbs < 2 ^ n := h.2
/-! ### common_divisor -/
def F_common_divisor (ds : List D) (R : D → Prop) : Prop := ∃ a b : Int, ds = [.int a, .int b] ∧ R (.int (Int.gcd a b : Int))
theorem len_common_divisor : ∀ ds R, F_common_divisor ds R → ds.length = 2 := fun _ _ ⟨_, _, h, _⟩ => by rw [h]; rfl
theorem sp_common_divisor {a b : Int} {R : D → Prop} (h : R (.int (Int.gcd a b : Int))) : F_common_divisor [.int a, .int b] R := ⟨a, b, rfl, h⟩
theorem gcd_step {x y : Nat} (h : 0 < y) : Nat.gcd y (x % y) = Nat.gcd x y := by rw [Nat.gcd_comm x y, Nat.gcd_comm y (x % y), ← Nat.gcd_rec, ]
abbrev N_common_divisor : List Str := ["first", "second", "one", "other"]
theorem sc_common_divisor : FnScope N_common_divisor ["first", "second"] (defScope (topS 3)) := ⟨rfl, rfl, rfl, by decide +kernel, rfl, by decide +kernel, by decide +kernel⟩
theorem ok_common_divisor (T : Tc P w K mg base cs) : Good P w K mg base cs "common_divisor" ["first", "second"] 1 F_common_divisor := by
  obtain ⟨f, c, fd, D0, m0, t0⟩ := T.fn 0 _ rfl
  have z_abs := T.fr "abs" (by decide)
  refine ⟨f, fd, m0, D0.kp, D0.funD.bindsN (fun _ _ _ _ _ _ us hl => match us, hl with | [_, _], _ => rfl), D0.ok sc_common_divisor (fun vs H Q E h => pm_len len_common_divisor h) (fun A outer s H vs Q E hr h => ⟨_, (pss_cons (ps_set (i := 2) sc_common_divisor.nd rfl (.inl rfl) (pe_callB call_abs rfl z_abs (by rfl) (pa_cons (pv 0) pa_nil)))
      (pss_cons (ps_set (i := 3) sc_common_divisor.nd rfl (.inl rfl) (pe_callB call_abs rfl z_abs (by rfl) (pa_cons (pv 1) pa_nil)))
      (pss_cons (ps_while PassesOwn.never (pt_cmpR op_gt (pv 3) pe_int (nomark _)) (pss_one (ps_par (i := 2) (j := 3) rfl sc_common_divisor.nd rfl rfl (by decide) rfl rfl (pa_cons (pv 3) (pa_cons (pe_op op_modN (pv 2) (pv 3)) pa_nil)) rfl)))
      (pss_one (ps_ret (pv 2)))))), pm_body rfl ?_ h⟩)⟩
  intro ds R hF
  obtain ⟨a, b, rfl, hR⟩ := hF
  refine sd_set (xd_cb cb_abs (ad_cons (x_var rfl rfl) ad_nil) ⟨_, rfl, rfl⟩) ?_
  refine sd_set (xd_cb cb_abs (ad_cons (x_var rfl rfl) ad_nil) ⟨_, rfl, rfl⟩) ?_
  refine s_seq (s_while (fun m Γ => ∃ x y : Nat, Γ = [.val (.int a), .val (.int b), .val (.int (x : Int)), .val (.int (y : Int))] ∧ m = y ∧ Nat.gcd x y = Int.gcd a b) b.natAbs ⟨a.natAbs, b.natAbs, rfl, rfl, rfl⟩ ?_)
  rintro m Γ' ⟨x, y, rfl, rfl, hg⟩
  refine ⟨_, (td_test (xd_op od_B0 (x_var rfl rfl) (x_int rfl) ⟨_, _, rfl, rfl, rfl⟩) rfl), fun ht => ?_, fun hf => ?_⟩
  · have hy : 0 < m := by have := of_decide_eq_true ht; omega
    refine s_par (ad_cons (x_var rfl rfl) (ad_cons (xd_op od_I (x_var rfl rfl) (x_var rfl rfl) ⟨_, _, rfl, rfl, (by omega), rfl⟩) ad_nil)) ?_
    refine ⟨x % m, Nat.mod_lt _ hy, m, x % m, ?_, rfl, by rw [gcd_step hy, hg]⟩
    show [Sl.val (.int a), Sl.val (.int b), Sl.val (.int (m : Int)), Sl.val (.int ((x : Int).fmod (m : Int)))] = _
    rw [Int.fmod_eq_emod_of_nonneg _ (by omega)]
    rfl
  · have hy : m = 0 := by have := of_decide_eq_false hf; omega
    subst hy
    rw [Nat.gcd_zero_right] at hg
    subst hg
    exact sd_ret (x_var rfl rfl) hR
/-! ### fraction -/
def F_fraction (ds : List D) (R : D → Prop) : Prop := ∃ a b : Int, ds = [.int a, .int b] ∧ b ≠ 0 ∧ b.natAbs < 2 ^ 8990 ∧ R (dQ (Rat.divInt a b))
theorem len_fraction : ∀ ds R, F_fraction ds R → ds.length = 2 := fun _ _ ⟨_, _, h, _⟩ => by rw [h]; rfl
theorem cdiv_dvr {a b : Int} (h : b ≠ 0) (hb : b.natAbs < 2 ^ 8990) (c : Int) : CDivZ c (dvr a b) := by
  refine ⟨dvr_ne h, ?_⟩
  have h1 : (dvr a b).natAbs = Int.gcd a b := by
    unfold dvr
    split <;> omega
  have h2 : Int.gcd a b ≤ b.natAbs := Nat.le_of_dvd (by omega) (Nat.gcd_dvd_right _ _)
  rw [h1]
  exact PySem.Flt.log2_lt_of (by decide) (Nat.lt_of_le_of_lt h2 (Nat.lt_of_lt_of_le hb (pow_le (by decide))))
theorem sp_fraction1 {i : Int} {R : D → Prop} (h : R (dQ (i : Rat))) : F_fraction [.int i, .int 1] R := ⟨i, 1, rfl, by decide, Nat.lt_of_lt_of_le (by decide : (1 : Int).natAbs < 2 ^ 1) (pow_le (by decide)), by rw [divInt_one]; exact h⟩
def GoodF (P : Program) (w : World) (K : PySem.W.Frag) (mg : Str → Option Value) (base : Heap) (cs : List Addr) (x : Str) (ps : List Str) (k : Nat) (F : List D → (D → Prop) → Prop) : Prop :=
  ∃ f fd, mg x = some (.ref f) ∧ PySem.W.keepIn K (.ref f) = true ∧ Binds K fd ps [] ∧ (∃ ds, Vals [.int 1] ds ∧ Binds K fd ps ds) ∧ FnOk P w K mg base CX0 k f fd ps (Pm K cs F)
abbrev N_fraction : List Str := ["numerator", "denominator", "divisor"]
theorem sc_fraction : FnScope N_fraction ["numerator", "denominator"] (defScope (topS 4)) := ⟨rfl, rfl, rfl, by decide +kernel, rfl, by decide +kernel, by decide +kernel⟩
theorem ok_fraction (T : Tc P w K mg base cs) : GoodF P w K mg base cs "fraction" ["numerator", "denominator"] 2 F_fraction := by
  obtain ⟨f, c, fd, D0, m0, t0⟩ := T.fn 1 _ rfl
  obtain ⟨f_common_divisor, d_common_divisor, m_common_divisor, k_common_divisor, b_common_divisor, G_common_divisor⟩ := ok_common_divisor T
  have B2 : Binds K fd ["numerator", "denominator"] [] := by
    obtain ⟨ds, v, b⟩ := D0.funD.binds1 (ps := ["numerator", "denominator"]) 2 1 (by simp) rfl fun T kV doc pm an cdv ct us its hl hi => match us, its, hl, hi with | [_, _], [_], _, _ => ⟨_, rfl, rfl⟩
    cases v
    exact b
  have B1 := D0.funD.binds1 (ps := ["numerator", "denominator"]) 1 0 (by simp) rfl fun T kV doc pm an cdv ct us its hl hi => match us, its, hl, hi with | [_], [_], _, _ => ⟨_, rfl, rfl⟩
  refine ⟨f, fd, m0, D0.kp, B2, B1, D0.ok sc_fraction (fun vs H Q E h => pm_len len_fraction h) (fun A outer s H vs Q E hr h => ⟨_, (pss_cons (ps_set (i := 2) sc_fraction.nd rfl (.inl rfl) (pe_call G_common_divisor (hr.mono (by decide)) rfl m_common_divisor k_common_divisor b_common_divisor .nil pass0 (pa_cons (pv 0) (pa_cons (pv 1) pa_nil))))
      (pss_cons (ps_if (pt_cmpR op_lt (pv 1) pe_int (nomark _)) (pss_one (ps_set (i := 2) sc_fraction.nd rfl (.inl rfl) (pe_un un_neg (pv 2)))) pss_nil)
      (pss_one (ps_ret (pe_tup (pa_cons (pe_op op_fdivZ (pv 0) (pv 2)) (pa_cons (pe_op op_fdivZ (pv 1) (pv 2)) pa_nil))))))), pm_body rfl ?_ h⟩)⟩
  intro ds R hF
  obtain ⟨a, b, rfl, hb, hs, hR⟩ := hF
  refine sd_set (xd_call (ad_cons (x_var rfl rfl) (ad_cons (x_var rfl rfl) ad_nil)) (sp_common_divisor rfl)) ?_
  have key : ∀ Γ : Gm, Γ = [.val (.int a), .val (.int b), .val (.int (dvr a b))] → Sx K cs (tRet (tTup (tCons (tOp (rI CDivZ fun i j => .int (i.fdiv j)) (tVar 0) (tVar 2)) (tCons (tOp (rI CDivZ fun i j => .int (i.fdiv j)) (tVar 1) (tVar 2)) tNil)))) Γ (fun _ => R .none) R := by
    rintro Γ rfl
    refine sd_ret (xd_tup (ad_cons (xd_op od_I (x_var rfl rfl) (x_var rfl rfl) ⟨_, _, rfl, rfl, cdiv_dvr hb hs _, rfl⟩) (ad_cons (xd_op od_I (x_var rfl rfl) (x_var rfl rfl) ⟨_, _, rfl, rfl, cdiv_dvr hb hs _, rfl⟩) ad_nil)) (Nat.le_of_ble_eq_true rfl) rfl) ?_
    rw [frac_num hb, frac_den hb]
    exact hR
  refine sd_when (td_test (xd_op od_B0 (x_var rfl rfl) (x_int rfl) ⟨_, _, rfl, rfl, rfl⟩) rfl) (fun ht => ?_) (fun hf => ?_)
  · refine sd_asg (xd_neg (x_var rfl rfl)) (key _ ?_)
    have h : b < 0 := of_decide_eq_true ht
    unfold dvr
    rw [if_pos h]
    rfl
  · refine key _ ?_
    have h : ¬ b < 0 := of_decide_eq_false hf
    unfold dvr
    rw [if_neg h]
    rfl
/-! ### the rationals -/
def F_add (ds : List D) (R : D → Prop) : Prop := ∃ p q : Rat, ds = [dQ p, dQ q] ∧ Sz 4400 p ∧ Sz 4400 q ∧ R (dQ (p + q))
theorem len_add : ∀ ds R, F_add ds R → ds.length = 2 := fun _ _ ⟨_, _, h, _⟩ => by rw [h]; rfl
theorem sp_add {p q : Rat} {R : D → Prop} (hp : Sz 4400 p) (hq : Sz 4400 q) (h : R (dQ (p + q))) : F_add [dQ p, dQ q] R := ⟨p, q, rfl, hp, hq, h⟩
theorem den_ne (p q : Rat) : ((p.den : Int)) * (q.den : Int) ≠ 0 := by
  have h1 := p.den_pos
  have h2 := q.den_pos
  exact Int.mul_ne_zero (by omega) (by omega)
theorem den_mul_lt {p q : Rat} (hp : Sz 4400 p) (hq : Sz 4400 q) : (((p.den : Int)) * (q.den : Int)).natAbs < 2 ^ 8990 := by
  rw [Int.natAbs_mul]
  exact Nat.lt_of_lt_of_le (mul_lt_pow hp.2 hq.2) (pow_le (by decide))
theorem qmul {a b : Int} (ha : a.natAbs < 2 ^ 4400) (hb : b.natAbs < 2 ^ 4400) : CMulW a b := wmul ha hb (by decide) (by decide) (by decide)
abbrev N_add : List Str := ["first", "second"]
theorem sc_add : FnScope N_add ["first", "second"] (defScope (topS 5)) := ⟨rfl, rfl, rfl, by decide +kernel, rfl, by decide +kernel, by decide +kernel⟩
theorem ok_add (T : Tc P w K mg base cs) : Good P w K mg base cs "add" ["first", "second"] 3 F_add := by
  obtain ⟨f, c, fd, D0, m0, t0⟩ := T.fn 2 _ rfl
  obtain ⟨f_fraction, d_fraction, m_fraction, k_fraction, b_fraction, ⟨d1_fraction, v1_fraction, b1_fraction⟩, G_fraction⟩ := ok_fraction T
  refine ⟨f, fd, m0, D0.kp, D0.funD.bindsN (fun _ _ _ _ _ _ us hl => match us, hl with | [_, _], _ => rfl), D0.ok sc_add (fun vs H Q E h => pm_len len_add h) (fun A outer s H vs Q E hr h => ⟨_, (pss_one (ps_ret (pe_call G_fraction (hr.mono (by decide)) rfl m_fraction k_fraction b_fraction .nil pass0 (pa_cons (pe_op op_add (pe_op op_mulW (pe_ix (r := rIxT K) L2.ix_tup (pv 0) pe_int (fun _ _ => rfl)) (pe_ix (r := rIxT K) L2.ix_tup (pv 1) pe_int (fun _ _ => rfl))) (pe_op op_mulW (pe_ix (r := rIxT K) L2.ix_tup (pv 1) pe_int (fun _ _ => rfl)) (pe_ix (r := rIxT K) L2.ix_tup (pv 0) pe_int (fun _ _ => rfl)))) (pa_cons (pe_op op_mulW (pe_ix (r := rIxT K) L2.ix_tup (pv 0) pe_int (fun _ _ => rfl)) (pe_ix (r := rIxT K) L2.ix_tup (pv 1) pe_int (fun _ _ => rfl))) pa_nil))))), pm_body rfl ?_ h⟩)⟩
  intro ds R hF
  obtain ⟨p, q, rfl, hp, hq, hR⟩ := hF
  refine sd_ret (xd_call (ad_cons (xd_op od_I0 (xd_op od_I (xd_op od_ixT (x_var rfl rfl) (x_int rfl) ⟨_, _, _, rfl, rfl, rfl, rfl⟩) (xd_op od_ixT (x_var rfl rfl) (x_int rfl) ⟨_, _, _, rfl, rfl, rfl, rfl⟩) ⟨_, _, rfl, rfl, ?_, rfl⟩) (xd_op od_I (xd_op od_ixT (x_var rfl rfl) (x_int rfl) ⟨_, _, _, rfl, rfl, rfl, rfl⟩) (xd_op od_ixT (x_var rfl rfl) (x_int rfl) ⟨_, _, _, rfl, rfl, rfl, rfl⟩) ⟨_, _, rfl, rfl, ?_, rfl⟩) ⟨_, _, rfl, rfl, rfl⟩) (ad_cons (xd_op od_I (xd_op od_ixT (x_var rfl rfl) (x_int rfl) ⟨_, _, _, rfl, rfl, rfl, rfl⟩) (xd_op od_ixT (x_var rfl rfl) (x_int rfl) ⟨_, _, _, rfl, rfl, rfl, rfl⟩) ⟨_, _, rfl, rfl, ?_, rfl⟩) ad_nil)) ?_) hR
  · exact qmul hp.1 hq.2
  · exact qmul hq.1 hp.2
  · exact qmul hp.2 hq.2
  · exact ⟨_, _, rfl, den_ne p q, den_mul_lt hp hq, by rw [divInt_add]⟩
def F_negative (ds : List D) (R : D → Prop) : Prop := ∃ p : Rat, ds = [dQ p] ∧ R (dQ (-p))
theorem len_negative : ∀ ds R, F_negative ds R → ds.length = 1 := fun _ _ ⟨_, h, _⟩ => by rw [h]; rfl
theorem sp_negative {p : Rat} {R : D → Prop} (h : R (dQ (-p))) : F_negative [dQ p] R := ⟨p, rfl, h⟩
abbrev N_negative : List Str := ["value"]
theorem sc_negative : FnScope N_negative ["value"] (defScope (topS 6)) := ⟨rfl, rfl, rfl, by decide +kernel, rfl, by decide +kernel, by decide +kernel⟩
theorem ok_negative (T : Tc P w K mg base cs) : Good P w K mg base cs "negative" ["value"] 1 F_negative := by
  obtain ⟨f, c, fd, D0, m0, t0⟩ := T.fn 3 _ rfl
  refine ⟨f, fd, m0, D0.kp, D0.funD.bindsN (fun _ _ _ _ _ _ us hl => match us, hl with | [_], _ => rfl), D0.ok sc_negative (fun vs H Q E h => pm_len len_negative h) (fun A outer s H vs Q E hr h => ⟨_, (pss_one (ps_ret (pe_tup (pa_cons (pe_un un_neg (pe_ix (r := rIxT K) L2.ix_tup (pv 0) pe_int (fun _ _ => rfl))) (pa_cons (pe_ix (r := rIxT K) L2.ix_tup (pv 0) pe_int (fun _ _ => rfl)) pa_nil))))), pm_body rfl ?_ h⟩)⟩
  intro ds R hF
  obtain ⟨p, rfl, hR⟩ := hF
  exact sd_ret (xd_tup (ad_cons (xd_neg (xd_op od_ixT (x_var rfl rfl) (x_int rfl) ⟨_, _, _, rfl, rfl, rfl, rfl⟩)) (ad_cons (xd_op od_ixT (x_var rfl rfl) (x_int rfl) ⟨_, _, _, rfl, rfl, rfl, rfl⟩) ad_nil)) (Nat.le_of_ble_eq_true rfl) rfl) hR
def F_subtract (ds : List D) (R : D → Prop) : Prop := ∃ p q : Rat, ds = [dQ p, dQ q] ∧ Sz 4400 p ∧ Sz 4400 q ∧ R (dQ (p - q))
theorem len_subtract : ∀ ds R, F_subtract ds R → ds.length = 2 := fun _ _ ⟨_, _, h, _⟩ => by rw [h]; rfl
theorem sp_subtract {p q : Rat} {R : D → Prop} (hp : Sz 4400 p) (hq : Sz 4400 q) (h : R (dQ (p - q))) : F_subtract [dQ p, dQ q] R := ⟨p, q, rfl, hp, hq, h⟩
abbrev N_subtract : List Str := ["first", "second"]
theorem sc_subtract : FnScope N_subtract ["first", "second"] (defScope (topS 7)) := ⟨rfl, rfl, rfl, by decide +kernel, rfl, by decide +kernel, by decide +kernel⟩
theorem ok_subtract (T : Tc P w K mg base cs) : Good P w K mg base cs "subtract" ["first", "second"] 4 F_subtract := by
  obtain ⟨f, c, fd, D0, m0, t0⟩ := T.fn 4 _ rfl
  obtain ⟨f_add, d_add, m_add, k_add, b_add, G_add⟩ := ok_add T
  obtain ⟨f_negative, d_negative, m_negative, k_negative, b_negative, G_negative⟩ := ok_negative T
  refine ⟨f, fd, m0, D0.kp, D0.funD.bindsN (fun _ _ _ _ _ _ us hl => match us, hl with | [_, _], _ => rfl), D0.ok sc_subtract (fun vs H Q E h => pm_len len_subtract h) (fun A outer s H vs Q E hr h => ⟨_, (pss_one (ps_ret (pe_call G_add (hr.mono (by decide)) rfl m_add k_add b_add .nil pass0 (pa_cons (pv 0) (pa_cons (pe_call G_negative (hr.mono (by decide)) rfl m_negative k_negative b_negative .nil pass0 (pa_cons (pv 1) pa_nil)) pa_nil))))), pm_body rfl ?_ h⟩)⟩
  intro ds R hF
  obtain ⟨p, q, rfl, hp, hq, hR⟩ := hF
  rw [Rat.sub_eq_add_neg] at hR
  exact sd_ret (xd_call (ad_cons (x_var rfl rfl) (ad_cons (xd_call (ad_cons (x_var rfl rfl) ad_nil) (sp_negative rfl)) ad_nil)) (sp_add (Sz.mono hp (by decide : 4400 ≤ 4400)) (Sz.mono (Sz.neg hq) (by decide : 4400 ≤ 4400)) rfl)) hR
def F_multiply (ds : List D) (R : D → Prop) : Prop := ∃ p q : Rat, ds = [dQ p, dQ q] ∧ Sz 4400 p ∧ Sz 4400 q ∧ R (dQ (p * q))
theorem len_multiply : ∀ ds R, F_multiply ds R → ds.length = 2 := fun _ _ ⟨_, _, h, _⟩ => by rw [h]; rfl
theorem sp_multiply {p q : Rat} {R : D → Prop} (hp : Sz 4400 p) (hq : Sz 4400 q) (h : R (dQ (p * q))) : F_multiply [dQ p, dQ q] R := ⟨p, q, rfl, hp, hq, h⟩
abbrev N_multiply : List Str := ["first", "second"]
theorem sc_multiply : FnScope N_multiply ["first", "second"] (defScope (topS 8)) := ⟨rfl, rfl, rfl, by decide +kernel, rfl, by decide +kernel, by decide +kernel⟩
theorem ok_multiply (T : Tc P w K mg base cs) : Good P w K mg base cs "multiply" ["first", "second"] 3 F_multiply := by
  obtain ⟨f, c, fd, D0, m0, t0⟩ := T.fn 5 _ rfl
  obtain ⟨f_fraction, d_fraction, m_fraction, k_fraction, b_fraction, ⟨d1_fraction, v1_fraction, b1_fraction⟩, G_fraction⟩ := ok_fraction T
  refine ⟨f, fd, m0, D0.kp, D0.funD.bindsN (fun _ _ _ _ _ _ us hl => match us, hl with | [_, _], _ => rfl), D0.ok sc_multiply (fun vs H Q E h => pm_len len_multiply h) (fun A outer s H vs Q E hr h => ⟨_, (pss_one (ps_ret (pe_call G_fraction (hr.mono (by decide)) rfl m_fraction k_fraction b_fraction .nil pass0 (pa_cons (pe_op op_mulW (pe_ix (r := rIxT K) L2.ix_tup (pv 0) pe_int (fun _ _ => rfl)) (pe_ix (r := rIxT K) L2.ix_tup (pv 1) pe_int (fun _ _ => rfl))) (pa_cons (pe_op op_mulW (pe_ix (r := rIxT K) L2.ix_tup (pv 0) pe_int (fun _ _ => rfl)) (pe_ix (r := rIxT K) L2.ix_tup (pv 1) pe_int (fun _ _ => rfl))) pa_nil))))), pm_body rfl ?_ h⟩)⟩
  intro ds R hF
  obtain ⟨p, q, rfl, hp, hq, hR⟩ := hF
  refine sd_ret (xd_call (ad_cons (xd_op od_I (xd_op od_ixT (x_var rfl rfl) (x_int rfl) ⟨_, _, _, rfl, rfl, rfl, rfl⟩) (xd_op od_ixT (x_var rfl rfl) (x_int rfl) ⟨_, _, _, rfl, rfl, rfl, rfl⟩) ⟨_, _, rfl, rfl, ?_, rfl⟩) (ad_cons (xd_op od_I (xd_op od_ixT (x_var rfl rfl) (x_int rfl) ⟨_, _, _, rfl, rfl, rfl, rfl⟩) (xd_op od_ixT (x_var rfl rfl) (x_int rfl) ⟨_, _, _, rfl, rfl, rfl, rfl⟩) ⟨_, _, rfl, rfl, ?_, rfl⟩) ad_nil)) ?_) hR
  · exact qmul hp.1 hq.1
  · exact qmul hp.2 hq.2
  · exact ⟨_, _, rfl, den_ne p q, den_mul_lt hp hq, by rw [divInt_mul]⟩
def F_divide (ds : List D) (R : D → Prop) : Prop := ∃ p q : Rat, ds = [dQ p, dQ q] ∧ Sz 4400 p ∧ Sz 4400 q ∧ q ≠ 0 ∧ R (dQ (p / q))
theorem len_divide : ∀ ds R, F_divide ds R → ds.length = 2 := fun _ _ ⟨_, _, h, _⟩ => by rw [h]; rfl
theorem sp_divide {p q : Rat} {R : D → Prop} (hp : Sz 4400 p) (hq : Sz 4400 q) (h0 : q ≠ 0) (h : R (dQ (p / q))) : F_divide [dQ p, dQ q] R := ⟨p, q, rfl, hp, hq, h0, h⟩
abbrev N_divide : List Str := ["first", "second"]
theorem sc_divide : FnScope N_divide ["first", "second"] (defScope (topS 9)) := ⟨rfl, rfl, rfl, by decide +kernel, rfl, by decide +kernel, by decide +kernel⟩
theorem ok_divide (T : Tc P w K mg base cs) : Good P w K mg base cs "divide" ["first", "second"] 3 F_divide := by
  obtain ⟨f, c, fd, D0, m0, t0⟩ := T.fn 6 _ rfl
  obtain ⟨f_fraction, d_fraction, m_fraction, k_fraction, b_fraction, ⟨d1_fraction, v1_fraction, b1_fraction⟩, G_fraction⟩ := ok_fraction T
  refine ⟨f, fd, m0, D0.kp, D0.funD.bindsN (fun _ _ _ _ _ _ us hl => match us, hl with | [_, _], _ => rfl), D0.ok sc_divide (fun vs H Q E h => pm_len len_divide h) (fun A outer s H vs Q E hr h => ⟨_, (pss_one (ps_ret (pe_call G_fraction (hr.mono (by decide)) rfl m_fraction k_fraction b_fraction .nil pass0 (pa_cons (pe_op op_mulW (pe_ix (r := rIxT K) L2.ix_tup (pv 0) pe_int (fun _ _ => rfl)) (pe_ix (r := rIxT K) L2.ix_tup (pv 1) pe_int (fun _ _ => rfl))) (pa_cons (pe_op op_mulW (pe_ix (r := rIxT K) L2.ix_tup (pv 0) pe_int (fun _ _ => rfl)) (pe_ix (r := rIxT K) L2.ix_tup (pv 1) pe_int (fun _ _ => rfl))) pa_nil))))), pm_body rfl ?_ h⟩)⟩
  intro ds R hF
  obtain ⟨p, q, rfl, hp, hq, h0, hR⟩ := hF
  refine sd_ret (xd_call (ad_cons (xd_op od_I (xd_op od_ixT (x_var rfl rfl) (x_int rfl) ⟨_, _, _, rfl, rfl, rfl, rfl⟩) (xd_op od_ixT (x_var rfl rfl) (x_int rfl) ⟨_, _, _, rfl, rfl, rfl, rfl⟩) ⟨_, _, rfl, rfl, ?_, rfl⟩) (ad_cons (xd_op od_I (xd_op od_ixT (x_var rfl rfl) (x_int rfl) ⟨_, _, _, rfl, rfl, rfl, rfl⟩) (xd_op od_ixT (x_var rfl rfl) (x_int rfl) ⟨_, _, _, rfl, rfl, rfl, rfl⟩) ⟨_, _, rfl, rfl, ?_, rfl⟩) ad_nil)) ?_) hR
  · exact qmul hp.1 hq.2
  · exact qmul hp.2 hq.1
  · have h1 := p.den_pos
    have h2 : q.num ≠ 0 := fun e => h0 (Rat.num_eq_zero.mp e)
    refine ⟨_, _, rfl, Int.mul_ne_zero (by omega) h2, ?_, by rw [divInt_div]⟩
    rw [Int.natAbs_mul]
    exact Nat.lt_of_lt_of_le (mul_lt_pow hp.2 hq.1) (pow_le (by decide))
def F_sign (ds : List D) (R : D → Prop) : Prop := ∃ p : Rat, ds = [dQ p] ∧ R (.int (sg p))
theorem len_sign : ∀ ds R, F_sign ds R → ds.length = 1 := fun _ _ ⟨_, h, _⟩ => by rw [h]; rfl
theorem sp_sign {p : Rat} {R : D → Prop} (h : R (.int (sg p))) : F_sign [dQ p] R := ⟨p, rfl, h⟩
abbrev N_sign : List Str := ["value"]
theorem sc_sign : FnScope N_sign ["value"] (defScope (topS 10)) := ⟨rfl, rfl, rfl, by decide +kernel, rfl, by decide +kernel, by decide +kernel⟩
theorem ok_sign (T : Tc P w K mg base cs) : Good P w K mg base cs "sign" ["value"] 1 F_sign := by
  obtain ⟨f, c, fd, D0, m0, t0⟩ := T.fn 7 _ rfl
  refine ⟨f, fd, m0, D0.kp, D0.funD.bindsN (fun _ _ _ _ _ _ us hl => match us, hl with | [_], _ => rfl), D0.ok sc_sign (fun vs H Q E h => pm_len len_sign h) (fun A outer s H vs Q E hr h => ⟨_, (pss_cons (ps_if (pt_cmpR op_gt (pe_ix (r := rIxT K) L2.ix_tup (pv 0) pe_int (fun _ _ => rfl)) pe_int (nomark _)) (pss_one (ps_ret pe_int)) pss_nil)
      (pss_cons (ps_if (pt_cmpR op_lt (pe_ix (r := rIxT K) L2.ix_tup (pv 0) pe_int (fun _ _ => rfl)) pe_int (nomark _)) (pss_one (ps_ret (pe_un un_neg pe_int))) pss_nil)
      (pss_one (ps_ret pe_int)))), pm_body rfl ?_ h⟩)⟩
  intro ds R hF
  obtain ⟨p, rfl, hR⟩ := hF
  unfold sg at hR
  refine sd_when (td_test (xd_op od_B0 (xd_op od_ixT (x_var rfl rfl) (x_int rfl) ⟨_, _, _, rfl, rfl, rfl, rfl⟩) (x_int rfl) ⟨_, _, rfl, rfl, rfl⟩) rfl) (fun ht => ?_) (fun hf => ?_)
  · rw [if_pos (of_decide_eq_true ht)] at hR
    exact sd_ret (x_int rfl) hR
  · rw [if_neg (of_decide_eq_false hf)] at hR
    refine sd_when (td_test (xd_op od_B0 (xd_op od_ixT (x_var rfl rfl) (x_int rfl) ⟨_, _, _, rfl, rfl, rfl, rfl⟩) (x_int rfl) ⟨_, _, rfl, rfl, rfl⟩) rfl) (fun ht => ?_) (fun hf => ?_)
    · rw [if_pos (of_decide_eq_true ht)] at hR
      exact sd_ret (xd_neg (x_int rfl)) hR
    · rw [if_neg (of_decide_eq_false hf)] at hR
      exact sd_ret (x_int rfl) hR
def F_compare (ds : List D) (R : D → Prop) : Prop := ∃ p q : Rat, ds = [dQ p, dQ q] ∧ Sz 4400 p ∧ Sz 4400 q ∧ R (.int (sg (p - q)))
theorem len_compare : ∀ ds R, F_compare ds R → ds.length = 2 := fun _ _ ⟨_, _, h, _⟩ => by rw [h]; rfl
theorem sp_compare {p q : Rat} {R : D → Prop} (hp : Sz 4400 p) (hq : Sz 4400 q) (h : R (.int (sg (p - q)))) : F_compare [dQ p, dQ q] R := ⟨p, q, rfl, hp, hq, h⟩
abbrev N_compare : List Str := ["first", "second"]
theorem sc_compare : FnScope N_compare ["first", "second"] (defScope (topS 11)) := ⟨rfl, rfl, rfl, by decide +kernel, rfl, by decide +kernel, by decide +kernel⟩
theorem ok_compare (T : Tc P w K mg base cs) : Good P w K mg base cs "compare" ["first", "second"] 5 F_compare := by
  obtain ⟨f, c, fd, D0, m0, t0⟩ := T.fn 8 _ rfl
  obtain ⟨f_sign, d_sign, m_sign, k_sign, b_sign, G_sign⟩ := ok_sign T
  obtain ⟨f_subtract, d_subtract, m_subtract, k_subtract, b_subtract, G_subtract⟩ := ok_subtract T
  refine ⟨f, fd, m0, D0.kp, D0.funD.bindsN (fun _ _ _ _ _ _ us hl => match us, hl with | [_, _], _ => rfl), D0.ok sc_compare (fun vs H Q E h => pm_len len_compare h) (fun A outer s H vs Q E hr h => ⟨_, (pss_one (ps_ret (pe_call G_sign (hr.mono (by decide)) rfl m_sign k_sign b_sign .nil pass0 (pa_cons (pe_call G_subtract (hr.mono (by decide)) rfl m_subtract k_subtract b_subtract .nil pass0 (pa_cons (pv 0) (pa_cons (pv 1) pa_nil))) pa_nil)))), pm_body rfl ?_ h⟩)⟩
  intro ds R hF
  obtain ⟨p, q, rfl, hp, hq, hR⟩ := hF
  exact sd_ret (xd_call (ad_cons (xd_call (ad_cons (x_var rfl rfl) (ad_cons (x_var rfl rfl) ad_nil)) (sp_subtract (Sz.mono hp (by decide : 4400 ≤ 4400)) (Sz.mono hq (by decide : 4400 ≤ 4400)) rfl)) ad_nil) (sp_sign rfl)) hR
def F_is_less (ds : List D) (R : D → Prop) : Prop := ∃ p q : Rat, ds = [dQ p, dQ q] ∧ Sz 4400 p ∧ Sz 4400 q ∧ R (.bool (decide (p < q)))
theorem len_is_less : ∀ ds R, F_is_less ds R → ds.length = 2 := fun _ _ ⟨_, _, h, _⟩ => by rw [h]; rfl
theorem sp_is_less {p q : Rat} {R : D → Prop} (hp : Sz 4400 p) (hq : Sz 4400 q) (h : R (.bool (decide (p < q)))) : F_is_less [dQ p, dQ q] R := ⟨p, q, rfl, hp, hq, h⟩
abbrev N_is_less : List Str := ["first", "second"]
theorem sc_is_less : FnScope N_is_less ["first", "second"] (defScope (topS 12)) := ⟨rfl, rfl, rfl, by decide +kernel, rfl, by decide +kernel, by decide +kernel⟩
theorem ok_is_less (T : Tc P w K mg base cs) : Good P w K mg base cs "is_less" ["first", "second"] 6 F_is_less := by
  obtain ⟨f, c, fd, D0, m0, t0⟩ := T.fn 9 _ rfl
  obtain ⟨f_compare, d_compare, m_compare, k_compare, b_compare, G_compare⟩ := ok_compare T
  refine ⟨f, fd, m0, D0.kp, D0.funD.bindsN (fun _ _ _ _ _ _ us hl => match us, hl with | [_, _], _ => rfl), D0.ok sc_is_less (fun vs H Q E h => pm_len len_is_less h) (fun A outer s H vs Q E hr h => ⟨_, (pss_one (ps_ret (pe_cmpR op_lt (pe_call G_compare (hr.mono (by decide)) rfl m_compare k_compare b_compare .nil pass0 (pa_cons (pv 0) (pa_cons (pv 1) pa_nil))) pe_int (nomark _)))), pm_body rfl ?_ h⟩)⟩
  intro ds R hF
  obtain ⟨p, q, rfl, hp, hq, hR⟩ := hF
  refine sd_ret (xd_op od_B0 (xd_call (ad_cons (x_var rfl rfl) (ad_cons (x_var rfl rfl) ad_nil)) (sp_compare (Sz.mono hp (by decide : 4400 ≤ 4400)) (Sz.mono hq (by decide : 4400 ≤ 4400)) rfl)) (x_int rfl) ⟨_, _, rfl, rfl, rfl⟩) ?_
  rw [decide_eq_decide.mpr (sg_neg.trans lt_sub)]
  exact hR
def F_is_at_most (ds : List D) (R : D → Prop) : Prop := ∃ p q : Rat, ds = [dQ p, dQ q] ∧ Sz 4400 p ∧ Sz 4400 q ∧ R (.bool (decide (p ≤ q)))
theorem len_is_at_most : ∀ ds R, F_is_at_most ds R → ds.length = 2 := fun _ _ ⟨_, _, h, _⟩ => by rw [h]; rfl
theorem sp_is_at_most {p q : Rat} {R : D → Prop} (hp : Sz 4400 p) (hq : Sz 4400 q) (h : R (.bool (decide (p ≤ q)))) : F_is_at_most [dQ p, dQ q] R := ⟨p, q, rfl, hp, hq, h⟩
abbrev N_is_at_most : List Str := ["first", "second"]
theorem sc_is_at_most : FnScope N_is_at_most ["first", "second"] (defScope (topS 13)) := ⟨rfl, rfl, rfl, by decide +kernel, rfl, by decide +kernel, by decide +kernel⟩
theorem ok_is_at_most (T : Tc P w K mg base cs) : Good P w K mg base cs "is_at_most" ["first", "second"] 6 F_is_at_most := by
  obtain ⟨f, c, fd, D0, m0, t0⟩ := T.fn 10 _ rfl
  obtain ⟨f_compare, d_compare, m_compare, k_compare, b_compare, G_compare⟩ := ok_compare T
  refine ⟨f, fd, m0, D0.kp, D0.funD.bindsN (fun _ _ _ _ _ _ us hl => match us, hl with | [_, _], _ => rfl), D0.ok sc_is_at_most (fun vs H Q E h => pm_len len_is_at_most h) (fun A outer s H vs Q E hr h => ⟨_, (pss_one (ps_ret (pe_cmpR op_le (pe_call G_compare (hr.mono (by decide)) rfl m_compare k_compare b_compare .nil pass0 (pa_cons (pv 0) (pa_cons (pv 1) pa_nil))) pe_int (nomark _)))), pm_body rfl ?_ h⟩)⟩
  intro ds R hF
  obtain ⟨p, q, rfl, hp, hq, hR⟩ := hF
  refine sd_ret (xd_op od_B0 (xd_call (ad_cons (x_var rfl rfl) (ad_cons (x_var rfl rfl) ad_nil)) (sp_compare (Sz.mono hp (by decide : 4400 ≤ 4400)) (Sz.mono hq (by decide : 4400 ≤ 4400)) rfl)) (x_int rfl) ⟨_, _, rfl, rfl, rfl⟩) ?_
  rw [decide_eq_decide.mpr (sg_le.trans le_sub)]
  exact hR
/-! ### least_of: one of them, or None -/
def F_least_of (ds : List D) (R : D → Prop) : Prop := ∃ os : List (Option Rat), ds = [.list (os.map dO)] ∧ (∀ q, some q ∈ os → Sz 4400 q) ∧ R .none ∧ ∀ q, some q ∈ os → R (dQ q)
theorem len_least_of : ∀ ds R, F_least_of ds R → ds.length = 1 := fun _ _ ⟨_, h, _⟩ => by rw [h]; rfl
theorem isN_O (o : Option Rat) : isN (dO o) = o.isNone := by cases o <;> rfl
theorem gmap {os : List (Option Rat)} {i : Nat} {d : D} (h : (os.map dO)[i]? = some d) : ∃ o, o ∈ os ∧ d = dO o := by
  rw [List.getElem?_map] at h
  cases e : os[i]? with
  | none => rw [e] at h; cases h
  | some o => rw [e] at h; exact ⟨o, List.mem_of_getElem? e, (Option.some.inj h).symm⟩
abbrev N_least_of : List Str := ["values", "best", "value"]
theorem sc_least_of : FnScope N_least_of ["values"] (defScope (topS 14)) := ⟨rfl, rfl, rfl, by decide +kernel, rfl, by decide +kernel, by decide +kernel⟩
theorem ok_least_of (T : Tc P w K mg base cs) : Good P w K mg base cs "least_of" ["values"] 7 F_least_of := by
  obtain ⟨f, c, fd, D0, m0, t0⟩ := T.fn 11 _ rfl
  obtain ⟨f_is_less, d_is_less, m_is_less, k_is_less, b_is_less, G_is_less⟩ := ok_is_less T
  refine ⟨f, fd, m0, D0.kp, D0.funD.bindsN (fun _ _ _ _ _ _ us hl => match us, hl with | [_], _ => rfl), D0.ok sc_least_of (fun vs H Q E h => pm_len len_least_of h) (fun A outer s H vs Q E hr h => ⟨_, (pss_cons (ps_set (i := 1) sc_least_of.nd rfl (.inl rfl) pe_non)
      (pss_cons (ps_for PassesOwn.never rfl (pi_list (pv 0)) (pg_name (i := 2) sc_least_of.nd rfl (.inl rfl)) (pss_one (ps_if (PW.pt (pw_and (pt_cmp (pc_notN (pv 2))) (pw_and1 (PW.pt (pw_or (pt_cmp (pc_isN (pv 1))) (pw_or1 (pt_val (pe_call G_is_less (hr.mono (by decide)) rfl m_is_less k_is_less b_is_less .nil pass0 (pa_cons (pv 2) (pa_cons (pv 1) pa_nil)))))))))) (pss_one (ps_set (i := 1) sc_least_of.nd rfl (.inl rfl) (pv 2))) pss_nil)))
      (pss_one (ps_ret (pv 1))))), pm_body rfl ?_ h⟩)⟩
  intro ds R hF
  obtain ⟨os, rfl, hs, h0, h1⟩ := hF
  refine sd_set (x_non rfl) ?_
  refine s_seq (sd_for (ixd_list (x_var rfl rfl)) tg_name (fun _ Γ => ∃ (b : Option Rat) (z : Sl), (∀ q, b = some q → some q ∈ os) ∧ Γ = [.val (.list (os.map dO)), .val (dO b), z]) ⟨none, .no, (fun _ e => by cases e), rfl⟩ ?_ ?_)
  · rintro i d Γ' hd ⟨b, z, hb, rfl⟩
    obtain ⟨o, ho, rfl⟩ := gmap hd
    refine ⟨_, rfl, ?_⟩
    cases o with
    | none => exact sd_if (td_and (b := false) (td_B (xd_notN (x_var rfl rfl)) rfl) fun h => by cases h) (fun h => by cases h) fun _ => s_next ⟨b, _, hb, rfl⟩
    | some q =>
      refine sd_if (td_and (b := b.isNone || (match b with | some r => decide (q < r) | none => false)) (td_B (xd_notN (x_var rfl rfl)) rfl) fun _ => td_or (a := b.isNone) ((td_B (xd_isN (x_var rfl rfl)) rfl).mono fun _ e => by rw [← isN_O]; exact e) fun hb0 => ?_) (fun _ => ?_) fun _ => s_next ⟨b, _, hb, rfl⟩
      · cases b with
        | none => cases hb0
        | some r => exact td_B (xd_call (ad_cons (x_var rfl rfl) (ad_cons (x_var rfl rfl) ad_nil)) (sp_is_less (hs q ho) (hs r (hb r rfl)) rfl)) rfl
      · exact sd_asg (x_var rfl rfl) ⟨some q, _, (fun q' e => by cases e; exact ho), rfl⟩
  · rintro Γ' ⟨b, z, hb, rfl⟩
    refine s_ret (x_var rfl ?_)
    cases b with
    | none => exact h0
    | some q => exact h1 q (hb q rfl)
end Rt
set_option Elab.async false
set_option linter.all false
set_option maxRecDepth 100000
set_option maxHeartbeats 4000000
set_option exponentiation.threshold 100000
/-! The walk, part 2: maps. -/
namespace Rt
open PySem PySem.Spec PyProof.Rows L2 GxR Gx RZ
variable {P : Program} {w : World} {K : PySem.W.Frag} {mg : Str → Option Value} {base : Heap} {cs : List Addr}
def RSz (n : Nat) (r : Rat × Rat) : Prop := Sz n r.1 ∧ Sz n r.2
/-! ### maps -/
def F_element_map (ds : List D) (R : D → Prop) : Prop := ∃ e : El, ds = [dE e] ∧ e.Sz 1000 ∧ R (dM e.map)
theorem len_element_map : ∀ ds R, F_element_map ds R → ds.length = 1 := fun _ _ ⟨_, h, _⟩ => by rw [h]; rfl
theorem sp_element_map {e : El} {R : D → Prop} (h : e.Sz 1000) (k : R (dM e.map)) : F_element_map [dE e] R := ⟨e, rfl, h, k⟩
abbrev N_element_map : List Str := ["element"]
theorem sc_element_map : FnScope N_element_map ["element"] (defScope (topS 17)) := ⟨rfl, rfl, rfl, by decide +kernel, rfl, by decide +kernel, by decide +kernel⟩
theorem ok_element_map (T : Tc P w K mg base cs) : Good P w K mg base cs "element_map" ["element"] 4 F_element_map := by
  obtain ⟨f, c, fd, D0, m0, t0⟩ := T.fn 12 _ rfl
  obtain ⟨f_divide, d_divide, m_divide, k_divide, b_divide, G_divide⟩ := ok_divide T
  obtain ⟨f_multiply, d_multiply, m_multiply, k_multiply, b_multiply, G_multiply⟩ := ok_multiply T
  obtain ⟨f_negative, d_negative, m_negative, k_negative, b_negative, G_negative⟩ := ok_negative T
  obtain ⟨a_IDENTITY, m_IDENTITY, q_IDENTITY⟩ := T.ident
  obtain ⟨a_ZERO, m_ZERO, q_ZERO⟩ := T.zero
  obtain ⟨a_ONE, m_ONE, q_ONE⟩ := T.one
  refine ⟨f, fd, m0, D0.kp, D0.funD.bindsN (fun _ _ _ _ _ _ us hl => match us, hl with | [_], _ => rfl), D0.ok sc_element_map (fun vs H Q E h => pm_len len_element_map h) (fun A outer s H vs Q E hr h => ⟨_, (pss_cons (ps_if (pt_cmpR op_eq (pe_ix (r := rIxT K) L2.ix_tup (pv 0) pe_int (fun _ _ => rfl)) pe_str (nomark _)) (pss_one (ps_ret (pe_tup (pa_cons (pe_glob (v := .ref a_ONE) rfl m_ONE rfl) (pa_cons (pe_ix (r := rIxT K) L2.ix_tup (pv 0) pe_int (fun _ _ => rfl)) (pa_cons (pe_glob (v := .ref a_ZERO) rfl m_ZERO rfl) (pa_cons (pe_glob (v := .ref a_ONE) rfl m_ONE rfl) (pa_cons (pe_glob (v := .ref a_ZERO) rfl m_ZERO rfl) (pa_cons (pe_glob (v := .ref a_ZERO) rfl m_ZERO rfl) pa_nil))))))))) pss_nil)
      (pss_cons (ps_if (pt_cmpR op_eq (pe_ix (r := rIxT K) L2.ix_tup (pv 0) pe_int (fun _ _ => rfl)) pe_str (nomark _)) (pss_one (ps_ret (pe_tup (pa_cons (pe_glob (v := .ref a_ONE) rfl m_ONE rfl) (pa_cons (pe_glob (v := .ref a_ZERO) rfl m_ZERO rfl) (pa_cons (pe_call G_negative (hr.mono (by decide)) rfl m_negative k_negative b_negative .nil pass0 (pa_cons (pe_ix (r := rIxT K) L2.ix_tup (pv 0) pe_int (fun _ _ => rfl)) pa_nil)) (pa_cons (pe_glob (v := .ref a_ONE) rfl m_ONE rfl) (pa_cons (pe_glob (v := .ref a_ZERO) rfl m_ZERO rfl) (pa_cons (pe_call G_multiply (hr.mono (by decide)) rfl m_multiply k_multiply b_multiply .nil pass0 (pa_cons (pe_ix (r := rIxT K) L2.ix_tup (pv 0) pe_int (fun _ _ => rfl)) (pa_cons (pe_ix (r := rIxT K) L2.ix_tup (pv 0) pe_int (fun _ _ => rfl)) pa_nil))) pa_nil))))))))) pss_nil)
      (pss_cons (ps_if (pt_cmpR op_eq (pe_ix (r := rIxT K) L2.ix_tup (pv 0) pe_int (fun _ _ => rfl)) pe_str (nomark _)) (pss_one (ps_ret (pe_tup (pa_cons (pe_glob (v := .ref a_ONE) rfl m_ONE rfl) (pa_cons (pe_glob (v := .ref a_ZERO) rfl m_ZERO rfl) (pa_cons (pe_glob (v := .ref a_ZERO) rfl m_ZERO rfl) (pa_cons (pe_glob (v := .ref a_ONE) rfl m_ONE rfl) (pa_cons (pe_glob (v := .ref a_ZERO) rfl m_ZERO rfl) (pa_cons (pe_ix (r := rIxT K) L2.ix_tup (pv 0) pe_int (fun _ _ => rfl)) pa_nil))))))))) pss_nil)
      (pss_cons (ps_if (pt_cmpR op_eq (pe_ix (r := rIxT K) L2.ix_tup (pv 0) pe_int (fun _ _ => rfl)) pe_str (nomark _)) (pss_one (ps_ret (pe_tup (pa_cons (pe_ix (r := rIxT K) L2.ix_tup (pv 0) pe_int (fun _ _ => rfl)) (pa_cons (pe_glob (v := .ref a_ZERO) rfl m_ZERO rfl) (pa_cons (pe_glob (v := .ref a_ZERO) rfl m_ZERO rfl) (pa_cons (pe_call G_divide (hr.mono (by decide)) rfl m_divide k_divide b_divide .nil pass0 (pa_cons (pe_glob (v := .ref a_ONE) rfl m_ONE rfl) (pa_cons (pe_ix (r := rIxT K) L2.ix_tup (pv 0) pe_int (fun _ _ => rfl)) pa_nil))) (pa_cons (pe_glob (v := .ref a_ZERO) rfl m_ZERO rfl) (pa_cons (pe_glob (v := .ref a_ZERO) rfl m_ZERO rfl) pa_nil))))))))) pss_nil)
      (pss_one (ps_ret (pe_glob (v := .ref a_IDENTITY) rfl m_IDENTITY rfl))))))), pm_body rfl ?_ h⟩)⟩
  intro ds R hF
  obtain ⟨e, rfl, hs, hR⟩ := hF
  cases e with
  | gap l =>
    refine sd_when (td_test (xd_op od_eqS (xd_op od_ixT (x_var rfl rfl) (x_int rfl) ⟨_, _, _, rfl, rfl, rfl, rfl⟩) (x_str rfl) ⟨_, _, rfl, rfl, rfl⟩) rfl) (fun _ => ?_) (fun h => absurd h (by decide))
    exact sd_ret (xd_tup (ad_cons (x_con q_ONE rfl) (ad_cons (xd_op od_ixT (x_var rfl rfl) (x_int rfl) ⟨_, _, _, rfl, rfl, rfl, rfl⟩) (ad_cons (x_con q_ZERO rfl) (ad_cons (x_con q_ONE rfl) (ad_cons (x_con q_ZERO rfl) (ad_cons (x_con q_ZERO rfl) ad_nil)))))) (Nat.le_of_ble_eq_true rfl) rfl) hR
  | lens p o =>
    refine sd_when (td_test (xd_op od_eqS (xd_op od_ixT (x_var rfl rfl) (x_int rfl) ⟨_, _, _, rfl, rfl, rfl, rfl⟩) (x_str rfl) ⟨_, _, rfl, rfl, rfl⟩) rfl) (fun h => absurd h (by decide)) (fun _ => ?_)
    refine sd_when (td_test (xd_op od_eqS (xd_op od_ixT (x_var rfl rfl) (x_int rfl) ⟨_, _, _, rfl, rfl, rfl, rfl⟩) (x_str rfl) ⟨_, _, rfl, rfl, rfl⟩) rfl) (fun _ => ?_) (fun h => absurd h (by decide))
    exact sd_ret (xd_tup (ad_cons (x_con q_ONE rfl) (ad_cons (x_con q_ZERO rfl) (ad_cons (xd_call (ad_cons (xd_op od_ixT (x_var rfl rfl) (x_int rfl) ⟨_, _, _, rfl, rfl, rfl, rfl⟩) ad_nil) (sp_negative rfl)) (ad_cons (x_con q_ONE rfl) (ad_cons (x_con q_ZERO rfl) (ad_cons (xd_call (ad_cons (xd_op od_ixT (x_var rfl rfl) (x_int rfl) ⟨_, _, _, rfl, rfl, rfl, rfl⟩) (ad_cons (xd_op od_ixT (x_var rfl rfl) (x_int rfl) ⟨_, _, _, rfl, rfl, rfl, rfl⟩) ad_nil)) (sp_multiply (Sz.mono hs.1 (by decide : 1000 ≤ 4400)) (Sz.mono hs.2 (by decide : 1000 ≤ 4400)) rfl)) ad_nil)))))) (Nat.le_of_ble_eq_true rfl) rfl) hR
  | prism f =>
    refine sd_when (td_test (xd_op od_eqS (xd_op od_ixT (x_var rfl rfl) (x_int rfl) ⟨_, _, _, rfl, rfl, rfl, rfl⟩) (x_str rfl) ⟨_, _, rfl, rfl, rfl⟩) rfl) (fun h => absurd h (by decide)) (fun _ => ?_)
    refine sd_when (td_test (xd_op od_eqS (xd_op od_ixT (x_var rfl rfl) (x_int rfl) ⟨_, _, _, rfl, rfl, rfl, rfl⟩) (x_str rfl) ⟨_, _, rfl, rfl, rfl⟩) rfl) (fun h => absurd h (by decide)) (fun _ => ?_)
    refine sd_when (td_test (xd_op od_eqS (xd_op od_ixT (x_var rfl rfl) (x_int rfl) ⟨_, _, _, rfl, rfl, rfl, rfl⟩) (x_str rfl) ⟨_, _, rfl, rfl, rfl⟩) rfl) (fun _ => ?_) (fun h => absurd h (by decide))
    exact sd_ret (xd_tup (ad_cons (x_con q_ONE rfl) (ad_cons (x_con q_ZERO rfl) (ad_cons (x_con q_ZERO rfl) (ad_cons (x_con q_ONE rfl) (ad_cons (x_con q_ZERO rfl) (ad_cons (xd_op od_ixT (x_var rfl rfl) (x_int rfl) ⟨_, _, _, rfl, rfl, rfl, rfl⟩) ad_nil)))))) (Nat.le_of_ble_eq_true rfl) rfl) hR
  | afocal m =>
    refine sd_when (td_test (xd_op od_eqS (xd_op od_ixT (x_var rfl rfl) (x_int rfl) ⟨_, _, _, rfl, rfl, rfl, rfl⟩) (x_str rfl) ⟨_, _, rfl, rfl, rfl⟩) rfl) (fun h => absurd h (by decide)) (fun _ => ?_)
    refine sd_when (td_test (xd_op od_eqS (xd_op od_ixT (x_var rfl rfl) (x_int rfl) ⟨_, _, _, rfl, rfl, rfl, rfl⟩) (x_str rfl) ⟨_, _, rfl, rfl, rfl⟩) rfl) (fun h => absurd h (by decide)) (fun _ => ?_)
    refine sd_when (td_test (xd_op od_eqS (xd_op od_ixT (x_var rfl rfl) (x_int rfl) ⟨_, _, _, rfl, rfl, rfl, rfl⟩) (x_str rfl) ⟨_, _, rfl, rfl, rfl⟩) rfl) (fun h => absurd h (by decide)) (fun _ => ?_)
    refine sd_when (td_test (xd_op od_eqS (xd_op od_ixT (x_var rfl rfl) (x_int rfl) ⟨_, _, _, rfl, rfl, rfl, rfl⟩) (x_str rfl) ⟨_, _, rfl, rfl, rfl⟩) rfl) (fun _ => ?_) (fun h => absurd h (by decide))
    refine sd_ret (xd_tup (ad_cons (xd_op od_ixT (x_var rfl rfl) (x_int rfl) ⟨_, _, _, rfl, rfl, rfl, rfl⟩) (ad_cons (x_con q_ZERO rfl) (ad_cons (x_con q_ZERO rfl) (ad_cons (xd_call (ad_cons (x_con q_ONE rfl) (ad_cons (xd_op od_ixT (x_var rfl rfl) (x_int rfl) ⟨_, _, _, rfl, rfl, rfl, rfl⟩) ad_nil)) (sp_divide (Sz.mono (Sz.one (by decide)) (by decide : 1 ≤ 4400)) (Sz.mono hs.1 (by decide : 1000 ≤ 4400)) ?_ rfl)) (ad_cons (x_con q_ZERO rfl) (ad_cons (x_con q_ZERO rfl) ad_nil)))))) (Nat.le_of_ble_eq_true rfl) rfl) hR
    exact hs.2
  | stop lo hi =>
    refine sd_when (td_test (xd_op od_eqS (xd_op od_ixT (x_var rfl rfl) (x_int rfl) ⟨_, _, _, rfl, rfl, rfl, rfl⟩) (x_str rfl) ⟨_, _, rfl, rfl, rfl⟩) rfl) (fun h => absurd h (by decide)) (fun _ => ?_)
    refine sd_when (td_test (xd_op od_eqS (xd_op od_ixT (x_var rfl rfl) (x_int rfl) ⟨_, _, _, rfl, rfl, rfl, rfl⟩) (x_str rfl) ⟨_, _, rfl, rfl, rfl⟩) rfl) (fun h => absurd h (by decide)) (fun _ => ?_)
    refine sd_when (td_test (xd_op od_eqS (xd_op od_ixT (x_var rfl rfl) (x_int rfl) ⟨_, _, _, rfl, rfl, rfl, rfl⟩) (x_str rfl) ⟨_, _, rfl, rfl, rfl⟩) rfl) (fun h => absurd h (by decide)) (fun _ => ?_)
    refine sd_when (td_test (xd_op od_eqS (xd_op od_ixT (x_var rfl rfl) (x_int rfl) ⟨_, _, _, rfl, rfl, rfl, rfl⟩) (x_str rfl) ⟨_, _, rfl, rfl, rfl⟩) rfl) (fun h => absurd h (by decide)) (fun _ => ?_)
    exact sd_ret (x_con q_IDENTITY rfl) hR
def F_weighted (ds : List D) (R : D → Prop) : Prop := ∃ a b c d : Rat, ds = [dQ a, dQ b, dQ c, dQ d] ∧ Sz 1000 a ∧ Sz 1000 b ∧ Sz 1000 c ∧ Sz 1000 d ∧ R (dQ (a * b + c * d))
theorem len_weighted : ∀ ds R, F_weighted ds R → ds.length = 4 := fun _ _ ⟨_, _, _, _, h, _⟩ => by rw [h]; rfl
theorem sp_weighted {a b c d : Rat} {R : D → Prop} (ha : Sz 1000 a) (hb : Sz 1000 b) (hc : Sz 1000 c) (hd : Sz 1000 d) (k : R (dQ (a * b + c * d))) : F_weighted [dQ a, dQ b, dQ c, dQ d] R := ⟨a, b, c, d, rfl, ha, hb, hc, hd, k⟩
abbrev N_weighted : List Str := ["first", "one", "second", "other"]
theorem sc_weighted : FnScope N_weighted ["first", "one", "second", "other"] (defScope (topS 18)) := ⟨rfl, rfl, rfl, by decide +kernel, rfl, by decide +kernel, by decide +kernel⟩
theorem ok_weighted (T : Tc P w K mg base cs) : Good P w K mg base cs "weighted" ["first", "one", "second", "other"] 4 F_weighted := by
  obtain ⟨f, c, fd, D0, m0, t0⟩ := T.fn 13 _ rfl
  obtain ⟨f_add, d_add, m_add, k_add, b_add, G_add⟩ := ok_add T
  obtain ⟨f_multiply, d_multiply, m_multiply, k_multiply, b_multiply, G_multiply⟩ := ok_multiply T
  refine ⟨f, fd, m0, D0.kp, D0.funD.bindsN (fun _ _ _ _ _ _ us hl => match us, hl with | [_, _, _, _], _ => rfl), D0.ok sc_weighted (fun vs H Q E h => pm_len len_weighted h) (fun A outer s H vs Q E hr h => ⟨_, (pss_one (ps_ret (pe_call G_add (hr.mono (by decide)) rfl m_add k_add b_add .nil pass0 (pa_cons (pe_call G_multiply (hr.mono (by decide)) rfl m_multiply k_multiply b_multiply .nil pass0 (pa_cons (pv 0) (pa_cons (pv 1) pa_nil))) (pa_cons (pe_call G_multiply (hr.mono (by decide)) rfl m_multiply k_multiply b_multiply .nil pass0 (pa_cons (pv 2) (pa_cons (pv 3) pa_nil))) pa_nil))))), pm_body rfl ?_ h⟩)⟩
  intro ds R hF
  obtain ⟨a, b, c, d, rfl, ha, hb, hc, hd, hR⟩ := hF
  exact sd_ret (xd_call (ad_cons (xd_call (ad_cons (x_var rfl rfl) (ad_cons (x_var rfl rfl) ad_nil)) (sp_multiply (Sz.mono ha (by decide : 1000 ≤ 4400)) (Sz.mono hb (by decide : 1000 ≤ 4400)) rfl)) (ad_cons (xd_call (ad_cons (x_var rfl rfl) (ad_cons (x_var rfl rfl) ad_nil)) (sp_multiply (Sz.mono hc (by decide : 1000 ≤ 4400)) (Sz.mono hd (by decide : 1000 ≤ 4400)) rfl)) ad_nil)) (sp_add (Sz.mono (Sz.mul ha hb) (by decide : 2000 ≤ 4400)) (Sz.mono (Sz.mul hc hd) (by decide : 2000 ≤ 4400)) rfl)) hR
def F_apply_map (ds : List D) (R : D → Prop) : Prop := ∃ (m : Mp) (r : Rat × Rat), ds = [dM m, dR r] ∧ m.Sz 1000 ∧ RSz 1000 r ∧ R (dR (m.app r))
theorem len_apply_map : ∀ ds R, F_apply_map ds R → ds.length = 2 := fun _ _ ⟨_, _, h, _⟩ => by rw [h]; rfl
theorem sp_apply_map {m : Mp} {r : Rat × Rat} {R : D → Prop} (h : m.Sz 1000) (hr : RSz 1000 r) (k : R (dR (m.app r))) : F_apply_map [dM m, dR r] R := ⟨m, r, rfl, h, hr, k⟩
abbrev N_apply_map : List Str := ["map_used", "ray", "a", "b", "c", "d", "e", "f"]
theorem sc_apply_map : FnScope N_apply_map ["map_used", "ray"] (defScope (topS 19)) := ⟨rfl, rfl, rfl, by decide +kernel, rfl, by decide +kernel, by decide +kernel⟩
theorem ok_apply_map (T : Tc P w K mg base cs) : Good P w K mg base cs "apply_map" ["map_used", "ray"] 5 F_apply_map := by
  obtain ⟨f, c, fd, D0, m0, t0⟩ := T.fn 14 _ rfl
  obtain ⟨f_add, d_add, m_add, k_add, b_add, G_add⟩ := ok_add T
  obtain ⟨f_weighted, d_weighted, m_weighted, k_weighted, b_weighted, G_weighted⟩ := ok_weighted T
  refine ⟨f, fd, m0, D0.kp, D0.funD.bindsN (fun _ _ _ _ _ _ us hl => match us, hl with | [_, _], _ => rfl), D0.ok sc_apply_map (fun vs H Q E h => pm_len len_apply_map h) (fun A outer s H vs Q E hr h => ⟨_, (pss_cons (ps_asg (pv 0) (pg_tup rfl (pgs_cons (pg_name (i := 2) sc_apply_map.nd rfl (.inl rfl)) (pgs_cons (pg_name (i := 3) sc_apply_map.nd rfl (.inl rfl)) (pgs_cons (pg_name (i := 4) sc_apply_map.nd rfl (.inl rfl)) (pgs_cons (pg_name (i := 5) sc_apply_map.nd rfl (.inl rfl)) (pgs_cons (pg_name (i := 6) sc_apply_map.nd rfl (.inl rfl)) (pgs_cons (pg_name (i := 7) sc_apply_map.nd rfl (.inl rfl)) pgs_nil))))))))
      (pss_one (ps_ret (pe_tup (pa_cons (pe_call G_add (hr.mono (by decide)) rfl m_add k_add b_add .nil pass0 (pa_cons (pe_call G_weighted (hr.mono (by decide)) rfl m_weighted k_weighted b_weighted .nil pass0 (pa_cons (pv 2) (pa_cons (pe_ix (r := rIxT K) L2.ix_tup (pv 1) pe_int (fun _ _ => rfl)) (pa_cons (pv 3) (pa_cons (pe_ix (r := rIxT K) L2.ix_tup (pv 1) pe_int (fun _ _ => rfl)) pa_nil))))) (pa_cons (pv 6) pa_nil))) (pa_cons (pe_call G_add (hr.mono (by decide)) rfl m_add k_add b_add .nil pass0 (pa_cons (pe_call G_weighted (hr.mono (by decide)) rfl m_weighted k_weighted b_weighted .nil pass0 (pa_cons (pv 4) (pa_cons (pe_ix (r := rIxT K) L2.ix_tup (pv 1) pe_int (fun _ _ => rfl)) (pa_cons (pv 5) (pa_cons (pe_ix (r := rIxT K) L2.ix_tup (pv 1) pe_int (fun _ _ => rfl)) pa_nil))))) (pa_cons (pv 7) pa_nil))) pa_nil)))))), pm_body rfl ?_ h⟩)⟩
  intro ds R hF
  obtain ⟨m, r, rfl, ⟨ha, hb, hc, hd, he, hf⟩, ⟨h0, h1⟩, hR⟩ := hF
  refine sd_unp (tg_tup (js := [2, 3, 4, 5, 6, 7]) rfl) (x_var rfl rfl) rfl ?_
  exact sd_ret (xd_tup (ad_cons (xd_call (ad_cons (xd_call (ad_cons (x_var rfl rfl) (ad_cons (xd_op od_ixT (x_var rfl rfl) (x_int rfl) ⟨_, _, _, rfl, rfl, rfl, rfl⟩) (ad_cons (x_var rfl rfl) (ad_cons (xd_op od_ixT (x_var rfl rfl) (x_int rfl) ⟨_, _, _, rfl, rfl, rfl, rfl⟩) ad_nil)))) (sp_weighted (Sz.mono ha (by decide : 1000 ≤ 1000)) (Sz.mono h0 (by decide : 1000 ≤ 1000)) (Sz.mono hb (by decide : 1000 ≤ 1000)) (Sz.mono h1 (by decide : 1000 ≤ 1000)) rfl)) (ad_cons (x_var rfl rfl) ad_nil)) (sp_add (Sz.mono (Sz.add (Sz.mul ha h0) (Sz.mul hb h1)) (by decide : 4001 ≤ 4400)) (Sz.mono he (by decide : 1000 ≤ 4400)) rfl)) (ad_cons (xd_call (ad_cons (xd_call (ad_cons (x_var rfl rfl) (ad_cons (xd_op od_ixT (x_var rfl rfl) (x_int rfl) ⟨_, _, _, rfl, rfl, rfl, rfl⟩) (ad_cons (x_var rfl rfl) (ad_cons (xd_op od_ixT (x_var rfl rfl) (x_int rfl) ⟨_, _, _, rfl, rfl, rfl, rfl⟩) ad_nil)))) (sp_weighted (Sz.mono hc (by decide : 1000 ≤ 1000)) (Sz.mono h0 (by decide : 1000 ≤ 1000)) (Sz.mono hd (by decide : 1000 ≤ 1000)) (Sz.mono h1 (by decide : 1000 ≤ 1000)) rfl)) (ad_cons (x_var rfl rfl) ad_nil)) (sp_add (Sz.mono (Sz.add (Sz.mul hc h0) (Sz.mul hd h1)) (by decide : 4001 ≤ 4400)) (Sz.mono hf (by decide : 1000 ≤ 4400)) rfl)) ad_nil)) (Nat.le_of_ble_eq_true rfl) rfl) hR
def F_compose_maps (ds : List D) (R : D → Prop) : Prop := ∃ m n : Mp, ds = [dM m, dM n] ∧ m.Sz 1000 ∧ n.Sz 1000 ∧ R (dM (m.then n))
theorem len_compose_maps : ∀ ds R, F_compose_maps ds R → ds.length = 2 := fun _ _ ⟨_, _, h, _⟩ => by rw [h]; rfl
theorem sp_compose_maps {m n : Mp} {R : D → Prop} (h : m.Sz 1000) (hr : n.Sz 1000) (k : R (dM (m.then n))) : F_compose_maps [dM m, dM n] R := ⟨m, n, rfl, h, hr, k⟩
abbrev N_compose_maps : List Str := ["first", "second", "a", "b", "c", "d", "e", "f", "k", "m", "n", "o", "p", "q", "top", "bottom", "end"]
theorem sc_compose_maps : FnScope N_compose_maps ["first", "second"] (defScope (topS 20)) := ⟨rfl, rfl, rfl, by decide +kernel, rfl, by decide +kernel, by decide +kernel⟩
theorem ok_compose_maps (T : Tc P w K mg base cs) : Good P w K mg base cs "compose_maps" ["first", "second"] 5 F_compose_maps := by
  obtain ⟨f, c, fd, D0, m0, t0⟩ := T.fn 15 _ rfl
  obtain ⟨f_add, d_add, m_add, k_add, b_add, G_add⟩ := ok_add T
  obtain ⟨f_weighted, d_weighted, m_weighted, k_weighted, b_weighted, G_weighted⟩ := ok_weighted T
  refine ⟨f, fd, m0, D0.kp, D0.funD.bindsN (fun _ _ _ _ _ _ us hl => match us, hl with | [_, _], _ => rfl), D0.ok sc_compose_maps (fun vs H Q E h => pm_len len_compose_maps h) (fun A outer s H vs Q E hr h => ⟨_, (pss_cons (ps_asg (pv 0) (pg_tup rfl (pgs_cons (pg_name (i := 2) sc_compose_maps.nd rfl (.inl rfl)) (pgs_cons (pg_name (i := 3) sc_compose_maps.nd rfl (.inl rfl)) (pgs_cons (pg_name (i := 4) sc_compose_maps.nd rfl (.inl rfl)) (pgs_cons (pg_name (i := 5) sc_compose_maps.nd rfl (.inl rfl)) (pgs_cons (pg_name (i := 6) sc_compose_maps.nd rfl (.inl rfl)) (pgs_cons (pg_name (i := 7) sc_compose_maps.nd rfl (.inl rfl)) pgs_nil))))))))
      (pss_cons (ps_asg (pv 1) (pg_tup rfl (pgs_cons (pg_name (i := 8) sc_compose_maps.nd rfl (.inl rfl)) (pgs_cons (pg_name (i := 9) sc_compose_maps.nd rfl (.inl rfl)) (pgs_cons (pg_name (i := 10) sc_compose_maps.nd rfl (.inl rfl)) (pgs_cons (pg_name (i := 11) sc_compose_maps.nd rfl (.inl rfl)) (pgs_cons (pg_name (i := 12) sc_compose_maps.nd rfl (.inl rfl)) (pgs_cons (pg_name (i := 13) sc_compose_maps.nd rfl (.inl rfl)) pgs_nil))))))))
      (pss_cons (ps_set (i := 14) sc_compose_maps.nd rfl (.inl rfl) (pe_tup (pa_cons (pe_call G_weighted (hr.mono (by decide)) rfl m_weighted k_weighted b_weighted .nil pass0 (pa_cons (pv 8) (pa_cons (pv 2) (pa_cons (pv 9) (pa_cons (pv 4) pa_nil))))) (pa_cons (pe_call G_weighted (hr.mono (by decide)) rfl m_weighted k_weighted b_weighted .nil pass0 (pa_cons (pv 8) (pa_cons (pv 3) (pa_cons (pv 9) (pa_cons (pv 5) pa_nil))))) pa_nil))))
      (pss_cons (ps_set (i := 15) sc_compose_maps.nd rfl (.inl rfl) (pe_tup (pa_cons (pe_call G_weighted (hr.mono (by decide)) rfl m_weighted k_weighted b_weighted .nil pass0 (pa_cons (pv 10) (pa_cons (pv 2) (pa_cons (pv 11) (pa_cons (pv 4) pa_nil))))) (pa_cons (pe_call G_weighted (hr.mono (by decide)) rfl m_weighted k_weighted b_weighted .nil pass0 (pa_cons (pv 10) (pa_cons (pv 3) (pa_cons (pv 11) (pa_cons (pv 5) pa_nil))))) pa_nil))))
      (pss_cons (ps_set (i := 16) sc_compose_maps.nd rfl (.inl rfl) (pe_tup (pa_cons (pe_call G_add (hr.mono (by decide)) rfl m_add k_add b_add .nil pass0 (pa_cons (pe_call G_weighted (hr.mono (by decide)) rfl m_weighted k_weighted b_weighted .nil pass0 (pa_cons (pv 8) (pa_cons (pv 6) (pa_cons (pv 9) (pa_cons (pv 7) pa_nil))))) (pa_cons (pv 12) pa_nil))) (pa_cons (pe_call G_add (hr.mono (by decide)) rfl m_add k_add b_add .nil pass0 (pa_cons (pe_call G_weighted (hr.mono (by decide)) rfl m_weighted k_weighted b_weighted .nil pass0 (pa_cons (pv 10) (pa_cons (pv 6) (pa_cons (pv 11) (pa_cons (pv 7) pa_nil))))) (pa_cons (pv 13) pa_nil))) pa_nil))))
      (pss_one (ps_ret (pe_op op_catT (pe_op op_catT (pv 14) (pv 15)) (pv 16))))))))), pm_body rfl ?_ h⟩)⟩
  intro ds R hF
  obtain ⟨m, n, rfl, ⟨ha, hb, hc, hd, he, hf⟩, ⟨ga, gb, gc, gd, ge, gf⟩, hR⟩ := hF
  refine sd_unp (tg_tup (js := [2, 3, 4, 5, 6, 7]) rfl) (x_var rfl rfl) rfl ?_
  refine sd_unp (tg_tup (js := [8, 9, 10, 11, 12, 13]) rfl) (x_var rfl rfl) rfl ?_
  try simp only [entG, setG, List.map_cons, List.map_nil, List.cons_append, List.nil_append, List.length_cons, List.length_nil, Nat.reduceAdd, Nat.reduceSub, List.replicate_succ, List.replicate_zero, List.set_cons_zero, List.set_cons_succ]
  refine sd_set (xd_tup (ad_cons (xd_call (ad_cons (x_var rfl rfl) (ad_cons (x_var rfl rfl) (ad_cons (x_var rfl rfl) (ad_cons (x_var rfl rfl) ad_nil)))) (sp_weighted (Sz.mono ga (by decide : 1000 ≤ 1000)) (Sz.mono ha (by decide : 1000 ≤ 1000)) (Sz.mono gb (by decide : 1000 ≤ 1000)) (Sz.mono hc (by decide : 1000 ≤ 1000)) rfl)) (ad_cons (xd_call (ad_cons (x_var rfl rfl) (ad_cons (x_var rfl rfl) (ad_cons (x_var rfl rfl) (ad_cons (x_var rfl rfl) ad_nil)))) (sp_weighted (Sz.mono ga (by decide : 1000 ≤ 1000)) (Sz.mono hb (by decide : 1000 ≤ 1000)) (Sz.mono gb (by decide : 1000 ≤ 1000)) (Sz.mono hd (by decide : 1000 ≤ 1000)) rfl)) ad_nil)) (Nat.le_of_ble_eq_true rfl) rfl) ?_
  try simp only [entG, setG, List.map_cons, List.map_nil, List.cons_append, List.nil_append, List.length_cons, List.length_nil, Nat.reduceAdd, Nat.reduceSub, List.replicate_succ, List.replicate_zero, List.set_cons_zero, List.set_cons_succ]
  refine sd_set (xd_tup (ad_cons (xd_call (ad_cons (x_var rfl rfl) (ad_cons (x_var rfl rfl) (ad_cons (x_var rfl rfl) (ad_cons (x_var rfl rfl) ad_nil)))) (sp_weighted (Sz.mono gc (by decide : 1000 ≤ 1000)) (Sz.mono ha (by decide : 1000 ≤ 1000)) (Sz.mono gd (by decide : 1000 ≤ 1000)) (Sz.mono hc (by decide : 1000 ≤ 1000)) rfl)) (ad_cons (xd_call (ad_cons (x_var rfl rfl) (ad_cons (x_var rfl rfl) (ad_cons (x_var rfl rfl) (ad_cons (x_var rfl rfl) ad_nil)))) (sp_weighted (Sz.mono gc (by decide : 1000 ≤ 1000)) (Sz.mono hb (by decide : 1000 ≤ 1000)) (Sz.mono gd (by decide : 1000 ≤ 1000)) (Sz.mono hd (by decide : 1000 ≤ 1000)) rfl)) ad_nil)) (Nat.le_of_ble_eq_true rfl) rfl) ?_
  try simp only [entG, setG, List.map_cons, List.map_nil, List.cons_append, List.nil_append, List.length_cons, List.length_nil, Nat.reduceAdd, Nat.reduceSub, List.replicate_succ, List.replicate_zero, List.set_cons_zero, List.set_cons_succ]
  refine sd_set (xd_tup (ad_cons (xd_call (ad_cons (xd_call (ad_cons (x_var rfl rfl) (ad_cons (x_var rfl rfl) (ad_cons (x_var rfl rfl) (ad_cons (x_var rfl rfl) ad_nil)))) (sp_weighted (Sz.mono ga (by decide : 1000 ≤ 1000)) (Sz.mono he (by decide : 1000 ≤ 1000)) (Sz.mono gb (by decide : 1000 ≤ 1000)) (Sz.mono hf (by decide : 1000 ≤ 1000)) rfl)) (ad_cons (x_var rfl rfl) ad_nil)) (sp_add (Sz.mono (Sz.add (Sz.mul ga he) (Sz.mul gb hf)) (by decide : 4001 ≤ 4400)) (Sz.mono ge (by decide : 1000 ≤ 4400)) rfl)) (ad_cons (xd_call (ad_cons (xd_call (ad_cons (x_var rfl rfl) (ad_cons (x_var rfl rfl) (ad_cons (x_var rfl rfl) (ad_cons (x_var rfl rfl) ad_nil)))) (sp_weighted (Sz.mono gc (by decide : 1000 ≤ 1000)) (Sz.mono he (by decide : 1000 ≤ 1000)) (Sz.mono gd (by decide : 1000 ≤ 1000)) (Sz.mono hf (by decide : 1000 ≤ 1000)) rfl)) (ad_cons (x_var rfl rfl) ad_nil)) (sp_add (Sz.mono (Sz.add (Sz.mul gc he) (Sz.mul gd hf)) (by decide : 4001 ≤ 4400)) (Sz.mono gf (by decide : 1000 ≤ 4400)) rfl)) ad_nil)) (Nat.le_of_ble_eq_true rfl) rfl) ?_
  try simp only [entG, setG, List.map_cons, List.map_nil, List.cons_append, List.nil_append, List.length_cons, List.length_nil, Nat.reduceAdd, Nat.reduceSub, List.replicate_succ, List.replicate_zero, List.set_cons_zero, List.set_cons_succ]
  exact sd_ret (xd_op od_catT (xd_op od_catT (x_var rfl rfl) (x_var rfl rfl) ⟨_, _, rfl, rfl, (by simp), (by simp), (by simp), rfl⟩) (x_var rfl rfl) ⟨_, _, rfl, rfl, (by simp), (by simp), (by simp), rfl⟩) hR
def F_invert_map (ds : List D) (R : D → Prop) : Prop := ∃ m : Mp, ds = [dM m] ∧ m.Sz 1000 ∧ R (dM m.inv)
theorem len_invert_map : ∀ ds R, F_invert_map ds R → ds.length = 1 := fun _ _ ⟨_, h, _⟩ => by rw [h]; rfl
theorem sp_invert_map {m : Mp} {R : D → Prop} (h : m.Sz 1000) (k : R (dM m.inv)) : F_invert_map [dM m] R := ⟨m, rfl, h, k⟩
abbrev N_invert_map : List Str := ["map_used", "a", "b", "c", "d", "e", "f", "end"]
theorem sc_invert_map : FnScope N_invert_map ["map_used"] (defScope (topS 21)) := ⟨rfl, rfl, rfl, by decide +kernel, rfl, by decide +kernel, by decide +kernel⟩
theorem ok_invert_map (T : Tc P w K mg base cs) : Good P w K mg base cs "invert_map" ["map_used"] 5 F_invert_map := by
  obtain ⟨f, c, fd, D0, m0, t0⟩ := T.fn 16 _ rfl
  obtain ⟨f_negative, d_negative, m_negative, k_negative, b_negative, G_negative⟩ := ok_negative T
  obtain ⟨f_subtract, d_subtract, m_subtract, k_subtract, b_subtract, G_subtract⟩ := ok_subtract T
  obtain ⟨f_multiply, d_multiply, m_multiply, k_multiply, b_multiply, G_multiply⟩ := ok_multiply T
  refine ⟨f, fd, m0, D0.kp, D0.funD.bindsN (fun _ _ _ _ _ _ us hl => match us, hl with | [_], _ => rfl), D0.ok sc_invert_map (fun vs H Q E h => pm_len len_invert_map h) (fun A outer s H vs Q E hr h => ⟨_, (pss_cons (ps_asg (pv 0) (pg_tup rfl (pgs_cons (pg_name (i := 1) sc_invert_map.nd rfl (.inl rfl)) (pgs_cons (pg_name (i := 2) sc_invert_map.nd rfl (.inl rfl)) (pgs_cons (pg_name (i := 3) sc_invert_map.nd rfl (.inl rfl)) (pgs_cons (pg_name (i := 4) sc_invert_map.nd rfl (.inl rfl)) (pgs_cons (pg_name (i := 5) sc_invert_map.nd rfl (.inl rfl)) (pgs_cons (pg_name (i := 6) sc_invert_map.nd rfl (.inl rfl)) pgs_nil))))))))
      (pss_cons (ps_set (i := 7) sc_invert_map.nd rfl (.inl rfl) (pe_tup (pa_cons (pe_call G_subtract (hr.mono (by decide)) rfl m_subtract k_subtract b_subtract .nil pass0 (pa_cons (pe_call G_multiply (hr.mono (by decide)) rfl m_multiply k_multiply b_multiply .nil pass0 (pa_cons (pv 2) (pa_cons (pv 6) pa_nil))) (pa_cons (pe_call G_multiply (hr.mono (by decide)) rfl m_multiply k_multiply b_multiply .nil pass0 (pa_cons (pv 4) (pa_cons (pv 5) pa_nil))) pa_nil))) (pa_cons (pe_call G_subtract (hr.mono (by decide)) rfl m_subtract k_subtract b_subtract .nil pass0 (pa_cons (pe_call G_multiply (hr.mono (by decide)) rfl m_multiply k_multiply b_multiply .nil pass0 (pa_cons (pv 3) (pa_cons (pv 5) pa_nil))) (pa_cons (pe_call G_multiply (hr.mono (by decide)) rfl m_multiply k_multiply b_multiply .nil pass0 (pa_cons (pv 1) (pa_cons (pv 6) pa_nil))) pa_nil))) pa_nil))))
      (pss_one (ps_ret (pe_op op_catT (pe_tup (pa_cons (pv 4) (pa_cons (pe_call G_negative (hr.mono (by decide)) rfl m_negative k_negative b_negative .nil pass0 (pa_cons (pv 2) pa_nil)) (pa_cons (pe_call G_negative (hr.mono (by decide)) rfl m_negative k_negative b_negative .nil pass0 (pa_cons (pv 3) pa_nil)) (pa_cons (pv 1) pa_nil))))) (pv 7)))))), pm_body rfl ?_ h⟩)⟩
  intro ds R hF
  obtain ⟨m, rfl, ⟨ha, hb, hc, hd, he, hf⟩, hR⟩ := hF
  refine sd_unp (tg_tup (js := [1, 2, 3, 4, 5, 6]) rfl) (x_var rfl rfl) rfl ?_
  refine sd_set (xd_tup (ad_cons (xd_call (ad_cons (xd_call (ad_cons (x_var rfl rfl) (ad_cons (x_var rfl rfl) ad_nil)) (sp_multiply (Sz.mono hb (by decide : 1000 ≤ 4400)) (Sz.mono hf (by decide : 1000 ≤ 4400)) rfl)) (ad_cons (xd_call (ad_cons (x_var rfl rfl) (ad_cons (x_var rfl rfl) ad_nil)) (sp_multiply (Sz.mono hd (by decide : 1000 ≤ 4400)) (Sz.mono he (by decide : 1000 ≤ 4400)) rfl)) ad_nil)) (sp_subtract (Sz.mono (Sz.mul hb hf) (by decide : 2000 ≤ 4400)) (Sz.mono (Sz.mul hd he) (by decide : 2000 ≤ 4400)) rfl)) (ad_cons (xd_call (ad_cons (xd_call (ad_cons (x_var rfl rfl) (ad_cons (x_var rfl rfl) ad_nil)) (sp_multiply (Sz.mono hc (by decide : 1000 ≤ 4400)) (Sz.mono he (by decide : 1000 ≤ 4400)) rfl)) (ad_cons (xd_call (ad_cons (x_var rfl rfl) (ad_cons (x_var rfl rfl) ad_nil)) (sp_multiply (Sz.mono ha (by decide : 1000 ≤ 4400)) (Sz.mono hf (by decide : 1000 ≤ 4400)) rfl)) ad_nil)) (sp_subtract (Sz.mono (Sz.mul hc he) (by decide : 2000 ≤ 4400)) (Sz.mono (Sz.mul ha hf) (by decide : 2000 ≤ 4400)) rfl)) ad_nil)) (Nat.le_of_ble_eq_true rfl) rfl) ?_
  exact sd_ret (xd_op od_catT (xd_tup (ad_cons (x_var rfl rfl) (ad_cons (xd_call (ad_cons (x_var rfl rfl) ad_nil) (sp_negative rfl)) (ad_cons (xd_call (ad_cons (x_var rfl rfl) ad_nil) (sp_negative rfl)) (ad_cons (x_var rfl rfl) ad_nil)))) (Nat.le_of_ble_eq_true rfl) rfl) (x_var rfl rfl) ⟨_, _, rfl, rfl, (by simp), (by simp), (by simp), rfl⟩) hR
theorem El.Sz.mono {n m : Nat} {e : El} (h : e.Sz n) (k : n ≤ m) : e.Sz m := by
  cases e with
  | gap l => exact Rt.Sz.mono h k
  | lens p o => exact ⟨Rt.Sz.mono h.1 k, Rt.Sz.mono h.2 k⟩
  | prism f => exact Rt.Sz.mono h k
  | afocal m => exact ⟨Rt.Sz.mono h.1 k, h.2⟩
  | stop lo hi => exact ⟨fun q e => Rt.Sz.mono (h.1 q e) k, fun q e => Rt.Sz.mono (h.2 q e) k⟩
theorem El.map_Sz {e : El} (h : e.Sz 400) : e.map.Sz 1000 := by
  have z : Rt.Sz 1000 0 := Sz.zero (by decide)
  have o : Rt.Sz 1000 1 := Sz.one (by decide)
  cases e with
  | gap l => exact ⟨o, Rt.Sz.mono h (by decide), z, o, z, z⟩
  | lens p q => exact ⟨o, z, Rt.Sz.mono h.1.neg (by decide), o, z, Rt.Sz.mono (h.1.mul h.2) (by decide)⟩
  | prism f => exact ⟨o, z, z, o, z, Rt.Sz.mono h (by decide)⟩
  | afocal m => exact ⟨Rt.Sz.mono h.1 (by decide), z, z, Rt.Sz.mono ((Sz.one (n := 1) (by decide)).div h.1) (by decide), z, z⟩
  | stop lo hi => exact ⟨o, z, z, o, z, z⟩
/-- the map of a train -/
def tmap (t : List El) : Mp := t.foldl (fun m e => m.then e.map) Mp.one
theorem tmap_snoc (t : List El) (e : El) : tmap (t ++ [e]) = (tmap t).then e.map := by unfold tmap; rw [List.foldl_append]; rfl
/-- a train whose maps are short on the way -/
def TSz (t : List El) : Prop := (∀ e ∈ t, e.Sz 400) ∧ ∀ i, (tmap (t.take i)).Sz 1000
theorem gmapE {α : Type} {g : α → D} {os : List α} {i : Nat} {d : D} (h : (os.map g)[i]? = some d) : ∃ o, os[i]? = some o ∧ d = g o := by
  rw [List.getElem?_map] at h
  cases e : os[i]? with
  | none => rw [e] at h; cases h
  | some o => rw [e] at h; exact ⟨o, rfl, (Option.some.inj h).symm⟩
theorem take_snoc {α : Type} {t : List α} {i : Nat} {e : α} (h : t[i]? = some e) : t.take (i + 1) = t.take i ++ [e] := by rw [List.take_add_one, h]; rfl
def F_ray_transfer (ds : List D) (R : D → Prop) : Prop := ∃ t : List El, ds = [dT t] ∧ TSz t ∧ R (dM (tmap t))
theorem len_ray_transfer : ∀ ds R, F_ray_transfer ds R → ds.length = 1 := fun _ _ ⟨_, h, _⟩ => by rw [h]; rfl
theorem sp_ray_transfer {t : List El} {R : D → Prop} (h : TSz t) (k : R (dM (tmap t))) : F_ray_transfer [dT t] R := ⟨t, rfl, h, k⟩
abbrev N_ray_transfer : List Str := ["train", "found", "element"]
theorem sc_ray_transfer : FnScope N_ray_transfer ["train"] (defScope (topS 22)) := ⟨rfl, rfl, rfl, by decide +kernel, rfl, by decide +kernel, by decide +kernel⟩
theorem ok_ray_transfer (T : Tc P w K mg base cs) : Good P w K mg base cs "ray_transfer" ["train"] 6 F_ray_transfer := by
  obtain ⟨f, c, fd, D0, m0, t0⟩ := T.fn 17 _ rfl
  obtain ⟨f_compose_maps, d_compose_maps, m_compose_maps, k_compose_maps, b_compose_maps, G_compose_maps⟩ := ok_compose_maps T
  obtain ⟨f_element_map, d_element_map, m_element_map, k_element_map, b_element_map, G_element_map⟩ := ok_element_map T
  obtain ⟨a_IDENTITY, m_IDENTITY, q_IDENTITY⟩ := T.ident
  refine ⟨f, fd, m0, D0.kp, D0.funD.bindsN (fun _ _ _ _ _ _ us hl => match us, hl with | [_], _ => rfl), D0.ok sc_ray_transfer (fun vs H Q E h => pm_len len_ray_transfer h) (fun A outer s H vs Q E hr h => ⟨_, (pss_cons (ps_set (i := 1) sc_ray_transfer.nd rfl (.inl rfl) (pe_glob (v := .ref a_IDENTITY) rfl m_IDENTITY rfl))
      (pss_cons (ps_for PassesOwn.never rfl (pi_list (pv 0)) (pg_name (i := 2) sc_ray_transfer.nd rfl (.inl rfl)) (pss_one (ps_set (i := 1) sc_ray_transfer.nd rfl (.inl rfl) (pe_call G_compose_maps (hr.mono (by decide)) rfl m_compose_maps k_compose_maps b_compose_maps .nil pass0 (pa_cons (pv 1) (pa_cons (pe_call G_element_map (hr.mono (by decide)) rfl m_element_map k_element_map b_element_map .nil pass0 (pa_cons (pv 2) pa_nil)) pa_nil))))))
      (pss_one (ps_ret (pv 1))))), pm_body rfl ?_ h⟩)⟩
  intro ds R hF
  obtain ⟨t, rfl, ⟨hs, hm⟩, hR⟩ := hF
  refine sd_set (x_con q_IDENTITY rfl) ?_
  refine s_seq (sd_for (ixd_list (x_var rfl rfl)) tg_name (fun i Γ => ∃ z : Sl, Γ = [.val (dT t), .val (dM (tmap (t.take i))), z]) ⟨.no, rfl⟩ ?_ ?_)
  · rintro i d Γ' hd ⟨z, rfl⟩
    obtain ⟨e, he, rfl⟩ := gmapE hd
    refine ⟨_, rfl, sd_asg (xd_call (ad_cons (x_var rfl rfl) (ad_cons (xd_call (ad_cons (x_var rfl rfl) ad_nil) (sp_element_map ((hs e (List.mem_of_getElem? he)).mono (by decide)) rfl)) ad_nil)) (sp_compose_maps (hm i) ?_ rfl)) ⟨.val (dE e), ?_⟩⟩
    · exact El.map_Sz (hs e (List.mem_of_getElem? he))
    · rw [take_snoc he, tmap_snoc]
      rfl
  · rintro Γ' ⟨z, rfl⟩
    rw [List.length_map, List.take_length]
    exact sd_ret (x_var rfl rfl) hR
end Rt
set_option Elab.async false
set_option linter.all false
set_option maxRecDepth 100000
set_option maxHeartbeats 4000000
set_option exponentiation.threshold 100000
/-! The walk, part 3: half-planes. -/
namespace Rt
open PySem PySem.Spec PyProof.Rows L2 GxR Gx RZ
variable {P : Program} {w : World} {K : PySem.W.Frag} {mg : Str → Option Value} {base : Heap} {cs : List Addr}
/-- the half-plane of p, q, r in whole numbers without a common divisor -/
def plP (p q r : Rat) : Int := p.num * (q.den * r.den)
def plQ (p q r : Rat) : Int := q.num * (p.den * r.den)
def plR (p q r : Rat) : Int := r.num * (p.den * q.den)
def plG (p q r : Rat) : Int := (Int.gcd (Int.gcd (plP p q r) (plQ p q r) : Int) (plR p q r) : Int)
def mkPl (p q r : Rat) : Pl := ⟨plP p q r / plG p q r, plQ p q r / plG p q r, plR p q r / plG p q r⟩
def F_make_half_plane (ds : List D) (R : D → Prop) : Prop := ∃ p q r : Rat, ds = [dQ p, dQ q, dQ r] ∧ Sz 1000 p ∧ Sz 1000 q ∧ Sz 2500 r ∧ (p ≠ 0 ∨ q ≠ 0) ∧ R (dP (mkPl p q r))
theorem len_make_half_plane : ∀ ds R, F_make_half_plane ds R → ds.length = 3 := fun _ _ ⟨_, _, _, h, _⟩ => by rw [h]; rfl
theorem sp_make_half_plane {p q r : Rat} {R : D → Prop} (hp : Sz 1000 p) (hq : Sz 1000 q) (hr : Sz 2500 r) (h : p ≠ 0 ∨ q ≠ 0) (k : R (dP (mkPl p q r))) : F_make_half_plane [dQ p, dQ q, dQ r] R := ⟨p, q, r, rfl, hp, hq, hr, h, k⟩
theorem mul_ne {a b : Int} (h : a ≠ 0) (k : b ≠ 0) : a * b ≠ 0 := Int.mul_ne_zero h k
theorem denI_ne (p : Rat) : (p.den : Int) ≠ 0 := by have := p.den_pos; omega
theorem log_lt {n : Nat} {a : Int} (h : a.natAbs < 2 ^ n) (h0 : 0 < n) (h1 : n ≤ 9000) : a.natAbs.log2 < 9000 := Nat.lt_of_lt_of_le (PySem.Flt.log2_lt_of h0 h) h1
theorem scP (p q r : Rat) : ((p.den : Int) * q.den * r.den).fdiv (p.den : Int) = q.den * r.den := by
  rw [Int.mul_assoc]
  exact Int.mul_fdiv_cancel_left _ (denI_ne p)
theorem scQ (p q r : Rat) : ((p.den : Int) * q.den * r.den).fdiv (q.den : Int) = p.den * r.den := by
  have e : (p.den : Int) * q.den * r.den = (q.den : Int) * (p.den * r.den) := by grind
  rw [e]
  exact Int.mul_fdiv_cancel_left _ (denI_ne q)
theorem scR (p q r : Rat) : ((p.den : Int) * q.den * r.den).fdiv (r.den : Int) = p.den * q.den := by
  have e : (p.den : Int) * q.den * r.den = (r.den : Int) * (p.den * q.den) := by grind
  rw [e]
  exact Int.mul_fdiv_cancel_left _ (denI_ne r)
theorem iabs_mul {a b : Int} {n m k : Nat} (h : a.natAbs < 2 ^ n) (k1 : b.natAbs < 2 ^ m) (e : n + m = k) : (a * b).natAbs < 2 ^ k := by
  rw [Int.natAbs_mul, ← e]
  exact mul_lt_pow h k1
theorem plG_ne {p q r : Rat} (h : p ≠ 0 ∨ q ≠ 0) : plG p q r ≠ 0 := fun e => by
  unfold plG at e
  have e1 := Int.gcd_eq_zero_iff.mp (Int.ofNat.inj e)
  have e2 := Int.gcd_eq_zero_iff.mp (Int.ofNat.inj e1.1)
  rcases h with h | h
  · exact mul_ne (fun z => h (Rat.num_eq_zero.mp z)) (mul_ne (denI_ne q) (denI_ne r)) e2.1
  · exact mul_ne (fun z => h (Rat.num_eq_zero.mp z)) (mul_ne (denI_ne p) (denI_ne r)) e2.2
theorem plG_dvd (p q r : Rat) : plG p q r ∣ plP p q r ∧ plG p q r ∣ plQ p q r ∧ plG p q r ∣ plR p q r := by
  unfold plG
  have h := Int.gcd_dvd_left (Int.gcd (plP p q r) (plQ p q r) : Int) (plR p q r)
  exact ⟨Int.dvd_trans h (Int.gcd_dvd_left _ _), Int.dvd_trans h (Int.gcd_dvd_right _ _), Int.gcd_dvd_right _ _⟩
theorem plG_nn (p q r : Rat) : 0 ≤ plG p q r := Int.natCast_nonneg _
theorem plG_lt {p q r : Rat} (hp : Sz 1000 p) (hq : Sz 1000 q) (hr : Sz 2500 r) (h : p ≠ 0 ∨ q ≠ 0) : (plG p q r).natAbs < 2 ^ 4500 := by
  have hd := plG_dvd p q r
  rcases h with h | h
  · have h1 : plP p q r ≠ 0 := mul_ne (fun z => h (Rat.num_eq_zero.mp z)) (mul_ne (denI_ne q) (denI_ne r))
    have h2 := Int.natAbs_dvd_natAbs.mpr hd.1
    refine Nat.lt_of_le_of_lt (Nat.le_of_dvd (Int.natAbs_pos.mpr h1) h2) ?_
    exact iabs_mul hp.1 (iabs_mul (den_lt hq) (den_lt hr) (by decide : 1000 + 2500 = 3500)) (by decide)
  · have h1 : plQ p q r ≠ 0 := mul_ne (fun z => h (Rat.num_eq_zero.mp z)) (mul_ne (denI_ne p) (denI_ne r))
    have h2 := Int.natAbs_dvd_natAbs.mpr hd.2.1
    refine Nat.lt_of_le_of_lt (Nat.le_of_dvd (Int.natAbs_pos.mpr h1) h2) ?_
    exact iabs_mul hq.1 (iabs_mul (den_lt hp) (den_lt hr) (by decide : 1000 + 2500 = 3500)) (by decide)
theorem fdiv_plG {p q r : Rat} (a : Int) : a.fdiv (plG p q r) = a / plG p q r := Int.fdiv_eq_ediv_of_nonneg _ (plG_nn p q r)
abbrev N_make_half_plane : List Str := ["p", "q", "r", "scale", "parts", "divisor", "part"]
theorem sc_make_half_plane : FnScope N_make_half_plane ["p", "q", "r"] (defScope (topS 27)) := ⟨rfl, rfl, rfl, by decide +kernel, rfl, by decide +kernel, by decide +kernel⟩
theorem ok_make_half_plane (T : Tc P w K mg base cs) : Good P w K mg base cs "make_half_plane" ["p", "q", "r"] 2 F_make_half_plane := by
  obtain ⟨f, c, fd, D0, m0, t0⟩ := T.fn 18 _ rfl
  obtain ⟨f_common_divisor, d_common_divisor, m_common_divisor, k_common_divisor, b_common_divisor, G_common_divisor⟩ := ok_common_divisor T
  obtain ⟨a_ZERO, m_ZERO, q_ZERO⟩ := T.zero
  refine ⟨f, fd, m0, D0.kp, D0.funD.bindsN (fun _ _ _ _ _ _ us hl => match us, hl with | [_, _, _], _ => rfl), D0.ok sc_make_half_plane (fun vs H Q E h => pm_len len_make_half_plane h) (fun A outer s H vs Q E hr h => ⟨_, (pss_cons (ps_if (PW.pt (pw_and (pt_cmpR (op_eqD hr.units) (pv 0) (pe_glob (v := .ref a_ZERO) rfl m_ZERO rfl) (nomark _)) (pw_and1 (pt_cmpR (op_eqD hr.units) (pv 1) (pe_glob (v := .ref a_ZERO) rfl m_ZERO rfl) (nomark _))))) (pss_one ps_never) pss_nil)
      (pss_cons (ps_set (i := 3) sc_make_half_plane.nd rfl (.inr rfl) (pe_op op_mulW (pe_op op_mulW (pe_ix (r := rIxT K) L2.ix_tup (pv 0) pe_int (fun _ _ => rfl)) (pe_ix (r := rIxT K) L2.ix_tup (pv 1) pe_int (fun _ _ => rfl))) (pe_ix (r := rIxT K) L2.ix_tup (pv 2) pe_int (fun _ _ => rfl))))
      (pss_cons (ps_setLc (i := 4) (own := [("part", 6)]) rfl sc_make_half_plane.nd rfl rfl (sw_true rfl rfl rfl rfl) (pi_tup (pe_tup (pa_cons (pv 0) (pa_cons (pv 1) (pa_cons (pv 2) pa_nil))))) (blkOk_by (N := N_make_half_plane) (sc := defScope (topS 27)) (by decide +kernel)) (fun s H C cl fp => (pg_name (i := 6) sc_make_half_plane.nd rfl (.inl rfl) (.inr rfl))) (fun s H C cl fp => pts_nil) (fun s H C cl fp => (pe_op op_mulW (pe_ix (r := rIxT K) L2.ix_tup (pv 6) pe_int (fun _ _ => rfl)) (pe_op op_fdivZ (pv 3) (pe_ix (r := rIxT K) L2.ix_tup (pv 6) pe_int (fun _ _ => rfl))))))
      (pss_cons (ps_set (i := 5) sc_make_half_plane.nd rfl (.inl rfl) (pe_call G_common_divisor (hr.mono (by decide)) rfl m_common_divisor k_common_divisor b_common_divisor .nil pass0 (pa_cons (pe_call G_common_divisor (hr.mono (by decide)) rfl m_common_divisor k_common_divisor b_common_divisor .nil pass0 (pa_cons (pe_ix (r := rIxL K) L2.ix_list (pv 4) pe_int (fun _ _ => rfl)) (pa_cons (pe_ix (r := rIxL K) L2.ix_list (pv 4) pe_int (fun _ _ => rfl)) pa_nil))) (pa_cons (pe_ix (r := rIxL K) L2.ix_list (pv 4) pe_int (fun _ _ => rfl)) pa_nil))))
      (pss_one (ps_ret (pe_tup (pa_cons (pe_op op_fdivZ (pe_ix (r := rIxL K) L2.ix_list (pv 4) pe_int (fun _ _ => rfl)) (pv 5)) (pa_cons (pe_op op_fdivZ (pe_ix (r := rIxL K) L2.ix_list (pv 4) pe_int (fun _ _ => rfl)) (pv 5)) (pa_cons (pe_op op_fdivZ (pe_ix (r := rIxL K) L2.ix_list (pv 4) pe_int (fun _ _ => rfl)) (pv 5)) pa_nil)))))))))), pm_body rfl ?_ h⟩)⟩
  intro ds R hF
  obtain ⟨p, q, r, rfl, hp, hq, hr', h0, hR⟩ := hF
  refine sd_when (td_and (td_test (xd_op od_eqD (x_var rfl rfl) (x_con q_ZERO rfl) ⟨rfl, rfl, rfl⟩) rfl) (fun _ => (td_test (xd_op od_eqD (x_var rfl rfl) (x_con q_ZERO rfl) ⟨rfl, rfl, rfl⟩) rfl))) (fun h => ?_) (fun _ => ?_)
  · rw [eqv_Q, eqv_Q] at h
    simp only [Bool.and_eq_true, decide_eq_true_eq] at h
    rcases h0 with z | z
    · exact absurd h.1 z
    · exact absurd h.2 z
  have sP : ((p.den : Int)).natAbs < 2 ^ 1000 := den_lt hp
  have sQ : ((q.den : Int)).natAbs < 2 ^ 1000 := den_lt hq
  have sR : ((r.den : Int)).natAbs < 2 ^ 2500 := den_lt hr'
  have sPQ : ((p.den : Int) * q.den).natAbs < 2 ^ 2000 := iabs_mul sP sQ rfl
  have sS : ((p.den : Int) * q.den * r.den).natAbs < 2 ^ 4500 := iabs_mul sPQ sR rfl
  refine sd_set (xd_op od_I (xd_op od_I (xd_op od_ixT (x_var rfl rfl) (x_int rfl) ⟨_, _, _, rfl, rfl, rfl, rfl⟩) (xd_op od_ixT (x_var rfl rfl) (x_int rfl) ⟨_, _, _, rfl, rfl, rfl, rfl⟩) ⟨_, _, rfl, rfl, ?_, rfl⟩) (xd_op od_ixT (x_var rfl rfl) (x_int rfl) ⟨_, _, _, rfl, rfl, rfl, rfl⟩) ⟨_, _, rfl, rfl, ?_, rfl⟩) ?_
  · exact wmul sP sQ (by decide) (by decide) (by decide)
  · exact wmul sPQ sR (by decide) (by decide) (by decide)
  try simp only [entG, setG, List.map_cons, List.map_nil, List.cons_append, List.nil_append, List.length_cons, List.length_nil, Nat.reduceAdd, Nat.reduceSub, List.replicate_succ, List.replicate_zero, List.set_cons_zero, List.set_cons_succ]
  have key : ∀ (x : Rat) (c : Int), Sz 2500 x → ((p.den : Int) * q.den * r.den).fdiv x.den = c → CMulW x.num c → ∃ es, (fun d => some [d]) (dQ x) = some es ∧ Xd K cs (tOp (rI CMulW fun i j => V.int (i * j)) (tOp (rIxT K) (tVar 6) (tC (V.int 0))) (tOp (rI CDivZ fun i j => V.int (i.fdiv j)) (tVar 3) (tOp (rIxT K) (tVar 6) (tC (V.int 1))))) (setG (clr [Sl.val (dQ p), Sl.val (dQ q), Sl.val (dQ r), Sl.val (.int ((p.den : Int) * q.den * r.den)), Sl.no, Sl.no, Sl.no] [6]) [6] es) (.int (x.num * c)) := by
    intro x c hx hc hm
    refine ⟨_, rfl, ?_⟩
    refine Xd.to (xd_op od_I (xd_op od_ixT (x_var rfl rfl) (x_int rfl) ⟨_, _, _, rfl, rfl, rfl, rfl⟩) (xd_op od_I (x_var rfl rfl) (xd_op od_ixT (x_var rfl rfl) (x_int rfl) ⟨_, _, _, rfl, rfl, rfl, rfl⟩) ⟨_, _, rfl, rfl, ?_, rfl⟩) ⟨_, _, rfl, rfl, ?_, rfl⟩) (by rw [hc])
    · exact ⟨denI_ne x, log_lt (den_lt hx) (by decide) (by decide)⟩
    · rw [hc]
      exact hm
  refine sd_set (d := .list [.int (plP p q r), .int (plQ p q r), .int (plR p q r)]) (x_lc (R := Eq _) (ixd_tup (xd_tup (ad_cons (x_var rfl rfl) (ad_cons (x_var rfl rfl) (ad_cons (x_var rfl rfl) ad_nil))) (Nat.le_of_ble_eq_true rfl) rfl)) tg_name (by decide) fun ds e => ?_) ?_
  · subst e
    refine ⟨Nat.le_of_ble_eq_true rfl, fun pre acc => (pre.length = 0 ∧ acc = []) ∨ (pre.length = 1 ∧ acc = [.int (plP p q r)]) ∨ (pre.length = 2 ∧ acc = [.int (plP p q r), .int (plQ p q r)]) ∨ (pre.length = 3 ∧ acc = [.int (plP p q r), .int (plQ p q r), .int (plR p q r)]), .inl ⟨rfl, rfl⟩, fun i d acc hd ha => ?_, fun rs h => ?_⟩
    · have h3 : i = 0 ∨ i = 1 ∨ i = 2 := by
        have := (List.getElem?_eq_some_iff.mp hd).1
        simp only [List.length_cons, List.length_nil] at this
        omega
      rcases h3 with rfl | rfl | rfl
      · cases hd
        obtain ⟨es, e1, e2⟩ := key p _ (hp.mono (by decide)) (scP p q r) (wmul hp.1 (iabs_mul sQ sR rfl) (by decide) (by decide) (by decide))
        refine ⟨es, e1, _, t_yes (P := fun b => b = true) rfl, fun _ => e2.mono fun z ez => ?_, fun h => by cases h⟩
        subst ez
        simp only [List.take_zero, List.length_nil, List.take_succ_cons, List.length_cons] at ha
        rcases ha with h | h | h | h
        · exact .inr (.inl ⟨rfl, by rw [h.2]; rfl⟩)
        · omega
        · omega
        · omega
      · cases hd
        obtain ⟨es, e1, e2⟩ := key q _ (hq.mono (by decide)) (scQ p q r) (wmul hq.1 (iabs_mul sP sR rfl) (by decide) (by decide) (by decide))
        refine ⟨es, e1, _, t_yes (P := fun b => b = true) rfl, fun _ => e2.mono fun z ez => ?_, fun h => by cases h⟩
        subst ez
        simp only [List.take_zero, List.length_nil, List.take_succ_cons, List.length_cons] at ha
        rcases ha with h | h | h | h
        · omega
        · exact .inr (.inr (.inl ⟨rfl, by rw [h.2]; rfl⟩))
        · omega
        · omega
      · cases hd
        obtain ⟨es, e1, e2⟩ := key r _ hr' (scR p q r) (wmul hr'.1 (iabs_mul sP sQ rfl) (by decide) (by decide) (by decide))
        refine ⟨es, e1, _, t_yes (P := fun b => b = true) rfl, fun _ => e2.mono fun z ez => ?_, fun h => by cases h⟩
        subst ez
        simp only [List.take_zero, List.length_nil, List.take_succ_cons, List.length_cons] at ha
        rcases ha with h | h | h | h
        · omega
        · omega
        · exact .inr (.inr (.inr ⟨rfl, by rw [h.2]; rfl⟩))
        · omega
    · simp only [List.length_cons, List.length_nil] at h
      rcases h with h | h | h | h
      · omega
      · omega
      · omega
      · rw [h.2]
  try simp only [entG, setG, List.map_cons, List.map_nil, List.cons_append, List.nil_append, List.length_cons, List.length_nil, Nat.reduceAdd, Nat.reduceSub, List.replicate_succ, List.replicate_zero, List.set_cons_zero, List.set_cons_succ]
  have cg : ∀ c, CDivZ c (plG p q r) := fun c => ⟨plG_ne h0, log_lt (plG_lt hp hq hr' h0) (by decide) (by decide)⟩
  refine sd_set (xd_call (ad_cons (xd_call (ad_cons (xd_op od_ixL (x_var rfl rfl) (x_int rfl) ⟨_, _, _, rfl, rfl, rfl, rfl⟩) (ad_cons (xd_op od_ixL (x_var rfl rfl) (x_int rfl) ⟨_, _, _, rfl, rfl, rfl, rfl⟩) ad_nil)) (sp_common_divisor rfl)) (ad_cons (xd_op od_ixL (x_var rfl rfl) (x_int rfl) ⟨_, _, _, rfl, rfl, rfl, rfl⟩) ad_nil)) (sp_common_divisor rfl)) ?_
  try simp only [entG, setG, List.map_cons, List.map_nil, List.cons_append, List.nil_append, List.length_cons, List.length_nil, Nat.reduceAdd, Nat.reduceSub, List.replicate_succ, List.replicate_zero, List.set_cons_zero, List.set_cons_succ]
  refine sd_ret (xd_tup (ad_cons (xd_op od_I (xd_op od_ixL (x_var rfl rfl) (x_int rfl) ⟨_, _, _, rfl, rfl, rfl, rfl⟩) (x_var rfl rfl) ⟨_, _, rfl, rfl, ?_, rfl⟩) (ad_cons (xd_op od_I (xd_op od_ixL (x_var rfl rfl) (x_int rfl) ⟨_, _, _, rfl, rfl, rfl, rfl⟩) (x_var rfl rfl) ⟨_, _, rfl, rfl, ?_, rfl⟩) (ad_cons (xd_op od_I (xd_op od_ixL (x_var rfl rfl) (x_int rfl) ⟨_, _, _, rfl, rfl, rfl, rfl⟩) (x_var rfl rfl) ⟨_, _, rfl, rfl, ?_, rfl⟩) ad_nil))) (Nat.le_of_ble_eq_true rfl) rfl) ?_
  · exact cg _
  · exact cg _
  · exact cg _
  show R (.tuple [.int ((plP p q r).fdiv (plG p q r)), .int ((plQ p q r).fdiv (plG p q r)), .int ((plR p q r).fdiv (plG p q r))])
  rw [fdiv_plG, fdiv_plG, fdiv_plG]
  exact hR
/-! ### edges -/
def edgePl (lo hi : Option Rat) (m : Mp) : List Pl := (match lo with | some l => [mkPl (-m.a) (-m.b) (m.e - l)] | none => []) ++ (match hi with | some h => [mkPl m.a m.b (h - m.e)] | none => [])
def dEd (x : D × Pl) : D := .tuple [x.1, dP x.2]
def F_edges_of (ds : List D) (R : D → Prop) : Prop := ∃ (i : Int) (lo hi : Option Rat) (m : Mp), ds = [.int i, dE (.stop lo hi), dM m] ∧ m.Sz 1000 ∧ (El.stop lo hi).Sz 400 ∧ (m.a ≠ 0 ∨ m.b ≠ 0) ∧ ∀ l : List (D × Pl), l.map Prod.snd = edgePl lo hi m → R (.list (l.map dEd))
theorem len_edges_of : ∀ ds R, F_edges_of ds R → ds.length = 3 := fun _ _ ⟨_, _, _, _, h, _⟩ => by rw [h]; rfl
abbrev N_edges_of : List Str := ["index", "stop", "map_before", "a", "b", "c", "d", "e", "f", "found"]
theorem sc_edges_of : FnScope N_edges_of ["index", "stop", "map_before"] (defScope (topS 28)) := ⟨rfl, rfl, rfl, by decide +kernel, rfl, by decide +kernel, by decide +kernel⟩
theorem ok_edges_of (T : Tc P w K mg base cs) : Good P w K mg base cs "edges_of" ["index", "stop", "map_before"] 5 F_edges_of := by
  obtain ⟨f, c, fd, D0, m0, t0⟩ := T.fn 19 _ rfl
  obtain ⟨f_make_half_plane, d_make_half_plane, m_make_half_plane, k_make_half_plane, b_make_half_plane, G_make_half_plane⟩ := ok_make_half_plane T
  obtain ⟨f_subtract, d_subtract, m_subtract, k_subtract, b_subtract, G_subtract⟩ := ok_subtract T
  obtain ⟨f_negative, d_negative, m_negative, k_negative, b_negative, G_negative⟩ := ok_negative T
  refine ⟨f, fd, m0, D0.kp, D0.funD.bindsN (fun _ _ _ _ _ _ us hl => match us, hl with | [_, _, _], _ => rfl), D0.ok sc_edges_of (fun vs H Q E h => pm_len len_edges_of h) (fun A outer s H vs Q E hr h => ⟨_, (pss_cons (ps_asg (pv 2) (pg_tup rfl (pgs_cons (pg_name (i := 3) sc_edges_of.nd rfl (.inl rfl)) (pgs_cons (pg_name (i := 4) sc_edges_of.nd rfl (.inl rfl)) (pgs_cons (pg_name (i := 5) sc_edges_of.nd rfl (.inl rfl)) (pgs_cons (pg_name (i := 6) sc_edges_of.nd rfl (.inl rfl)) (pgs_cons (pg_name (i := 7) sc_edges_of.nd rfl (.inl rfl)) (pgs_cons (pg_name (i := 8) sc_edges_of.nd rfl (.inl rfl)) pgs_nil))))))))
      (pss_cons (ps_set (i := 9) sc_edges_of.nd rfl (.inl rfl) (pe_lst pa_nil))
      (pss_cons (ps_if (pt_cmp (pc_notN (pe_ix (r := rIxT K) L2.ix_tup (pv 1) pe_int (fun _ _ => rfl)))) (pss_one (ps_expr (pe_bm PySem.F.plainAttrs_list PySem.F.slot_list_append PySem.F.type_list_append mt_append (pv 9) (pa_cons (pe_tup (pa_cons (pe_tup (pa_cons (pv 0) (pa_cons pe_str pa_nil))) (pa_cons (pe_call G_make_half_plane (hr.mono (by decide)) rfl m_make_half_plane k_make_half_plane b_make_half_plane .nil pass0 (pa_cons (pe_call G_negative (hr.mono (by decide)) rfl m_negative k_negative b_negative .nil pass0 (pa_cons (pv 3) pa_nil)) (pa_cons (pe_call G_negative (hr.mono (by decide)) rfl m_negative k_negative b_negative .nil pass0 (pa_cons (pv 4) pa_nil)) (pa_cons (pe_call G_subtract (hr.mono (by decide)) rfl m_subtract k_subtract b_subtract .nil pass0 (pa_cons (pv 7) (pa_cons (pe_ix (r := rIxT K) L2.ix_tup (pv 1) pe_int (fun _ _ => rfl)) pa_nil))) pa_nil)))) pa_nil))) pa_nil)))) pss_nil)
      (pss_cons (ps_if (pt_cmp (pc_notN (pe_ix (r := rIxT K) L2.ix_tup (pv 1) pe_int (fun _ _ => rfl)))) (pss_one (ps_expr (pe_bm PySem.F.plainAttrs_list PySem.F.slot_list_append PySem.F.type_list_append mt_append (pv 9) (pa_cons (pe_tup (pa_cons (pe_tup (pa_cons (pv 0) (pa_cons pe_str pa_nil))) (pa_cons (pe_call G_make_half_plane (hr.mono (by decide)) rfl m_make_half_plane k_make_half_plane b_make_half_plane .nil pass0 (pa_cons (pv 3) (pa_cons (pv 4) (pa_cons (pe_call G_subtract (hr.mono (by decide)) rfl m_subtract k_subtract b_subtract .nil pass0 (pa_cons (pe_ix (r := rIxT K) L2.ix_tup (pv 1) pe_int (fun _ _ => rfl)) (pa_cons (pv 7) pa_nil))) pa_nil)))) pa_nil))) pa_nil)))) pss_nil)
      (pss_one (ps_ret (pv 9))))))), pm_body rfl ?_ h⟩)⟩
  intro ds R hF
  obtain ⟨i, lo, hi, m, rfl, ⟨ha, hb, hc, hd, he, hf⟩, ⟨hl, hh⟩, h0, hR⟩ := hF
  have n0 : -m.a ≠ 0 ∨ -m.b ≠ 0 := by
    rcases h0 with z | z
    · exact .inl (by grind)
    · exact .inr (by grind)
  refine sd_unp (tg_tup (js := [3, 4, 5, 6, 7, 8]) rfl) (x_var rfl rfl) rfl ?_
  try simp only [entG, setG, List.map_cons, List.map_nil, List.cons_append, List.nil_append, List.length_cons, List.length_nil, Nat.reduceAdd, Nat.reduceSub, List.replicate_succ, List.replicate_zero, List.set_cons_zero, List.set_cons_succ]
  refine s_seq (s_newL ad_nil (by simp) ?_)
  try simp only [entG, setG, List.map_cons, List.map_nil, List.cons_append, List.nil_append, List.length_cons, List.length_nil, Nat.reduceAdd, Nat.reduceSub, List.replicate_succ, List.replicate_zero, List.set_cons_zero, List.set_cons_succ]
  have last : ∀ (Γ : Gm) (l : List (D × Pl)), Γ = [.val (.int i), .val (dE (.stop lo hi)), .val (dM m), .val (dQ m.a), .val (dQ m.b), .val (dQ m.c), .val (dQ m.d), .val (dQ m.e), .val (dQ m.f), .own (l.map dEd)] → l.map Prod.snd = edgePl lo hi m → Sx K cs (tRet (tVar 9)) Γ (fun _ => R .none) R := by
    rintro Γ l rfl hl
    exact s_show (i := 9) rfl (sd_ret (x_var rfl rfl) (hR l hl))
  cases lo with
  | none =>
    refine sd_when (td_B (xd_notN (xd_op od_ixT (x_var rfl rfl) (x_int rfl) ⟨_, _, _, rfl, rfl, rfl, rfl⟩)) rfl) (fun h => by cases h) (fun _ => ?_)
    cases hi with
    | none => exact sd_when (td_B (xd_notN (xd_op od_ixT (x_var rfl rfl) (x_int rfl) ⟨_, _, _, rfl, rfl, rfl, rfl⟩)) rfl) (fun h => by cases h) (fun _ => last _ [] rfl rfl)
    | some h =>
      refine sd_when (td_B (xd_notN (xd_op od_ixT (x_var rfl rfl) (x_int rfl) ⟨_, _, _, rfl, rfl, rfl, rfl⟩)) rfl) (fun _ => ?_) (fun h => by cases h)
      refine sd_app (i := 9) rfl (by simp) (xd_tup (ad_cons (xd_tup (ad_cons (x_var rfl rfl) (ad_cons (x_str rfl) ad_nil)) (Nat.le_of_ble_eq_true rfl) rfl) (ad_cons (xd_call (ad_cons (x_var rfl rfl) (ad_cons (x_var rfl rfl) (ad_cons (xd_call (ad_cons (xd_op od_ixT (x_var rfl rfl) (x_int rfl) ⟨_, _, _, rfl, rfl, rfl, rfl⟩) (ad_cons (x_var rfl rfl) ad_nil)) (sp_subtract (Sz.mono (hh h rfl) (by decide : 400 ≤ 4400)) (Sz.mono he (by decide : 1000 ≤ 4400)) rfl)) ad_nil))) (sp_make_half_plane ha hb (((hh h rfl).sub he).mono (by decide)) h0 rfl)) ad_nil)) (Nat.le_of_ble_eq_true rfl) rfl) ?_
      exact last _ [(.tuple [.int i, .str "upper"], mkPl m.a m.b (h - m.e))] rfl rfl
  | some q =>
    refine sd_when (td_B (xd_notN (xd_op od_ixT (x_var rfl rfl) (x_int rfl) ⟨_, _, _, rfl, rfl, rfl, rfl⟩)) rfl) (fun _ => ?_) (fun h => by cases h)
    refine sd_app (i := 9) rfl (by simp) (xd_tup (ad_cons (xd_tup (ad_cons (x_var rfl rfl) (ad_cons (x_str rfl) ad_nil)) (Nat.le_of_ble_eq_true rfl) rfl) (ad_cons (xd_call (ad_cons (xd_call (ad_cons (x_var rfl rfl) ad_nil) (sp_negative rfl)) (ad_cons (xd_call (ad_cons (x_var rfl rfl) ad_nil) (sp_negative rfl)) (ad_cons (xd_call (ad_cons (x_var rfl rfl) (ad_cons (xd_op od_ixT (x_var rfl rfl) (x_int rfl) ⟨_, _, _, rfl, rfl, rfl, rfl⟩) ad_nil)) (sp_subtract (Sz.mono he (by decide : 1000 ≤ 4400)) (Sz.mono (hl q rfl) (by decide : 400 ≤ 4400)) rfl)) ad_nil))) (sp_make_half_plane ha.neg hb.neg ((he.sub (hl q rfl)).mono (by decide)) n0 rfl)) ad_nil)) (Nat.le_of_ble_eq_true rfl) rfl) ?_
    try simp only [entG, setG, List.map_cons, List.map_nil, List.cons_append, List.nil_append, List.length_cons, List.length_nil, Nat.reduceAdd, Nat.reduceSub, List.replicate_succ, List.replicate_zero, List.set_cons_zero, List.set_cons_succ]
    cases hi with
    | none => exact sd_when (td_B (xd_notN (xd_op od_ixT (x_var rfl rfl) (x_int rfl) ⟨_, _, _, rfl, rfl, rfl, rfl⟩)) rfl) (fun h => by cases h) (fun _ => last _ [(.tuple [.int i, .str "lower"], mkPl (-m.a) (-m.b) (m.e - q))] rfl rfl)
    | some h =>
      refine sd_when (td_B (xd_notN (xd_op od_ixT (x_var rfl rfl) (x_int rfl) ⟨_, _, _, rfl, rfl, rfl, rfl⟩)) rfl) (fun _ => ?_) (fun h => by cases h)
      refine sd_app (i := 9) rfl (by simp) (xd_tup (ad_cons (xd_tup (ad_cons (x_var rfl rfl) (ad_cons (x_str rfl) ad_nil)) (Nat.le_of_ble_eq_true rfl) rfl) (ad_cons (xd_call (ad_cons (x_var rfl rfl) (ad_cons (x_var rfl rfl) (ad_cons (xd_call (ad_cons (xd_op od_ixT (x_var rfl rfl) (x_int rfl) ⟨_, _, _, rfl, rfl, rfl, rfl⟩) (ad_cons (x_var rfl rfl) ad_nil)) (sp_subtract (Sz.mono (hh h rfl) (by decide : 400 ≤ 4400)) (Sz.mono he (by decide : 1000 ≤ 4400)) rfl)) ad_nil))) (sp_make_half_plane ha hb (((hh h rfl).sub he).mono (by decide)) h0 rfl)) ad_nil)) (Nat.le_of_ble_eq_true rfl) rfl) ?_
      exact last _ [(.tuple [.int i, .str "lower"], mkPl (-m.a) (-m.b) (m.e - q)), (.tuple [.int i, .str "upper"], mkPl m.a m.b (h - m.e))] rfl rfl
/-! ### the half-planes of a train -/
def elPl (m : Mp) : El → List Pl
  | .stop lo hi => edgePl lo hi m
  | _ => []
def hpls (t : List El) : List Pl := (t.zipIdx.map fun x => elPl (tmap (t.take x.2)) x.1).flatten
def hplsN (t : List El) (n : Nat) : List Pl := ((List.range n).map fun i => match t[i]? with | some e => elPl (tmap (t.take i)) e | none => []).flatten
theorem hplsN_succ {t : List El} {i : Nat} {e : El} (h : t[i]? = some e) : hplsN t (i + 1) = hplsN t i ++ elPl (tmap (t.take i)) e := by
  unfold hplsN
  rw [List.range_succ, List.map_append, List.flatten_append, List.map_cons, List.map_nil, List.flatten_cons, List.flatten_nil, List.append_nil]
  simp only [h]
/-- each stop stands where the map before it looks at the ray -/
def TOk (t : List El) : Prop := TSz t ∧ t.length ≤ 100 ∧ ∀ i lo hi, t[i]? = some (.stop lo hi) → (tmap (t.take i)).a ≠ 0 ∨ (tmap (t.take i)).b ≠ 0
def F_half_planes_of (ds : List D) (R : D → Prop) : Prop := ∃ t : List El, ds = [dT t] ∧ TOk t ∧ ∀ l : List (D × Pl), l.map Prod.snd = hplsN t t.length → R (.list (l.map dEd))
theorem len_half_planes_of : ∀ ds R, F_half_planes_of ds R → ds.length = 1 := fun _ _ ⟨_, h, _⟩ => by rw [h]; rfl
theorem edgePl_len (lo hi : Option Rat) (m : Mp) : (edgePl lo hi m).length ≤ 2 := by cases lo <;> cases hi <;> exact Nat.le_of_ble_eq_true rfl
abbrev N_half_planes_of : List Str := ["train", "found", "before", "index", "element"]
theorem sc_half_planes_of : FnScope N_half_planes_of ["train"] (defScope (topS 29)) := ⟨rfl, rfl, rfl, by decide +kernel, rfl, by decide +kernel, by decide +kernel⟩
theorem ok_half_planes_of (T : Tc P w K mg base cs) : Good P w K mg base cs "half_planes_of" ["train"] 6 F_half_planes_of := by
  obtain ⟨f, c, fd, D0, m0, t0⟩ := T.fn 20 _ rfl
  obtain ⟨f_compose_maps, d_compose_maps, m_compose_maps, k_compose_maps, b_compose_maps, G_compose_maps⟩ := ok_compose_maps T
  obtain ⟨f_element_map, d_element_map, m_element_map, k_element_map, b_element_map, G_element_map⟩ := ok_element_map T
  obtain ⟨f_edges_of, d_edges_of, m_edges_of, k_edges_of, b_edges_of, G_edges_of⟩ := ok_edges_of T
  have z_enumerate := T.fr "enumerate" (by decide)
  obtain ⟨a_IDENTITY, m_IDENTITY, q_IDENTITY⟩ := T.ident
  refine ⟨f, fd, m0, D0.kp, D0.funD.bindsN (fun _ _ _ _ _ _ us hl => match us, hl with | [_], _ => rfl), D0.ok sc_half_planes_of (fun vs H Q E h => pm_len len_half_planes_of h) (fun A outer s H vs Q E hr h => ⟨_, (pss_cons (ps_set (i := 1) sc_half_planes_of.nd rfl (.inl rfl) (pe_lst pa_nil))
      (pss_cons (ps_set (i := 2) sc_half_planes_of.nd rfl (.inl rfl) (pe_glob (v := .ref a_IDENTITY) rfl m_IDENTITY rfl))
      (pss_cons (ps_for PassesOwn.never rfl (pi_enum rfl z_enumerate (pa_cons (pv 0) pa_nil)) (pg_tup rfl (pgs_cons (pg_name (i := 3) sc_half_planes_of.nd rfl (.inl rfl)) (pgs_cons (pg_name (i := 4) sc_half_planes_of.nd rfl (.inl rfl)) pgs_nil))) (pss_cons (ps_if (pt_cmpR op_eq (pe_ix (r := rIxT K) L2.ix_tup (pv 4) pe_int (fun _ _ => rfl)) pe_str (nomark _)) (pss_one (ps_set (i := 1) sc_half_planes_of.nd rfl (.inl rfl) (pe_op op_catLL (pv 1) (pe_call G_edges_of (hr.mono (by decide)) rfl m_edges_of k_edges_of b_edges_of .nil pass0 (pa_cons (pv 3) (pa_cons (pv 4) (pa_cons (pv 2) pa_nil))))))) pss_nil)
      (pss_one (ps_set (i := 2) sc_half_planes_of.nd rfl (.inl rfl) (pe_call G_compose_maps (hr.mono (by decide)) rfl m_compose_maps k_compose_maps b_compose_maps .nil pass0 (pa_cons (pv 2) (pa_cons (pe_call G_element_map (hr.mono (by decide)) rfl m_element_map k_element_map b_element_map .nil pass0 (pa_cons (pv 4) pa_nil)) pa_nil)))))))
      (pss_one (ps_ret (pv 1)))))), pm_body rfl ?_ h⟩)⟩
  intro ds R hF
  obtain ⟨t, rfl, ⟨⟨hs, hm⟩, ht, hn⟩, hR⟩ := hF
  refine sd_set (xd_lst ad_nil (Nat.le_of_ble_eq_true rfl) rfl) ?_
  refine sd_set (x_con q_IDENTITY rfl) ?_
  try simp only [entG, setG, List.map_cons, List.map_nil, List.cons_append, List.nil_append, List.length_cons, List.length_nil, Nat.reduceAdd, Nat.reduceSub, List.replicate_succ, List.replicate_zero, List.set_cons_zero, List.set_cons_succ]
  refine s_seq (sd_for (ixd_enum (ad_cons (x_var rfl rfl) ad_nil)) (tg_tup (js := [3, 4]) rfl) (fun i Γ => ∃ (l : List (D × Pl)) (z z2 : Sl), l.map Prod.snd = hplsN t i ∧ l.length ≤ 2 * i ∧ i ≤ t.length ∧ Γ = [.val (dT t), .val (.list (l.map dEd)), .val (dM (tmap (t.take i))), z, z2]) ⟨[], .no, .no, rfl, Nat.le_refl _, Nat.zero_le _, rfl⟩ ?_ ?_)
  · rintro i d Γ' hd ⟨l, z, z2, hl, hl2, hi, rfl⟩
    obtain ⟨d1, hd1, rfl⟩ := enumD_get hd
    obtain ⟨e, he, rfl⟩ := gmapE hd1
    have hi2 : i < t.length := (List.getElem?_eq_some_iff.mp he).1
    refine ⟨_, rfl, ?_⟩
    try simp only [entG, setG, List.map_cons, List.map_nil, List.cons_append, List.nil_append, List.length_cons, List.length_nil, Nat.reduceAdd, Nat.reduceSub, List.replicate_succ, List.replicate_zero, List.set_cons_zero, List.set_cons_succ]
    have next : ∀ (Γ : Gm) (l2 : List (D × Pl)), Γ = [.val (dT t), .val (.list (l2.map dEd)), .val (dM (tmap (t.take i))), .val (.int (i : Int)), .val (dE e)] → l2.map Prod.snd = hplsN t (i + 1) → l2.length ≤ 2 * (i + 1) →
        Sx K cs (tAsg (tCall (Pm K cs F_compose_maps) [] E0 (tCons (tVar 2) (tCons (tCall (Pm K cs F_element_map) [] E0 (tCons (tVar 4) tNil)) tNil))) (gName 2)) Γ (fun Γ => ∃ (l : List (D × Pl)) (z z2 : Sl), l.map Prod.snd = hplsN t (i + 1) ∧ l.length ≤ 2 * (i + 1) ∧ i + 1 ≤ t.length ∧ Γ = [.val (dT t), .val (.list (l.map dEd)), .val (dM (tmap (t.take (i + 1)))), z, z2]) R := by
      rintro Γ l2 rfl h1 h2
      refine sd_asg (xd_call (ad_cons (x_var rfl rfl) (ad_cons (xd_call (ad_cons (x_var rfl rfl) ad_nil) (sp_element_map ((hs e (List.mem_of_getElem? he)).mono (by decide)) rfl)) ad_nil)) (sp_compose_maps (hm i) (El.map_Sz (hs e (List.mem_of_getElem? he))) rfl)) ⟨l2, .val (.int (i : Int)), .val (dE e), h1, h2, hi2, ?_⟩
      rw [take_snoc he, tmap_snoc]
      rfl
    have skip : (∀ m, elPl m e = []) → hplsN t (i + 1) = hplsN t i := fun h => by rw [hplsN_succ he, h, List.append_nil]
    cases e with
    | gap q => exact sd_when (td_test (xd_op od_eqS (xd_op od_ixT (x_var rfl rfl) (x_int rfl) ⟨_, _, _, rfl, rfl, rfl, rfl⟩) (x_str rfl) ⟨_, _, rfl, rfl, rfl⟩) rfl) (fun h => absurd h (by decide)) fun _ => next _ l rfl (hl.trans (skip fun _ => rfl).symm) (by omega)
    | lens p q => exact sd_when (td_test (xd_op od_eqS (xd_op od_ixT (x_var rfl rfl) (x_int rfl) ⟨_, _, _, rfl, rfl, rfl, rfl⟩) (x_str rfl) ⟨_, _, rfl, rfl, rfl⟩) rfl) (fun h => absurd h (by decide)) fun _ => next _ l rfl (hl.trans (skip fun _ => rfl).symm) (by omega)
    | prism q => exact sd_when (td_test (xd_op od_eqS (xd_op od_ixT (x_var rfl rfl) (x_int rfl) ⟨_, _, _, rfl, rfl, rfl, rfl⟩) (x_str rfl) ⟨_, _, rfl, rfl, rfl⟩) rfl) (fun h => absurd h (by decide)) fun _ => next _ l rfl (hl.trans (skip fun _ => rfl).symm) (by omega)
    | afocal q => exact sd_when (td_test (xd_op od_eqS (xd_op od_ixT (x_var rfl rfl) (x_int rfl) ⟨_, _, _, rfl, rfl, rfl, rfl⟩) (x_str rfl) ⟨_, _, rfl, rfl, rfl⟩) rfl) (fun h => absurd h (by decide)) fun _ => next _ l rfl (hl.trans (skip fun _ => rfl).symm) (by omega)
    | stop lo hi =>
      refine sd_when (td_test (xd_op od_eqS (xd_op od_ixT (x_var rfl rfl) (x_int rfl) ⟨_, _, _, rfl, rfl, rfl, rfl⟩) (x_str rfl) ⟨_, _, rfl, rfl, rfl⟩) rfl) (fun _ => ?_) (fun h => absurd h (by decide))
      refine s_asg (Ra := fun d => ∃ l3 : List (D × Pl), l3.map Prod.snd = edgePl lo hi (tmap (t.take i)) ∧ d = .list ((l ++ l3).map dEd)) (x_op od_catL (x_var rfl rfl) (x_call (R := fun d => ∃ l3 : List (D × Pl), l3.map Prod.snd = edgePl lo hi (tmap (t.take i)) ∧ d = .list (l3.map dEd)) (dds := []) (ad_cons (x_var rfl rfl) (ad_cons (x_var rfl rfl) (ad_cons (x_var rfl rfl) ad_nil))) (fun _ => .nil) fun ds e => ?_) fun d e h1 h2 => ?_) fun d h => ?_
      · subst e
        exact ⟨_, lo, hi, _, rfl, hm i, hs _ (List.mem_of_getElem? he), hn i lo hi he, fun l3 h3 => ⟨l3, h3, rfl⟩⟩
      · subst h1
        obtain ⟨l3, h3, rfl⟩ := h2
        have hl3 : l3.length ≤ 2 := by
          have := congrArg List.length h3
          rw [List.length_map] at this
          rw [this]
          exact edgePl_len _ _ _
        refine ⟨_, _, rfl, rfl, ?_, l3, h3, by rw [List.map_append]⟩
        rw [List.length_map, List.length_map]
        omega
      · obtain ⟨l3, h3, rfl⟩ := h
        have hl3 : l3.length ≤ 2 := by
          have := congrArg List.length h3
          rw [List.length_map] at this
          rw [this]
          exact edgePl_len _ _ _
        refine next _ (l ++ l3) rfl ?_ ?_
        · rw [List.map_append, hl, h3, hplsN_succ he]
          rfl
        · rw [List.length_append]
          omega
  · rintro Γ' ⟨l, z, z2, hl, hl2, hi, rfl⟩
    rw [enumD_length, List.length_map] at hl
    exact sd_ret (x_var rfl rfl) (hR l hl)
def F_planes_of (ds : List D) (R : D → Prop) : Prop := ∃ t : List El, ds = [dT t] ∧ TOk t ∧ R (dPs (hplsN t t.length))
theorem len_planes_of : ∀ ds R, F_planes_of ds R → ds.length = 1 := fun _ _ ⟨_, h, _⟩ => by rw [h]; rfl
theorem sp_planes_of {t : List El} {R : D → Prop} (h : TOk t) (k : R (dPs (hplsN t t.length))) : F_planes_of [dT t] R := ⟨t, rfl, h, k⟩
theorem hplsN_len (t : List El) : ∀ n, (hplsN t n).length ≤ 2 * n
  | 0 => Nat.le_refl _
  | n + 1 => by
    cases h : t[n]? with
    | none =>
      have e : hplsN t (n + 1) = hplsN t n := by
        unfold hplsN
        rw [List.range_succ, List.map_append, List.flatten_append, List.map_cons, List.map_nil, List.flatten_cons, List.flatten_nil, List.append_nil]
        simp only [h, List.append_nil]
      rw [e]
      have := hplsN_len t n
      omega
    | some e =>
      rw [hplsN_succ h, List.length_append]
      have h1 := hplsN_len t n
      have h2 : (elPl (tmap (t.take n)) e).length ≤ 2 := by
        cases e with
        | stop lo hi => exact edgePl_len _ _ _
        | _ => exact Nat.zero_le _
      omega
def sndD : D → D
  | .tuple [_, b] => b
  | d => d
abbrev N_planes_of : List Str := ["train", "edge", "half_plane"]
theorem sc_planes_of : FnScope N_planes_of ["train"] (defScope (topS 47)) := ⟨rfl, rfl, rfl, by decide +kernel, rfl, by decide +kernel, by decide +kernel⟩
theorem ok_planes_of (T : Tc P w K mg base cs) : Good P w K mg base cs "planes_of" ["train"] 7 F_planes_of := by
  obtain ⟨f, c, fd, D0, m0, t0⟩ := T.fn 36 _ rfl
  obtain ⟨f_half_planes_of, d_half_planes_of, m_half_planes_of, k_half_planes_of, b_half_planes_of, G_half_planes_of⟩ := ok_half_planes_of T
  refine ⟨f, fd, m0, D0.kp, D0.funD.bindsN (fun _ _ _ _ _ _ us hl => match us, hl with | [_], _ => rfl), D0.ok sc_planes_of (fun vs H Q E h => pm_len len_planes_of h) (fun A outer s H vs Q E hr h => ⟨_, (pss_one (ps_ret (pe_lc (own := [("edge", 1), ("half_plane", 2)]) rfl sc_planes_of.nd (pi_list (pe_call G_half_planes_of (hr.mono (by decide)) rfl m_half_planes_of k_half_planes_of b_half_planes_of .nil pass0 (pa_cons (pv 0) pa_nil))) (blkOk_by (N := N_planes_of) (sc := defScope (topS 47)) (by decide +kernel)) (fun s H C cl fp => (show PG _ _ (gTup K 2 (gCons (gName 1) (gCons (gName 2) gNil))) from pg_tup (n := 2) rfl (pgs_cons (pg_name (i := 1) sc_planes_of.nd rfl (.inl rfl) (.inr rfl)) (pgs_cons (pg_name (i := 2) sc_planes_of.nd rfl (.inl rfl) (.inr rfl)) pgs_nil)))) (fun s H C cl fp => pts_nil) (fun s H C cl fp => (pv 2))))), pm_body rfl ?_ h⟩)⟩
  intro ds R hF
  obtain ⟨t, rfl, ht, hR⟩ := hF
  refine s_ret (x_lc (Rl := fun ds => ∃ l : List (D × Pl), l.map Prod.snd = hplsN t t.length ∧ ds = l.map dEd) (ix_list (Ra := fun d => ∃ l : List (D × Pl), l.map Prod.snd = hplsN t t.length ∧ d = .list (l.map dEd)) (x_call (dds := []) (ad_cons (x_var rfl rfl) ad_nil) (fun _ => .nil) fun ds e => by subst e; exact ⟨t, rfl, ht, fun l h => ⟨l, h, rfl⟩⟩) fun d ⟨l, h, e⟩ => ⟨_, e, l, h, rfl⟩) (tg_tup (js := [1, 2]) rfl) (by decide) fun ds e => ?_)
  obtain ⟨l, h, e0⟩ := e
  subst e0
  have hl : l.length ≤ 200 := by
    have h1 := congrArg List.length h
    rw [List.length_map] at h1
    rw [h1]
    have := hplsN_len t t.length
    have := ht.2.1
    omega
  refine ⟨by rw [List.length_map]; omega, fun pre acc => acc = pre.map sndD, rfl, fun i d acc hd ha => ?_, fun rs e => ?_⟩
  · obtain ⟨x, hx, rfl⟩ := gmapE hd
    refine ⟨_, rfl, _, t_yes (P := fun b => b = true) rfl, fun _ => (x_var rfl rfl : Xd K cs _ _ (dP x.2)).mono fun z ez => ?_, fun h => by cases h⟩
    subst ez ha
    rw [take_snoc hd, List.map_append]
    rfl
  · have e2 : (l.map dEd).map sndD = (hplsN t t.length).map dP := by
      rw [← h, List.map_map, List.map_map]
      rfl
    rw [e, e2]
    exact hR
end Rt
set_option Elab.async false
set_option linter.all false
/-! weights of opposing half-planes. Plain Lean. -/
namespace Rt
theorem opp_signs {a b c d : Int} (h1 : a * d = b * c) (h2 : a * c + b * d < 0) : a * c ≤ 0 ∧ b * d ≤ 0 := by
  have key : (a * c) * (b * d) = (a * d) * (a * d) := by
    have : (a * c) * (b * d) = (a * d) * (b * c) := by grind
    rw [this, ← h1]
  have sq : 0 ≤ (a * d) * (a * d) := by
    rcases Int.le_total 0 (a * d) with h | h
    · exact Int.mul_nonneg h h
    · exact Int.mul_nonneg_of_nonpos_of_nonpos h h
  rw [← key] at sq
  constructor
  · apply Int.not_lt.mp
    intro h
    have hb : b * d < 0 := by omega
    have := Int.mul_neg_of_pos_of_neg h hb
    omega
  · apply Int.not_lt.mp
    intro h
    have hb : a * c < 0 := by omega
    have := Int.mul_neg_of_neg_of_pos hb h
    omega
theorem sign_cases {a c : Int} (h : a * c ≤ 0) : (0 ≤ a ∧ c ≤ 0) ∨ (a ≤ 0 ∧ 0 ≤ c) := by
  rcases Int.lt_trichotomy a 0 with ha | ha | ha
  · right
    refine ⟨by omega, Int.not_lt.mp fun hc => ?_⟩
    have := Int.mul_pos_of_neg_of_neg ha hc
    omega
  · omega
  · left
    refine ⟨by omega, Int.not_lt.mp fun hc => ?_⟩
    have := Int.mul_pos ha hc
    omega
theorem natAbs_eq' (a : Int) : (0 ≤ a ∧ (a.natAbs : Int) = a) ∨ (a ≤ 0 ∧ (a.natAbs : Int) = -a) := by omega
theorem opp_bal {a b c d : Int} (h1 : a * d = b * c) (h2 : a * c + b * d < 0) :
    ((c.natAbs : Int) + d.natAbs) * a + ((a.natAbs : Int) + b.natAbs) * c = 0 ∧ ((c.natAbs : Int) + d.natAbs) * b + ((a.natAbs : Int) + b.natAbs) * d = 0 ∧ 0 < (c.natAbs : Int) + d.natAbs ∧ 0 < (a.natAbs : Int) + b.natAbs := by
  obtain ⟨s1, s2⟩ := opp_signs h1 h2
  have p1 : 0 < (c.natAbs : Int) + d.natAbs := by
    apply Int.not_le.mp
    intro h
    have hc : c = 0 := by omega
    have hd : d = 0 := by omega
    subst hc hd
    simp at h2
  have p2 : 0 < (a.natAbs : Int) + b.natAbs := by
    apply Int.not_le.mp
    intro h
    have hc : a = 0 := by omega
    have hd : b = 0 := by omega
    subst hc hd
    simp at h2
  refine ⟨?_, ?_, p1, p2⟩
  · rcases sign_cases s1 with ⟨x1, x2⟩ | ⟨x1, x2⟩ <;> rcases sign_cases s2 with ⟨x3, x4⟩ | ⟨x3, x4⟩
    · rw [Int.ofNat_natAbs_of_nonpos x2, Int.ofNat_natAbs_of_nonpos x4, Int.natAbs_of_nonneg x1, Int.natAbs_of_nonneg x3]; grind
    · rw [Int.ofNat_natAbs_of_nonpos x2, Int.natAbs_of_nonneg x4, Int.natAbs_of_nonneg x1, Int.ofNat_natAbs_of_nonpos x3]; grind
    · rw [Int.natAbs_of_nonneg x2, Int.ofNat_natAbs_of_nonpos x4, Int.ofNat_natAbs_of_nonpos x1, Int.natAbs_of_nonneg x3]; grind
    · rw [Int.natAbs_of_nonneg x2, Int.natAbs_of_nonneg x4, Int.ofNat_natAbs_of_nonpos x1, Int.ofNat_natAbs_of_nonpos x3]; grind
  · rcases sign_cases s1 with ⟨x1, x2⟩ | ⟨x1, x2⟩ <;> rcases sign_cases s2 with ⟨x3, x4⟩ | ⟨x3, x4⟩
    · rw [Int.ofNat_natAbs_of_nonpos x2, Int.ofNat_natAbs_of_nonpos x4, Int.natAbs_of_nonneg x1, Int.natAbs_of_nonneg x3]; grind
    · rw [Int.ofNat_natAbs_of_nonpos x2, Int.natAbs_of_nonneg x4, Int.natAbs_of_nonneg x1, Int.ofNat_natAbs_of_nonpos x3]; grind
    · rw [Int.natAbs_of_nonneg x2, Int.ofNat_natAbs_of_nonpos x4, Int.ofNat_natAbs_of_nonpos x1, Int.natAbs_of_nonneg x3]; grind
    · rw [Int.natAbs_of_nonneg x2, Int.natAbs_of_nonneg x4, Int.ofNat_natAbs_of_nonpos x1, Int.ofNat_natAbs_of_nonpos x3]; grind
/-- dividing by a common divisor g > 0 -/
theorem div_bal2 {g u v a c : Int} (hg : g ≠ 0) (hu : g ∣ u) (hv : g ∣ v) (h : u * a + v * c = 0) : u / g * a + v / g * c = 0 := by
  obtain ⟨u', rfl⟩ := hu
  obtain ⟨v', rfl⟩ := hv
  rw [Int.mul_ediv_cancel_left _ hg, Int.mul_ediv_cancel_left _ hg]
  have : g * (u' * a + v' * c) = 0 := by grind
  rcases Int.mul_eq_zero.mp this with z | z
  · exact absurd z hg
  · exact z
theorem div_bal3 {g u v w a b c : Int} (hg : g ≠ 0) (hu : g ∣ u) (hv : g ∣ v) (hw : g ∣ w) (h : u * a + v * b + w * c = 0) : u / g * a + v / g * b + w / g * c = 0 := by
  obtain ⟨u', rfl⟩ := hu
  obtain ⟨v', rfl⟩ := hv
  obtain ⟨w', rfl⟩ := hw
  rw [Int.mul_ediv_cancel_left _ hg, Int.mul_ediv_cancel_left _ hg, Int.mul_ediv_cancel_left _ hg]
  have : g * (u' * a + v' * b + w' * c) = 0 := by grind
  rcases Int.mul_eq_zero.mp this with z | z
  · exact absurd z hg
  · exact z
theorem div_pos' {g u : Int} (hg : 0 < g) (hu : g ∣ u) (h : 0 < u) : 0 < u / g ∧ (u / g).natAbs ≤ u.natAbs := by
  obtain ⟨u', rfl⟩ := hu
  rw [Int.mul_ediv_cancel_left _ (by omega)]
  have hp : 0 < u' := Int.pos_of_mul_pos_right h (by omega) 
  refine ⟨hp, ?_⟩
  rw [Int.natAbs_mul]
  exact Nat.le_mul_of_pos_left _ (by omega)
end Rt
set_option Elab.async false
set_option linter.all false
set_option maxRecDepth 100000
set_option maxHeartbeats 4000000
set_option exponentiation.threshold 100000
/-! The walk, part 4: what proves a region empty. -/
namespace Rt
open PySem PySem.Spec PyProof.Rows L2 GxR Gx RZ
variable {P : Program} {w : World} {K : PySem.W.Frag} {mg : Str → Option Value} {base : Heap} {cs : List Addr}
def F_value_at (ds : List D) (R : D → Prop) : Prop := ∃ (h : Pl) (r : Rat × Rat), ds = [dP h, dR r] ∧ h.Sz 1000 ∧ RSz 1000 r ∧ R (dQ (h.at r))
theorem len_value_at : ∀ ds R, F_value_at ds R → ds.length = 2 := fun _ _ ⟨_, _, h, _⟩ => by rw [h]; rfl
theorem sp_value_at {h : Pl} {r : Rat × Rat} {R : D → Prop} (hh : h.Sz 1000) (hr : RSz 1000 r) (k : R (dQ (h.at r))) : F_value_at [dP h, dR r] R := ⟨h, r, rfl, hh, hr, k⟩
abbrev N_value_at : List Str := ["half_plane", "ray"]
theorem sc_value_at : FnScope N_value_at ["half_plane", "ray"] (defScope (topS 30)) := ⟨rfl, rfl, rfl, by decide +kernel, rfl, by decide +kernel, by decide +kernel⟩
theorem ok_value_at (T : Tc P w K mg base cs) : Good P w K mg base cs "value_at" ["half_plane", "ray"] 4 F_value_at := by
  obtain ⟨f, c, fd, D0, m0, t0⟩ := T.fn 21 _ rfl
  obtain ⟨f_add, d_add, m_add, k_add, b_add, G_add⟩ := ok_add T
  obtain ⟨f_multiply, d_multiply, m_multiply, k_multiply, b_multiply, G_multiply⟩ := ok_multiply T
  obtain ⟨f_fraction, d_fraction, m_fraction, k_fraction, b_fraction, ⟨d1_fraction, v1_fraction, b1_fraction⟩, G_fraction⟩ := ok_fraction T
  refine ⟨f, fd, m0, D0.kp, D0.funD.bindsN (fun _ _ _ _ _ _ us hl => match us, hl with | [_, _], _ => rfl), D0.ok sc_value_at (fun vs H Q E h => pm_len len_value_at h) (fun A outer s H vs Q E hr h => ⟨_, (pss_one (ps_ret (pe_call G_add (hr.mono (by decide)) rfl m_add k_add b_add .nil pass0 (pa_cons (pe_call G_multiply (hr.mono (by decide)) rfl m_multiply k_multiply b_multiply .nil pass0 (pa_cons (pe_call G_fraction (hr.mono (by decide)) rfl m_fraction k_fraction b1_fraction v1_fraction pass0 (pa_cons (pe_ix (r := rIxT K) L2.ix_tup (pv 0) pe_int (fun _ _ => rfl)) pa_nil)) (pa_cons (pe_ix (r := rIxT K) L2.ix_tup (pv 1) pe_int (fun _ _ => rfl)) pa_nil))) (pa_cons (pe_call G_multiply (hr.mono (by decide)) rfl m_multiply k_multiply b_multiply .nil pass0 (pa_cons (pe_call G_fraction (hr.mono (by decide)) rfl m_fraction k_fraction b1_fraction v1_fraction pass0 (pa_cons (pe_ix (r := rIxT K) L2.ix_tup (pv 0) pe_int (fun _ _ => rfl)) pa_nil)) (pa_cons (pe_ix (r := rIxT K) L2.ix_tup (pv 1) pe_int (fun _ _ => rfl)) pa_nil))) pa_nil))))), pm_body rfl ?_ h⟩)⟩
  intro ds R hF
  obtain ⟨h, r, rfl, ⟨hx, hy, hz⟩, ⟨h0, h1⟩, hR⟩ := hF
  exact sd_ret (xd_call (ad_cons (xd_call (ad_cons (xd_callD (ad_cons (xd_op od_ixT (x_var rfl rfl) (x_int rfl) ⟨_, _, _, rfl, rfl, rfl, rfl⟩) ad_nil) (fun _ => .cons (.int _) .nil) (sp_fraction1 rfl)) (ad_cons (xd_op od_ixT (x_var rfl rfl) (x_int rfl) ⟨_, _, _, rfl, rfl, rfl, rfl⟩) ad_nil)) (sp_multiply (Sz.mono (Sz.int hx (by decide)) (by decide : 1000 ≤ 4400)) (Sz.mono h0 (by decide : 1000 ≤ 4400)) rfl)) (ad_cons (xd_call (ad_cons (xd_callD (ad_cons (xd_op od_ixT (x_var rfl rfl) (x_int rfl) ⟨_, _, _, rfl, rfl, rfl, rfl⟩) ad_nil) (fun _ => .cons (.int _) .nil) (sp_fraction1 rfl)) (ad_cons (xd_op od_ixT (x_var rfl rfl) (x_int rfl) ⟨_, _, _, rfl, rfl, rfl, rfl⟩) ad_nil)) (sp_multiply (Sz.mono (Sz.int hy (by decide)) (by decide : 1000 ≤ 4400)) (Sz.mono h1 (by decide : 1000 ≤ 4400)) rfl)) ad_nil)) (sp_add (Sz.mono (Sz.mul (Sz.int hx (by decide)) h0) (by decide : 2000 ≤ 4400)) (Sz.mono (Sz.mul (Sz.int hy (by decide)) h1) (by decide : 2000 ≤ 4400)) rfl)) hR
theorem Pl.at_Sz {h : Pl} {r : Rat × Rat} {n m : Nat} (hh : h.Sz n) (hn : 1 ≤ n) (hr : RSz m r) : Rt.Sz (n + m + (n + m) + 1) (h.at r) := ((Rt.Sz.int hh.1 hn).mul hr.1).add ((Rt.Sz.int hh.2.1 hn).mul hr.2)
def F_contains_ray (ds : List D) (R : D → Prop) : Prop := ∃ (hs : List Pl) (r : Rat × Rat), ds = [dPs hs, dR r] ∧ (∀ h ∈ hs, h.Sz 1000) ∧ RSz 1000 r ∧ ∀ b : Bool, R (.bool b)
theorem len_contains_ray : ∀ ds R, F_contains_ray ds R → ds.length = 2 := fun _ _ ⟨_, _, h, _⟩ => by rw [h]; rfl
theorem gslG_eq (cap : List (Option Nat)) (Γ : Gm) (js : List Nat) (es : List D) : setG (clr (gslG cap Γ) js) js es = setG (clr (gslG cap Γ) js) js es := rfl
theorem memMap {α : Type} {g : α → D} {os : List α} {d : D} (h : d ∈ os.map g) : ∃ o, o ∈ os ∧ d = g o := by
  obtain ⟨o, ho, e⟩ := List.mem_map.mp h
  exact ⟨o, ho, e.symm⟩
abbrev N_contains_ray : List Str := ["half_planes", "ray"]
theorem sc_contains_ray : FnScope N_contains_ray ["half_planes", "ray"] (defScope (topS 31)) := ⟨rfl, rfl, rfl, by decide +kernel, rfl, by decide +kernel, by decide +kernel⟩
theorem ok_contains_ray (T : Tc P w K mg base cs) : Good P w K mg base cs "contains_ray" ["half_planes", "ray"] 9 F_contains_ray := by
  obtain ⟨f, c, fd, D0, m0, t0⟩ := T.fn 22 _ rfl
  obtain ⟨f_compare, d_compare, m_compare, k_compare, b_compare, G_compare⟩ := ok_compare T
  obtain ⟨f_fraction, d_fraction, m_fraction, k_fraction, b_fraction, ⟨d1_fraction, v1_fraction, b1_fraction⟩, G_fraction⟩ := ok_fraction T
  obtain ⟨f_value_at, d_value_at, m_value_at, k_value_at, b_value_at, G_value_at⟩ := ok_value_at T
  have z_all := T.fr "all" (by decide)
  obtain ⟨P0, hP0, TB0⟩ := t0 (by decide)
  have hP := List.mem_of_getElem? hP0
  refine ⟨f, fd, m0, D0.kp, D0.funD.bindsN (fun _ _ _ _ _ _ us hl => match us, hl with | [_, _], _ => rfl), D0.ok sc_contains_ray (fun vs H Q E h => pm_len len_contains_ray h) (fun A outer s H vs Q E hr h => ⟨_, (pss_one (ps_ret (Gx.pe_all (N := ["one", "ray"]) (cap := [none, some 1]) rfl hr.depth rfl z_all (by rfl) TB0 rfl (genCap_by (XN := N_contains_ray) (xs := defScope (topS 31)) (by decide +kernel)) (pi_list (pv 0)) (fun s H C code fp pn => (pg_name (i := 0) (show (["one", "ray"] : List PySem.Str).Nodup by decide +kernel) rfl (.inl rfl) (.inr rfl))) (fun s H C code fp pn => (pe_cmpR op_le (pe_call G_compare ((Gx.room_gen hr).mono (by decide)) rfl m_compare k_compare b_compare .nil pass0 (pa_cons (pe_call G_value_at ((Gx.room_gen hr).mono (by decide)) rfl m_value_at k_value_at b_value_at .nil pass0 (pa_cons (pv 0) (pa_cons (pv 1) pa_nil))) (pa_cons (pe_call G_fraction ((Gx.room_gen hr).mono (by decide)) rfl m_fraction k_fraction b1_fraction v1_fraction pass0 (pa_cons (pe_ix (r := rIxT K) L2.ix_tup (pv 0) pe_int (fun _ _ => rfl)) pa_nil)) pa_nil))) pe_int (nomark _))) (fun _ => rfl)))), pm_body rfl ?_ h⟩)⟩
  intro ds R hF
  obtain ⟨hs, r, rfl, hh, hr', hR⟩ := hF
  refine s_ret (x_gen hP (ixd_list (x_var rfl rfl)) tg_name fun ds e => ?_)
  subst e
  refine ⟨fun _ _ => True, fun d hd => ?_, fun _ => hR _, fun _ _ _ => hR _⟩
  obtain ⟨h, hm, rfl⟩ := memMap hd
  refine ⟨_, rfl, ?_⟩
  refine (show Xd K cs _ _ _ from xd_op od_B0 (xd_call (ad_cons (xd_call (ad_cons (x_var (d := dP h) rfl rfl) (ad_cons (x_var (d := dR r) rfl rfl) ad_nil)) (sp_value_at (hh h hm) hr' rfl)) (ad_cons (xd_callD (ad_cons (xd_op od_ixT (x_var (d := dP h) rfl rfl) (x_int rfl) ⟨_, _, _, rfl, rfl, rfl, rfl⟩) ad_nil) (fun _ => .cons (.int _) .nil) (sp_fraction1 rfl)) ad_nil)) (sp_compare ((Pl.at_Sz (hh h hm) (by decide) hr').mono (by decide)) ((Sz.int (hh h hm).2.2 (by decide)).mono (by decide)) rfl)) (x_int rfl) ⟨_, _, rfl, rfl, rfl⟩).mono fun d e => ⟨_, e.symm, trivial⟩
/-! ### weights -/
def pldet (h k : Pl) : Int := h.x * k.y - h.y * k.x
def pldot (h k : Pl) : Int := h.x * k.x + h.y * k.y
def F_determinant (ds : List D) (R : D → Prop) : Prop := ∃ h k : Pl, ds = [dP h, dP k] ∧ h.Sz 1000 ∧ k.Sz 1000 ∧ R (.int (pldet h k))
theorem len_determinant : ∀ ds R, F_determinant ds R → ds.length = 2 := fun _ _ ⟨_, _, h, _⟩ => by rw [h]; rfl
theorem sp_determinant {h k : Pl} {R : D → Prop} (hh : h.Sz 1000) (hk : k.Sz 1000) (q : R (.int (pldet h k))) : F_determinant [dP h, dP k] R := ⟨h, k, rfl, hh, hk, q⟩
theorem m1000 {a b : Int} (ha : a.natAbs < 2 ^ 1000) (hb : b.natAbs < 2 ^ 1000) : CMulW a b := wmul ha hb (by decide) (by decide) (by decide)
abbrev N_determinant : List Str := ["first", "second"]
theorem sc_determinant : FnScope N_determinant ["first", "second"] (defScope (topS 32)) := ⟨rfl, rfl, rfl, by decide +kernel, rfl, by decide +kernel, by decide +kernel⟩
theorem ok_determinant (T : Tc P w K mg base cs) : Good P w K mg base cs "determinant" ["first", "second"] 1 F_determinant := by
  obtain ⟨f, c, fd, D0, m0, t0⟩ := T.fn 23 _ rfl
  refine ⟨f, fd, m0, D0.kp, D0.funD.bindsN (fun _ _ _ _ _ _ us hl => match us, hl with | [_, _], _ => rfl), D0.ok sc_determinant (fun vs H Q E h => pm_len len_determinant h) (fun A outer s H vs Q E hr h => ⟨_, (pss_one (ps_ret (pe_op op_sub (pe_op op_mulW (pe_ix (r := rIxT K) L2.ix_tup (pv 0) pe_int (fun _ _ => rfl)) (pe_ix (r := rIxT K) L2.ix_tup (pv 1) pe_int (fun _ _ => rfl))) (pe_op op_mulW (pe_ix (r := rIxT K) L2.ix_tup (pv 0) pe_int (fun _ _ => rfl)) (pe_ix (r := rIxT K) L2.ix_tup (pv 1) pe_int (fun _ _ => rfl)))))), pm_body rfl ?_ h⟩)⟩
  intro ds R hF
  obtain ⟨h, k, rfl, hh, hk, hR⟩ := hF
  refine sd_ret (xd_op od_I0 (xd_op od_I (xd_op od_ixT (x_var rfl rfl) (x_int rfl) ⟨_, _, _, rfl, rfl, rfl, rfl⟩) (xd_op od_ixT (x_var rfl rfl) (x_int rfl) ⟨_, _, _, rfl, rfl, rfl, rfl⟩) ⟨_, _, rfl, rfl, ?_, rfl⟩) (xd_op od_I (xd_op od_ixT (x_var rfl rfl) (x_int rfl) ⟨_, _, _, rfl, rfl, rfl, rfl⟩) (xd_op od_ixT (x_var rfl rfl) (x_int rfl) ⟨_, _, _, rfl, rfl, rfl, rfl⟩) ⟨_, _, rfl, rfl, ?_, rfl⟩) ⟨_, _, rfl, rfl, rfl⟩) hR
  · exact m1000 hh.1 hk.2.1
  · exact m1000 hh.2.1 hk.1
def F_product (ds : List D) (R : D → Prop) : Prop := ∃ h k : Pl, ds = [dP h, dP k] ∧ h.Sz 1000 ∧ k.Sz 1000 ∧ R (.int (pldot h k))
theorem len_product : ∀ ds R, F_product ds R → ds.length = 2 := fun _ _ ⟨_, _, h, _⟩ => by rw [h]; rfl
theorem sp_product {h k : Pl} {R : D → Prop} (hh : h.Sz 1000) (hk : k.Sz 1000) (q : R (.int (pldot h k))) : F_product [dP h, dP k] R := ⟨h, k, rfl, hh, hk, q⟩
abbrev N_product : List Str := ["first", "second"]
theorem sc_product : FnScope N_product ["first", "second"] (defScope (topS 33)) := ⟨rfl, rfl, rfl, by decide +kernel, rfl, by decide +kernel, by decide +kernel⟩
theorem ok_product (T : Tc P w K mg base cs) : Good P w K mg base cs "product" ["first", "second"] 1 F_product := by
  obtain ⟨f, c, fd, D0, m0, t0⟩ := T.fn 24 _ rfl
  refine ⟨f, fd, m0, D0.kp, D0.funD.bindsN (fun _ _ _ _ _ _ us hl => match us, hl with | [_, _], _ => rfl), D0.ok sc_product (fun vs H Q E h => pm_len len_product h) (fun A outer s H vs Q E hr h => ⟨_, (pss_one (ps_ret (pe_op op_add (pe_op op_mulW (pe_ix (r := rIxT K) L2.ix_tup (pv 0) pe_int (fun _ _ => rfl)) (pe_ix (r := rIxT K) L2.ix_tup (pv 1) pe_int (fun _ _ => rfl))) (pe_op op_mulW (pe_ix (r := rIxT K) L2.ix_tup (pv 0) pe_int (fun _ _ => rfl)) (pe_ix (r := rIxT K) L2.ix_tup (pv 1) pe_int (fun _ _ => rfl)))))), pm_body rfl ?_ h⟩)⟩
  intro ds R hF
  obtain ⟨h, k, rfl, hh, hk, hR⟩ := hF
  refine sd_ret (xd_op od_I0 (xd_op od_I (xd_op od_ixT (x_var rfl rfl) (x_int rfl) ⟨_, _, _, rfl, rfl, rfl, rfl⟩) (xd_op od_ixT (x_var rfl rfl) (x_int rfl) ⟨_, _, _, rfl, rfl, rfl, rfl⟩) ⟨_, _, rfl, rfl, ?_, rfl⟩) (xd_op od_I (xd_op od_ixT (x_var rfl rfl) (x_int rfl) ⟨_, _, _, rfl, rfl, rfl, rfl⟩) (xd_op od_ixT (x_var rfl rfl) (x_int rfl) ⟨_, _, _, rfl, rfl, rfl, rfl⟩) ⟨_, _, rfl, rfl, ?_, rfl⟩) ⟨_, _, rfl, rfl, rfl⟩) hR
  · exact m1000 hh.1 hk.1
  · exact m1000 hh.2.1 hk.2.1
theorem pldet_lt {h k : Pl} (hh : h.Sz 1000) (hk : k.Sz 1000) : (pldet h k).natAbs < 2 ^ 2001 := by
  have a : (h.x * k.y).natAbs < 2 ^ 2000 := iabs_mul hh.1 hk.2.1 rfl
  have b : (h.y * k.x).natAbs < 2 ^ 2000 := iabs_mul hh.2.1 hk.1 rfl
  unfold pldet
  rw [show (2 : Nat) ^ 2001 = 2 ^ 2000 * 2 from Nat.pow_succ 2 2000]
  omega
/-- weights of balance: each positive, short -/
def wOk (u : Int) : Prop := 0 < u ∧ u.natAbs < 2 ^ 2001
def F_opposite_weights (ds : List D) (R : D → Prop) : Prop := ∃ h k : Pl, ds = [dP h, dP k] ∧ h.Sz 1000 ∧ k.Sz 1000 ∧ R .none ∧ ∀ u v : Int, wOk u → wOk v → u * h.x + v * k.x = 0 → u * h.y + v * k.y = 0 → R (.tuple [.int u, .int v])
theorem len_opposite_weights : ∀ ds R, F_opposite_weights ds R → ds.length = 2 := fun _ _ ⟨_, _, h, _⟩ => by rw [h]; rfl
abbrev N_opposite_weights : List Str := ["first", "second", "one", "other", "divisor"]
theorem sc_opposite_weights : FnScope N_opposite_weights ["first", "second"] (defScope (topS 34)) := ⟨rfl, rfl, rfl, by decide +kernel, rfl, by decide +kernel, by decide +kernel⟩
theorem ok_opposite_weights (T : Tc P w K mg base cs) : Good P w K mg base cs "opposite_weights" ["first", "second"] 2 F_opposite_weights := by
  obtain ⟨f, c, fd, D0, m0, t0⟩ := T.fn 25 _ rfl
  obtain ⟨f_common_divisor, d_common_divisor, m_common_divisor, k_common_divisor, b_common_divisor, G_common_divisor⟩ := ok_common_divisor T
  obtain ⟨f_product, d_product, m_product, k_product, b_product, G_product⟩ := ok_product T
  obtain ⟨f_determinant, d_determinant, m_determinant, k_determinant, b_determinant, G_determinant⟩ := ok_determinant T
  have z_abs := T.fr "abs" (by decide)
  refine ⟨f, fd, m0, D0.kp, D0.funD.bindsN (fun _ _ _ _ _ _ us hl => match us, hl with | [_, _], _ => rfl), D0.ok sc_opposite_weights (fun vs H Q E h => pm_len len_opposite_weights h) (fun A outer s H vs Q E hr h => ⟨_, (pss_cons (ps_if (PW.pt (pw_or (pt_cmpR op_ne (pe_call G_determinant (hr.mono (by decide)) rfl m_determinant k_determinant b_determinant .nil pass0 (pa_cons (pv 0) (pa_cons (pv 1) pa_nil))) pe_int (nomark _)) (pw_or1 (pt_cmpR op_ge (pe_call G_product (hr.mono (by decide)) rfl m_product k_product b_product .nil pass0 (pa_cons (pv 0) (pa_cons (pv 1) pa_nil))) pe_int (nomark _))))) (pss_one (ps_ret pe_non)) pss_nil)
      (pss_cons (ps_set (i := 2) sc_opposite_weights.nd rfl (.inl rfl) (pe_op op_add (pe_callB call_abs rfl z_abs (by rfl) (pa_cons (pe_ix (r := rIxT K) L2.ix_tup (pv 1) pe_int (fun _ _ => rfl)) pa_nil)) (pe_callB call_abs rfl z_abs (by rfl) (pa_cons (pe_ix (r := rIxT K) L2.ix_tup (pv 1) pe_int (fun _ _ => rfl)) pa_nil))))
      (pss_cons (ps_set (i := 3) sc_opposite_weights.nd rfl (.inl rfl) (pe_op op_add (pe_callB call_abs rfl z_abs (by rfl) (pa_cons (pe_ix (r := rIxT K) L2.ix_tup (pv 0) pe_int (fun _ _ => rfl)) pa_nil)) (pe_callB call_abs rfl z_abs (by rfl) (pa_cons (pe_ix (r := rIxT K) L2.ix_tup (pv 0) pe_int (fun _ _ => rfl)) pa_nil))))
      (pss_cons (ps_set (i := 4) sc_opposite_weights.nd rfl (.inl rfl) (pe_call G_common_divisor (hr.mono (by decide)) rfl m_common_divisor k_common_divisor b_common_divisor .nil pass0 (pa_cons (pv 2) (pa_cons (pv 3) pa_nil))))
      (pss_one (ps_ret (pe_tup (pa_cons (pe_op op_fdivZ (pv 2) (pv 4)) (pa_cons (pe_op op_fdivZ (pv 3) (pv 4)) pa_nil))))))))), pm_body rfl ?_ h⟩)⟩
  intro ds R hF
  obtain ⟨h, k, rfl, hh, hk, h0, hR⟩ := hF
  refine sd_when (td_or (td_test (xd_op od_neI (xd_call (ad_cons (x_var rfl rfl) (ad_cons (x_var rfl rfl) ad_nil)) (sp_determinant hh hk rfl)) (x_int rfl) ⟨_, _, rfl, rfl, rfl⟩) rfl) (fun _ => (td_test (xd_op od_B0 (xd_call (ad_cons (x_var rfl rfl) (ad_cons (x_var rfl rfl) ad_nil)) (sp_product hh hk rfl)) (x_int rfl) ⟨_, _, rfl, rfl, rfl⟩) rfl))) (fun _ => sd_ret (x_non rfl) h0) (fun hc => ?_)
  have hc1 : pldet h k = 0 ∧ pldot h k < 0 := by
    simp only [Bool.or_eq_false_iff, Bool.not_eq_false', decide_eq_true_eq, decide_eq_false_iff_not, Int.not_le] at hc
    exact ⟨hc.1, by have := hc.2; omega⟩
  have hb := opp_bal (a := h.x) (b := h.y) (c := k.x) (d := k.y) (by have := hc1.1; unfold pldet at this; omega) hc1.2
  refine sd_set (d := .int ((k.x.natAbs : Int) + k.y.natAbs)) (xd_op od_I0 (xd_cb cb_abs (ad_cons (xd_op od_ixT (x_var rfl rfl) (x_int rfl) ⟨_, _, _, rfl, rfl, rfl, rfl⟩) ad_nil) ⟨_, rfl, rfl⟩) (xd_cb cb_abs (ad_cons (xd_op od_ixT (x_var rfl rfl) (x_int rfl) ⟨_, _, _, rfl, rfl, rfl, rfl⟩) ad_nil) ⟨_, rfl, rfl⟩) ⟨_, _, rfl, rfl, rfl⟩) ?_
  refine sd_set (d := .int ((h.x.natAbs : Int) + h.y.natAbs)) (xd_op od_I0 (xd_cb cb_abs (ad_cons (xd_op od_ixT (x_var rfl rfl) (x_int rfl) ⟨_, _, _, rfl, rfl, rfl, rfl⟩) ad_nil) ⟨_, rfl, rfl⟩) (xd_cb cb_abs (ad_cons (xd_op od_ixT (x_var rfl rfl) (x_int rfl) ⟨_, _, _, rfl, rfl, rfl, rfl⟩) ad_nil) ⟨_, rfl, rfl⟩) ⟨_, _, rfl, rfl, rfl⟩) ?_
  try simp only [entG, setG, List.map_cons, List.map_nil, List.cons_append, List.nil_append, List.length_cons, List.length_nil, Nat.reduceAdd, Nat.reduceSub, List.replicate_succ, List.replicate_zero, List.set_cons_zero, List.set_cons_succ]
  refine sd_set (xd_call (ad_cons (x_var rfl rfl) (ad_cons (x_var rfl rfl) ad_nil)) (sp_common_divisor rfl)) ?_
  try simp only [entG, setG, List.map_cons, List.map_nil, List.cons_append, List.nil_append, List.length_cons, List.length_nil, Nat.reduceAdd, Nat.reduceSub, List.replicate_succ, List.replicate_zero, List.set_cons_zero, List.set_cons_succ]
  have gp : 0 < (Int.gcd ((k.x.natAbs : Int) + k.y.natAbs) ((h.x.natAbs : Int) + h.y.natAbs) : Int) := by
    have := Int.gcd_pos_of_ne_zero_left ((h.x.natAbs : Int) + h.y.natAbs) (a := (k.x.natAbs : Int) + k.y.natAbs) (by omega)
    omega
  have d1 := Int.gcd_dvd_left ((k.x.natAbs : Int) + k.y.natAbs) ((h.x.natAbs : Int) + h.y.natAbs)
  have d2 := Int.gcd_dvd_right ((k.x.natAbs : Int) + k.y.natAbs) ((h.x.natAbs : Int) + h.y.natAbs)
  have s1 : ((k.x.natAbs : Int) + k.y.natAbs).natAbs < 2 ^ 1001 := by
    have a := hk.1
    have b := hk.2.1
    rw [show (2 : Nat) ^ 1001 = 2 ^ 1000 * 2 from Nat.pow_succ 2 1000]
    omega
  have s2 : ((h.x.natAbs : Int) + h.y.natAbs).natAbs < 2 ^ 1001 := by
    have a := hh.1
    have b := hh.2.1
    rw [show (2 : Nat) ^ 1001 = 2 ^ 1000 * 2 from Nat.pow_succ 2 1000]
    omega
  have cg : ∀ c, CDivZ c (Int.gcd ((k.x.natAbs : Int) + k.y.natAbs) ((h.x.natAbs : Int) + h.y.natAbs) : Int) := fun c => by
    refine ⟨by omega, log_lt (n := 1001) (Nat.lt_of_le_of_lt (Nat.le_of_dvd ?_ (Int.natAbs_dvd_natAbs.mpr d1)) s1) (by decide) (by decide)⟩
    have := hb.2.2.1
    omega
  have q1 := div_pos' gp d1 hb.2.2.1
  have q2 := div_pos' gp d2 hb.2.2.2
  have l2001 : (2 : Nat) ^ 1001 ≤ 2 ^ 2001 := pow_le (by decide)
  have hfin := hR _ _ ⟨q1.1, by have := q1.2; omega⟩ ⟨q2.1, by have := q2.2; omega⟩ (div_bal2 (by omega) d1 d2 hb.1) (div_bal2 (by omega) d1 d2 hb.2.1)
  rw [← Int.fdiv_eq_ediv_of_nonneg _ (Int.le_of_lt gp), ← Int.fdiv_eq_ediv_of_nonneg _ (Int.le_of_lt gp)] at hfin
  refine sd_ret (xd_tup (ad_cons (xd_op od_I (x_var rfl rfl) (x_var rfl rfl) ⟨_, _, rfl, rfl, ?_, rfl⟩) (ad_cons (xd_op od_I (x_var rfl rfl) (x_var rfl rfl) ⟨_, _, rfl, rfl, ?_, rfl⟩) ad_nil)) (Nat.le_of_ble_eq_true rfl) rfl) hfin
  · exact cg _
  · exact cg _
end Rt
set_option Elab.async false
set_option linter.all false
set_option maxRecDepth 100000
set_option maxHeartbeats 4000000
set_option exponentiation.threshold 100000
/-! The walk, part 5: what proves a region empty, the rest. -/
namespace Rt
open PySem PySem.Spec PyProof.Rows L2 GxR Gx RZ
variable {P : Program} {w : World} {K : PySem.W.Frag} {mg : Str → Option Value} {base : Heap} {cs : List Addr}
def F_triple_weights (ds : List D) (R : D → Prop) : Prop := ∃ h k l : Pl, ds = [dP h, dP k, dP l] ∧ h.Sz 1000 ∧ k.Sz 1000 ∧ l.Sz 1000 ∧ R .none ∧ ∀ u v w : Int, wOk u → wOk v → wOk w → u * h.x + v * k.x + w * l.x = 0 → u * h.y + v * k.y + w * l.y = 0 → R (.tuple [.int u, .int v, .int w])
theorem len_triple_weights : ∀ ds R, F_triple_weights ds R → ds.length = 3 := fun _ _ ⟨_, _, _, h, _⟩ => by rw [h]; rfl
def i3 (u v w : Int) : D := .list [.int u, .int v, .int w]
abbrev N_triple_weights : List Str := ["first", "second", "third", "weights", "divisor", "weight"]
theorem sc_triple_weights : FnScope N_triple_weights ["first", "second", "third"] (defScope (topS 35)) := ⟨rfl, rfl, rfl, by decide +kernel, rfl, by decide +kernel, by decide +kernel⟩
theorem ok_triple_weights (T : Tc P w K mg base cs) : Good P w K mg base cs "triple_weights" ["first", "second", "third"] 4 F_triple_weights := by
  obtain ⟨f, c, fd, D0, m0, t0⟩ := T.fn 26 _ rfl
  obtain ⟨f_common_divisor, d_common_divisor, m_common_divisor, k_common_divisor, b_common_divisor, G_common_divisor⟩ := ok_common_divisor T
  obtain ⟨f_determinant, d_determinant, m_determinant, k_determinant, b_determinant, G_determinant⟩ := ok_determinant T
  have z_tuple := T.fr "tuple" (by decide)
  have z_any := T.fr "any" (by decide)
  obtain ⟨P0, hP0, TB0⟩ := t0 (by decide)
  have hP := List.mem_of_getElem? hP0
  refine ⟨f, fd, m0, D0.kp, D0.funD.bindsN (fun _ _ _ _ _ _ us hl => match us, hl with | [_, _, _], _ => rfl), D0.ok sc_triple_weights (fun vs H Q E h => pm_len len_triple_weights h) (fun A outer s H vs Q E hr h => ⟨_, (pss_cons (ps_set (i := 3) sc_triple_weights.nd rfl (.inl rfl) (pe_lst (pa_cons (pe_call G_determinant (hr.mono (by decide)) rfl m_determinant k_determinant b_determinant .nil pass0 (pa_cons (pv 1) (pa_cons (pv 2) pa_nil))) (pa_cons (pe_call G_determinant (hr.mono (by decide)) rfl m_determinant k_determinant b_determinant .nil pass0 (pa_cons (pv 2) (pa_cons (pv 0) pa_nil))) (pa_cons (pe_call G_determinant (hr.mono (by decide)) rfl m_determinant k_determinant b_determinant .nil pass0 (pa_cons (pv 0) (pa_cons (pv 1) pa_nil))) pa_nil)))))
      (pss_cons (ps_if (pt_cmpR op_lt (pe_ix (r := rIxL K) L2.ix_list (pv 3) pe_int (fun _ _ => rfl)) pe_int (nomark _)) (pss_one (ps_setLc (i := 3) (own := [("weight", 5)]) rfl sc_triple_weights.nd rfl rfl (sw_true rfl rfl rfl rfl) (pi_list (pv 3)) (blkOk_by (N := N_triple_weights) (sc := defScope (topS 35)) (by decide +kernel)) (fun s H C cl fp => (pg_name (i := 5) sc_triple_weights.nd rfl (.inl rfl) (.inr rfl))) (fun s H C cl fp => pts_nil) (fun s H C cl fp => (pe_un un_neg (pv 5))))) pss_nil)
      (pss_cons (ps_if (pt_val (Gx.pe_any (N := ["weight"]) (cap := [none]) rfl hr.depth rfl z_any TB0 rfl (genCap_by (XN := N_triple_weights) (xs := defScope (topS 35)) (by decide +kernel)) (pi_list (pv 3)) (fun s H C code fp pn => (pg_name (i := 0) (show (["weight"] : List PySem.Str).Nodup by decide +kernel) rfl (.inl rfl) (.inr rfl))) (fun s H C code fp pn => (pe_cmpR op_le (pv 0) pe_int (nomark _))) (fun _ => rfl))) (pss_one (ps_ret pe_non)) pss_nil)
      (pss_cons (ps_set (i := 4) sc_triple_weights.nd rfl (.inr rfl) (pe_call G_common_divisor (hr.mono (by decide)) rfl m_common_divisor k_common_divisor b_common_divisor .nil pass0 (pa_cons (pe_call G_common_divisor (hr.mono (by decide)) rfl m_common_divisor k_common_divisor b_common_divisor .nil pass0 (pa_cons (pe_ix (r := rIxL K) L2.ix_list (pv 3) pe_int (fun _ _ => rfl)) (pa_cons (pe_ix (r := rIxL K) L2.ix_list (pv 3) pe_int (fun _ _ => rfl)) pa_nil))) (pa_cons (pe_ix (r := rIxL K) L2.ix_list (pv 3) pe_int (fun _ _ => rfl)) pa_nil))))
      (pss_one (ps_ret (pe_callTy call_tuple_of rfl z_tuple (by rfl) (pa_cons (pe_lc (own := [("weight", 5)]) rfl sc_triple_weights.nd (pi_list (pv 3)) (blkOk_by (N := N_triple_weights) (sc := defScope (topS 35)) (by decide +kernel)) (fun s H C cl fp => (pg_name (i := 5) sc_triple_weights.nd rfl (.inl rfl) (.inr rfl))) (fun s H C cl fp => pts_nil) (fun s H C cl fp => (pe_op op_fdivZ (pv 5) (pv 4)))) pa_nil)))))))), pm_body rfl ?_ h⟩)⟩
  intro ds R hF
  obtain ⟨h, k, l, rfl, hh, hk, hl, h0, hR⟩ := hF
  refine sd_set (xd_lst (ad_cons (xd_call (ad_cons (x_var rfl rfl) (ad_cons (x_var rfl rfl) ad_nil)) (sp_determinant hk hl rfl)) (ad_cons (xd_call (ad_cons (x_var rfl rfl) (ad_cons (x_var rfl rfl) ad_nil)) (sp_determinant hl hh rfl)) (ad_cons (xd_call (ad_cons (x_var rfl rfl) (ad_cons (x_var rfl rfl) ad_nil)) (sp_determinant hh hk rfl)) ad_nil))) (Nat.le_of_ble_eq_true rfl) rfl) ?_
  try simp only [entG, setG, List.map_cons, List.map_nil, List.cons_append, List.nil_append, List.length_cons, List.length_nil, Nat.reduceAdd, Nat.reduceSub, List.replicate_succ, List.replicate_zero, List.set_cons_zero, List.set_cons_succ]
  have bal : pldet k l * h.x + pldet l h * k.x + pldet h k * l.x = 0 ∧ pldet k l * h.y + pldet l h * k.y + pldet h k * l.y = 0 := by
    unfold pldet
    constructor <;> grind
  have key : ∀ (u v w : Int) (z z2 : Sl), u.natAbs < 2 ^ 2001 → v.natAbs < 2 ^ 2001 → w.natAbs < 2 ^ 2001 → u * h.x + v * k.x + w * l.x = 0 → u * h.y + v * k.y + w * l.y = 0 → Sx K cs (tSeq (tIfS (tB (tGen P0 [none] (iList K (tVar 3)) (gName 0) (tOp (rI0 fun i j => .bl (decide (i ≤ j))) (tVar 0) (tC (.int 0))) false)) (tRet (tC .non)) tNext)
      (tSeq (tAsg (tCall (Pm K cs F_common_divisor) [] E0 (tCons (tCall (Pm K cs F_common_divisor) [] E0 (tCons (tOp (rIxL K) (tVar 3) (tC (.int 0))) (tCons (tOp (rIxL K) (tVar 3) (tC (.int 1))) tNil))) (tCons (tOp (rIxL K) (tVar 3) (tC (.int 2))) tNil))) (gName 4))
        (tRet (tCB (fun xs H Q => ∃ p ys, xs = [.ref p] ∧ ((SqL K H p ys ∧ ∀ l, H l = none → Q (.ref l) (upd H l (.tup ys))) ∨ (SqT K H p ys ∧ Q (.ref p) H))) (tCons (tLc (iList K (tVar 3)) (gName 5) tYes (tOp (rI CDivZ fun i j => .int (i.fdiv j)) (tVar 5) (tVar 4)) [5]) tNil)))))
      [.val (dP h), .val (dP k), .val (dP l), .val (i3 u v w), z, z2] (fun _ => R .none) R := by
    intro u v w z z2 su sv sw b1 b2
    refine s_when (P := fun b => b = false → 0 < u ∧ 0 < v ∧ 0 < w) (t_B (Ra := fun d => ∃ b : Bool, d = .bool b ∧ (b = false → 0 < u ∧ 0 < v ∧ 0 < w)) (x_gen hP (ixd_list (x_var rfl rfl)) tg_name fun ds e => ?_) fun d ⟨b, e, q⟩ => ⟨b, e, q⟩) (fun _ => sd_ret (x_non rfl) h0) (fun hp => ?_)
    · subst e
      refine ⟨fun d b => ∃ i, d = .int i ∧ b = decide (i ≤ 0), fun d hd => ?_, fun hall => ⟨false, rfl, fun _ => ?_⟩, fun d hd _ => ⟨true, rfl, fun q => by cases q⟩⟩
      · have hi : ∃ i, d = .int i := by
          simp only [List.mem_cons, List.not_mem_nil, or_false] at hd
          rcases hd with rfl | rfl | rfl <;> exact ⟨_, rfl⟩
        obtain ⟨i, rfl⟩ := hi
        refine ⟨_, rfl, ?_⟩
        exact (show Xd K cs _ _ _ from xd_op od_B0 (x_var (d := .int i) rfl rfl) (x_int rfl) ⟨_, _, rfl, rfl, rfl⟩).mono fun r er => ⟨_, er.symm, i, rfl, rfl⟩
      · have f : ∀ i, PyData.int i ∈ [PyData.int u, PyData.int v, PyData.int w] → 0 < i := fun i hi => by
          obtain ⟨j, ej, eb⟩ := hall _ hi
          cases ej
          have := of_decide_eq_false eb.symm
          omega
        exact ⟨f u (by simp), f v (by simp), f w (by simp)⟩
    · obtain ⟨pu, pv', pw'⟩ := hp rfl
      refine sd_set (xd_call (ad_cons (xd_call (ad_cons (xd_op od_ixL (x_var rfl rfl) (x_int rfl) ⟨_, _, _, rfl, rfl, rfl, rfl⟩) (ad_cons (xd_op od_ixL (x_var rfl rfl) (x_int rfl) ⟨_, _, _, rfl, rfl, rfl, rfl⟩) ad_nil)) (sp_common_divisor rfl)) (ad_cons (xd_op od_ixL (x_var rfl rfl) (x_int rfl) ⟨_, _, _, rfl, rfl, rfl, rfl⟩) ad_nil)) (sp_common_divisor rfl)) ?_
      try simp only [entG, setG, List.map_cons, List.map_nil, List.cons_append, List.nil_append, List.length_cons, List.length_nil, Nat.reduceAdd, Nat.reduceSub, List.replicate_succ, List.replicate_zero, List.set_cons_zero, List.set_cons_succ]
      have d0 := Int.gcd_dvd_left (Int.gcd u v : Int) w
      have du := Int.dvd_trans d0 (Int.gcd_dvd_left u v)
      have dv := Int.dvd_trans d0 (Int.gcd_dvd_right u v)
      have dw := Int.gcd_dvd_right (Int.gcd u v : Int) w
      have gp : 0 < (Int.gcd (Int.gcd u v : Int) w : Int) := by
        have := Int.gcd_pos_of_ne_zero_right (Int.gcd u v : Int) (b := w) (by omega)
        omega
      have nn : ∀ c : Int, c.fdiv (Int.gcd (Int.gcd u v : Int) w : Int) = c / (Int.gcd (Int.gcd u v : Int) w : Int) := fun c => Int.fdiv_eq_ediv_of_nonneg _ (Int.le_of_lt gp)
      have cg : ∀ c, CDivZ c (Int.gcd (Int.gcd u v : Int) w : Int) := fun c =>
        ⟨by omega, log_lt (n := 2001) (Nat.lt_of_le_of_lt (Nat.le_of_dvd (by omega) (Int.natAbs_dvd_natAbs.mpr dw)) sw) (by decide) (by decide)⟩
      have qu := div_pos' gp du pu
      have qv := div_pos' gp dv pv'
      have qw := div_pos' gp dw pw'
      have hfin := hR _ _ _ ⟨qu.1, by have := qu.2; omega⟩ ⟨qv.1, by have := qv.2; omega⟩ ⟨qw.1, by have := qw.2; omega⟩ (div_bal3 (by omega) du dv dw b1) (div_bal3 (by omega) du dv dw b2)
      rw [← nn, ← nn, ← nn] at hfin
      refine s_ret (x_cb cb_tuple (a_cons (Ra := Eq (.list [.int (u.fdiv (Int.gcd (Int.gcd u v : Int) w : Int)), .int (v.fdiv (Int.gcd (Int.gcd u v : Int) w : Int)), .int (w.fdiv (Int.gcd (Int.gcd u v : Int) w : Int))])) (Rl := Eq [.list [.int (u.fdiv (Int.gcd (Int.gcd u v : Int) w : Int)), .int (v.fdiv (Int.gcd (Int.gcd u v : Int) w : Int)), .int (w.fdiv (Int.gcd (Int.gcd u v : Int) w : Int))]]) (xd_map (fun d => match d with | .int i => .int (i.fdiv (Int.gcd (Int.gcd u v : Int) w : Int)) | _ => .none) (ixd_list (x_var rfl rfl)) tg_name (by decide) (Nat.le_of_ble_eq_true rfl) (fun d hd => ?_) rfl) ad_nil fun d ds e1 e2 => by rw [e1, e2]) fun ds e => ⟨_, e.symm, hfin⟩)
      have hi : ∃ i, d = .int i := by
        simp only [List.mem_cons, List.not_mem_nil, or_false] at hd
        rcases hd with rfl | rfl | rfl <;> exact ⟨_, rfl⟩
      obtain ⟨i, rfl⟩ := hi
      exact ⟨_, rfl, xd_op od_I (x_var (d := .int i) rfl rfl) (x_var rfl rfl) ⟨_, _, rfl, rfl, cg _, rfl⟩⟩
  refine sd_when (td_test (xd_op od_B0 (xd_op od_ixL (x_var rfl rfl) (x_int rfl) ⟨_, _, _, rfl, rfl, rfl, rfl⟩) (x_int rfl) ⟨_, _, rfl, rfl, rfl⟩) rfl) (fun _ => ?_) (fun _ => key _ _ _ _ _ (pldet_lt hk hl) (pldet_lt hl hh) (pldet_lt hh hk) bal.1 bal.2)
  refine sd_asg (d := i3 (-pldet k l) (-pldet l h) (-pldet h k)) (xd_map (fun d => match d with | .int i => .int (-i) | _ => .none) (ixd_list (x_var rfl rfl)) tg_name (by decide) (Nat.le_of_ble_eq_true rfl) (fun d hd => ?_) rfl) (key _ _ _ _ _ (by have := pldet_lt hk hl; omega) (by have := pldet_lt hl hh; omega) (by have := pldet_lt hh hk; omega) (by have := bal.1; grind) (by have := bal.2; grind))
  have hi : ∃ i, d = .int i := by
    simp only [List.mem_cons, List.not_mem_nil, or_false] at hd
    rcases hd with rfl | rfl | rfl <;> exact ⟨_, rfl⟩
  obtain ⟨i, rfl⟩ := hi
  exact ⟨_, rfl, xd_neg (x_var (d := .int i) rfl rfl)⟩
/-! ### the sets of weights that cancel -/
def pl0 : Pl := ⟨0, 0, 0⟩
/-- places with weights, that cancel -/
structure Bal (hs : List Pl) (ps : List (Nat × Int)) : Prop where
  at_ : ∀ p ∈ ps, p.1 < hs.length ∧ wOk p.2
  len : ps.length ≤ 3
  x : (ps.map fun p => p.2 * (hs.getD p.1 pl0).x).sum = 0
  y : (ps.map fun p => p.2 * (hs.getD p.1 pl0).y).sum = 0
def dIs (ps : List (Nat × Int)) : D := .tuple (ps.map fun p => .int (p.1 : Int))
def dWs (ps : List (Nat × Int)) : D := .tuple (ps.map fun p => .int p.2)
/-- what stands in the list: places with None or with weights -/
def Opd (hs : List Pl) (d : D) : Prop := (∃ is, d = .tuple [is, .none]) ∨ ∃ ps, Bal hs ps ∧ d = .tuple [dIs ps, dWs ps]
def F_opposing_sets (ds : List D) (R : D → Prop) : Prop := ∃ hs : List Pl, ds = [dPs hs] ∧ hs.length ≤ 20 ∧ (∀ h ∈ hs, h.Sz 1000) ∧ ∀ l : List D, l.length ≤ 10000 → (∀ d ∈ l, ∃ ps, Bal hs ps ∧ d = .tuple [dIs ps, dWs ps]) → R (.list l)
theorem len_opposing_sets : ∀ ds R, F_opposing_sets ds R → ds.length = 1 := fun _ _ ⟨_, h, _⟩ => by rw [h]; rfl
theorem getD_of {α : Type} {hs : List α} {i : Nat} {h z : α} (e : hs[i]? = some h) : hs.getD i z = h := by rw [List.getD_eq_getElem?_getD, e]; rfl
theorem bal2 {hs : List Pl} {i j : Nat} {h k : Pl} {u v : Int} (hi : hs[i]? = some h) (hj : hs[j]? = some k) (hu : wOk u) (hv : wOk v) (e1 : u * h.x + v * k.x = 0) (e2 : u * h.y + v * k.y = 0) : Bal hs [(i, u), (j, v)] := by
  refine ⟨fun p hp => ?_, by simp, ?_, ?_⟩
  · simp only [List.mem_cons, List.not_mem_nil, or_false] at hp
    rcases hp with rfl | rfl
    · exact ⟨(List.getElem?_eq_some_iff.mp hi).1, hu⟩
    · exact ⟨(List.getElem?_eq_some_iff.mp hj).1, hv⟩
  · simp only [List.map_cons, List.map_nil, List.sum_cons, List.sum_nil, getD_of hi, getD_of hj]
    omega
  · simp only [List.map_cons, List.map_nil, List.sum_cons, List.sum_nil, getD_of hi, getD_of hj]
    omega
theorem bal3 {hs : List Pl} {i j m : Nat} {h k l : Pl} {u v w : Int} (hi : hs[i]? = some h) (hj : hs[j]? = some k) (hm : hs[m]? = some l) (hu : wOk u) (hv : wOk v) (hw : wOk w) (e1 : u * h.x + v * k.x + w * l.x = 0) (e2 : u * h.y + v * k.y + w * l.y = 0) : Bal hs [(i, u), (j, v), (m, w)] := by
  refine ⟨fun p hp => ?_, by simp, ?_, ?_⟩
  · simp only [List.mem_cons, List.not_mem_nil, or_false] at hp
    rcases hp with rfl | rfl | rfl
    · exact ⟨(List.getElem?_eq_some_iff.mp hi).1, hu⟩
    · exact ⟨(List.getElem?_eq_some_iff.mp hj).1, hv⟩
    · exact ⟨(List.getElem?_eq_some_iff.mp hm).1, hw⟩
  · simp only [List.map_cons, List.map_nil, List.sum_cons, List.sum_nil, getD_of hi, getD_of hj, getD_of hm]
    omega
  · simp only [List.map_cons, List.map_nil, List.sum_cons, List.sum_nil, getD_of hi, getD_of hj, getD_of hm]
    omega
theorem getPl {hs : List Pl} {i : Nat} (h : i < hs.length) : ∃ k, hs[i]? = some k ∧ k ∈ hs ∧ atI (hs.map dP) (i : Int) = some (dP k) := by
  refine ⟨hs[i], List.getElem?_eq_getElem h, List.getElem_mem h, ?_⟩
  exact atI_nat (by rw [List.getElem?_map, List.getElem?_eq_getElem h]; rfl)
abbrev N_opposing_sets : List Str := ["half_planes", "many", "found", "i", "j", "k", "one"]
theorem sc_opposing_sets : FnScope N_opposing_sets ["half_planes"] (defScope (topS 36)) := ⟨rfl, rfl, rfl, by decide +kernel, rfl, by decide +kernel, by decide +kernel⟩
theorem ok_opposing_sets (T : Tc P w K mg base cs) : Good P w K mg base cs "opposing_sets" ["half_planes"] 5 F_opposing_sets := by
  obtain ⟨f, c, fd, D0, m0, t0⟩ := T.fn 27 _ rfl
  obtain ⟨f_triple_weights, d_triple_weights, m_triple_weights, k_triple_weights, b_triple_weights, G_triple_weights⟩ := ok_triple_weights T
  obtain ⟨f_opposite_weights, d_opposite_weights, m_opposite_weights, k_opposite_weights, b_opposite_weights, G_opposite_weights⟩ := ok_opposite_weights T
  have z_range := T.fr "range" (by decide)
  have z_len := T.fr "len" (by decide)
  refine ⟨f, fd, m0, D0.kp, D0.funD.bindsN (fun _ _ _ _ _ _ us hl => match us, hl with | [_], _ => rfl), D0.ok sc_opposing_sets (fun vs H Q E h => pm_len len_opposing_sets h) (fun A outer s H vs Q E hr h => ⟨_, (pss_cons (ps_set (i := 1) sc_opposing_sets.nd rfl (.inl rfl) (pe_callB call_len_seq rfl z_len PySem.boot_len (pa_cons (pv 0) pa_nil)))
      (pss_cons (ps_set (i := 2) sc_opposing_sets.nd rfl (.inl rfl) (pe_lst pa_nil))
      (pss_cons (ps_for PassesOwn.never rfl (pi_range1 rfl z_range (pa_cons (pv 1) pa_nil)) (pg_name (i := 3) sc_opposing_sets.nd rfl (.inl rfl)) (pss_one (ps_for PassesOwn.never rfl (pi_range2 rfl z_range (pa_cons (pe_op op_add (pv 3) pe_int) (pa_cons (pv 1) pa_nil))) (pg_name (i := 4) sc_opposing_sets.nd rfl (.inl rfl)) (pss_one (ps_expr (pe_bm PySem.F.plainAttrs_list PySem.F.slot_list_append PySem.F.type_list_append mt_append (pv 2) (pa_cons (pe_tup (pa_cons (pe_tup (pa_cons (pv 3) (pa_cons (pv 4) pa_nil))) (pa_cons (pe_call G_opposite_weights (hr.mono (by decide)) rfl m_opposite_weights k_opposite_weights b_opposite_weights .nil pass0 (pa_cons (pe_ix (r := rIxL K) L2.ix_list (pv 0) (pv 3) (fun _ _ => rfl)) (pa_cons (pe_ix (r := rIxL K) L2.ix_list (pv 0) (pv 4) (fun _ _ => rfl)) pa_nil))) pa_nil))) pa_nil)))))))
      (pss_cons (ps_for PassesOwn.never rfl (pi_range1 rfl z_range (pa_cons (pv 1) pa_nil)) (pg_name (i := 3) sc_opposing_sets.nd rfl (.inl rfl)) (pss_one (ps_for PassesOwn.never rfl (pi_range2 rfl z_range (pa_cons (pe_op op_add (pv 3) pe_int) (pa_cons (pv 1) pa_nil))) (pg_name (i := 4) sc_opposing_sets.nd rfl (.inl rfl)) (pss_one (ps_for PassesOwn.never rfl (pi_range2 rfl z_range (pa_cons (pe_op op_add (pv 4) pe_int) (pa_cons (pv 1) pa_nil))) (pg_name (i := 5) sc_opposing_sets.nd rfl (.inl rfl)) (pss_one (ps_expr (pe_bm PySem.F.plainAttrs_list PySem.F.slot_list_append PySem.F.type_list_append mt_append (pv 2) (pa_cons (pe_tup (pa_cons (pe_tup (pa_cons (pv 3) (pa_cons (pv 4) (pa_cons (pv 5) pa_nil)))) (pa_cons (pe_call G_triple_weights (hr.mono (by decide)) rfl m_triple_weights k_triple_weights b_triple_weights .nil pass0 (pa_cons (pe_ix (r := rIxL K) L2.ix_list (pv 0) (pv 3) (fun _ _ => rfl)) (pa_cons (pe_ix (r := rIxL K) L2.ix_list (pv 0) (pv 4) (fun _ _ => rfl)) (pa_cons (pe_ix (r := rIxL K) L2.ix_list (pv 0) (pv 5) (fun _ _ => rfl)) pa_nil)))) pa_nil))) pa_nil)))))))))
      (pss_one (ps_ret (pe_lc (own := [("one", 6)]) rfl sc_opposing_sets.nd (pi_list (pv 2)) (blkOk_by (N := N_opposing_sets) (sc := defScope (topS 36)) (by decide +kernel)) (fun s H C cl fp => (pg_name (i := 6) sc_opposing_sets.nd rfl (.inl rfl) (.inr rfl))) (fun s H C cl fp => (pts_one (pt_cmp (pc_notN (pe_ix (r := rIxT K) L2.ix_tup (pv 6) pe_int (fun _ _ => rfl)))))) (fun s H C cl fp => (pv 6))))))))), pm_body rfl ?_ h⟩)⟩
  intro ds R hF
  obtain ⟨hs, rfl, hn, hh, hR⟩ := hF
  refine sd_set (d := .int (hs.length : Int)) (xd_cb cb_len (ad_cons (x_var (d := dPs hs) rfl rfl) ad_nil) ⟨_, .inl rfl, by rw [List.length_map]⟩) ?_
  refine s_seq (s_newL ad_nil (Nat.le_of_ble_eq_true rfl) ?_)
  try simp only [entG, setG, List.map_cons, List.map_nil, List.cons_append, List.nil_append, List.length_cons, List.length_nil, Nat.reduceAdd, Nat.reduceSub, List.replicate_succ, List.replicate_zero, List.set_cons_zero, List.set_cons_succ]
  -- pairs
  refine s_seq (sd_for (ixd_rng1 (ad_cons (x_var rfl rfl) ad_nil) (by omega) (by omega)) tg_name (fun n Γ => ∃ (l : List D) (zi zj zk zo : Sl), Γ = [.val (dPs hs), .val (.int (hs.length : Int)), .own l, zi, zj, zk, zo] ∧ n ≤ hs.length ∧ l.length ≤ 20 * n ∧ ∀ d ∈ l, Opd hs d) ⟨[], .no, .no, .no, .no, rfl, Nat.zero_le _, Nat.le_refl _, fun d h => by cases h⟩ ?_ ?_)
  · rintro n d Γ' hd ⟨l, zi, zj, zk, zo, rfl, hn1, hl, hO⟩
    obtain ⟨hn2, rfl⟩ := rngD_get hd
    rw [show (0 : Int) + (n : Int) = (n : Int) from Int.zero_add _]
    have hn3 : n < hs.length := by omega
    refine ⟨_, rfl, ?_⟩
    try simp only [entG, setG, List.map_cons, List.map_nil, List.cons_append, List.nil_append, List.length_cons, List.length_nil, Nat.reduceAdd, Nat.reduceSub, List.replicate_succ, List.replicate_zero, List.set_cons_zero, List.set_cons_succ]
    refine sd_for (ixd_rng2 (ad_cons (xd_op od_I0 (x_var rfl rfl) (x_int rfl) ⟨_, _, rfl, rfl, rfl⟩) (ad_cons (x_var rfl rfl) ad_nil)) (by omega) (by omega) (by omega) (by omega)) tg_name (fun m Γ => ∃ (l : List D) (zj zk zo : Sl), Γ = [.val (dPs hs), .val (.int (hs.length : Int)), .own l, .val (.int (n : Int)), zj, zk, zo] ∧ m ≤ 20 ∧ l.length ≤ 20 * n + m ∧ ∀ d ∈ l, Opd hs d) ⟨l, zj, zk, zo, rfl, Nat.zero_le _, hl, hO⟩ ?_ ?_
    · rintro m d Γ' hd ⟨l, zj, zk, zo, rfl, hm1, hl, hO⟩
      obtain ⟨hm2, rfl⟩ := rngD_get hd
      have ej : (n : Int) + 1 + (m : Int) = ((n + 1 + m : Nat) : Int) := by omega
      rw [ej]
      have hm3 : n + 1 + m < hs.length := by omega
      obtain ⟨h, eh, mh, ah⟩ := getPl hn3
      obtain ⟨k, ek, mk, ak⟩ := getPl hm3
      refine ⟨_, rfl, ?_⟩
      try simp only [entG, setG, List.map_cons, List.map_nil, List.cons_append, List.nil_append, List.length_cons, List.length_nil, Nat.reduceAdd, Nat.reduceSub, List.replicate_succ, List.replicate_zero, List.set_cons_zero, List.set_cons_succ]
      refine s_app (Ra := Opd hs) (i := 2) rfl (by omega) (x_tup (Rl := fun ds => ∃ a b, ds = [a, b] ∧ Opd hs (.tuple [a, b])) (a_cons (Ra := Eq (.tuple [.int (n : Int), .int ((n + 1 + m : Nat) : Int)])) (Rr := fun ds => ∃ b, ds = [b] ∧ Opd hs (.tuple [.tuple [.int (n : Int), .int ((n + 1 + m : Nat) : Int)], b])) (xd_tup (ad_cons (x_var rfl rfl) (ad_cons (x_var rfl rfl) ad_nil)) (Nat.le_of_ble_eq_true rfl) rfl) (a_cons (Ra := fun b => Opd hs (.tuple [.tuple [.int (n : Int), .int ((n + 1 + m : Nat) : Int)], b])) (xd_call (ad_cons (xd_op od_ixL (x_var (d := dPs hs) rfl rfl) (x_var rfl rfl) ⟨_, _, _, rfl, rfl, ah, rfl⟩) (ad_cons (xd_op od_ixL (x_var (d := dPs hs) rfl rfl) (x_var rfl rfl) ⟨_, _, _, rfl, rfl, ak, rfl⟩) ad_nil)) ?_) (a_nil rfl : Ax K cs _ _ (Eq [])) fun b ds h1 h2 => ⟨b, by rw [← h2], h1⟩) fun a ds h1 ⟨b, h2, h3⟩ => ⟨a, b, by rw [h2], by rw [← h1]; exact h3⟩) fun ds ⟨a, b, e, q⟩ => by subst e; exact ⟨Nat.le_of_ble_eq_true rfl, q⟩) fun d hd => ⟨l ++ [d], _, _, _, rfl, by omega, by rw [List.length_append]; simp only [List.length_cons, List.length_nil]; omega, fun x hx => ?_⟩
      · exact ⟨h, k, rfl, hh h mh, hh k mk, .inl ⟨_, rfl⟩, fun u v hu hv e1 e2 => .inr ⟨[(n, u), (n + 1 + m, v)], bal2 eh ek hu hv e1 e2, rfl⟩⟩
      · rcases List.mem_append.mp hx with z | z
        · exact hO x z
        · rw [List.mem_singleton.mp z]
          exact hd
    · rintro Γ' ⟨l, zj, zk, zo, rfl, hm, hl, hO⟩
      rw [rngD_length] at hl
      exact ⟨l, _, _, _, _, rfl, by omega, by omega, hO⟩
  rintro Γ' ⟨l, zi, zj, zk, zo, rfl, _, hl, hO⟩
  rw [rngD_length] at hl
  have hl : l.length ≤ 400 := by omega
  -- triples
  refine s_seq (sd_for (ixd_rng1 (ad_cons (x_var rfl rfl) ad_nil) (by omega) (by omega)) tg_name (fun n Γ => ∃ (l : List D) (zi zj zk zo : Sl), Γ = [.val (dPs hs), .val (.int (hs.length : Int)), .own l, zi, zj, zk, zo] ∧ n ≤ hs.length ∧ l.length ≤ 400 + 400 * n ∧ ∀ d ∈ l, Opd hs d) ⟨l, zi, zj, zk, zo, rfl, Nat.zero_le _, hl, hO⟩ ?_ ?_)
  · rintro n d Γ' hd ⟨l, zi, zj, zk, zo, rfl, hn1, hl, hO⟩
    obtain ⟨hn2, rfl⟩ := rngD_get hd
    rw [show (0 : Int) + (n : Int) = (n : Int) from Int.zero_add _]
    have hn3 : n < hs.length := by omega
    refine ⟨_, rfl, ?_⟩
    try simp only [entG, setG, List.map_cons, List.map_nil, List.cons_append, List.nil_append, List.length_cons, List.length_nil, Nat.reduceAdd, Nat.reduceSub, List.replicate_succ, List.replicate_zero, List.set_cons_zero, List.set_cons_succ]
    refine sd_for (ixd_rng2 (ad_cons (xd_op od_I0 (x_var rfl rfl) (x_int rfl) ⟨_, _, rfl, rfl, rfl⟩) (ad_cons (x_var rfl rfl) ad_nil)) (by omega) (by omega) (by omega) (by omega)) tg_name (fun m Γ => ∃ (l : List D) (zj zk zo : Sl), Γ = [.val (dPs hs), .val (.int (hs.length : Int)), .own l, .val (.int (n : Int)), zj, zk, zo] ∧ m ≤ 20 ∧ l.length ≤ 400 + 400 * n + 20 * m ∧ ∀ d ∈ l, Opd hs d) ⟨l, zj, zk, zo, rfl, Nat.zero_le _, hl, hO⟩ ?_ ?_
    · rintro m d Γ' hd ⟨l, zj, zk, zo, rfl, hm1, hl, hO⟩
      obtain ⟨hm2, rfl⟩ := rngD_get hd
      have ej : (n : Int) + 1 + (m : Int) = ((n + 1 + m : Nat) : Int) := by omega
      rw [ej]
      have hm3 : n + 1 + m < hs.length := by omega
      refine ⟨_, rfl, ?_⟩
      try simp only [entG, setG, List.map_cons, List.map_nil, List.cons_append, List.nil_append, List.length_cons, List.length_nil, Nat.reduceAdd, Nat.reduceSub, List.replicate_succ, List.replicate_zero, List.set_cons_zero, List.set_cons_succ]
      refine sd_for (ixd_rng2 (ad_cons (xd_op od_I0 (x_var rfl rfl) (x_int rfl) ⟨_, _, rfl, rfl, rfl⟩) (ad_cons (x_var rfl rfl) ad_nil)) (by omega) (by omega) (by omega) (by omega)) tg_name (fun p Γ => ∃ (l : List D) (zk zo : Sl), Γ = [.val (dPs hs), .val (.int (hs.length : Int)), .own l, .val (.int (n : Int)), .val (.int ((n + 1 + m : Nat) : Int)), zk, zo] ∧ p ≤ 20 ∧ l.length ≤ 400 + 400 * n + 20 * m + p ∧ ∀ d ∈ l, Opd hs d) ⟨l, zk, zo, rfl, Nat.zero_le _, hl, hO⟩ ?_ ?_
      · rintro p d Γ' hd ⟨l, zk, zo, rfl, hp1, hl, hO⟩
        obtain ⟨hp2, rfl⟩ := rngD_get hd
        have ek2 : ((n + 1 + m : Nat) : Int) + 1 + (p : Int) = ((n + 1 + m + 1 + p : Nat) : Int) := by omega
        rw [ek2]
        have hp3 : n + 1 + m + 1 + p < hs.length := by omega
        obtain ⟨h, eh, mh, ah⟩ := getPl hn3
        obtain ⟨k, ek, mk, ak⟩ := getPl hm3
        obtain ⟨o, eo, mo, ao⟩ := getPl hp3
        refine ⟨_, rfl, ?_⟩
        try simp only [entG, setG, List.map_cons, List.map_nil, List.cons_append, List.nil_append, List.length_cons, List.length_nil, Nat.reduceAdd, Nat.reduceSub, List.replicate_succ, List.replicate_zero, List.set_cons_zero, List.set_cons_succ]
        refine s_app (Ra := Opd hs) (i := 2) rfl (by omega) (x_tup (Rl := fun ds => ∃ a b, ds = [a, b] ∧ Opd hs (.tuple [a, b])) (a_cons (Ra := Eq (.tuple [.int (n : Int), .int ((n + 1 + m : Nat) : Int), .int ((n + 1 + m + 1 + p : Nat) : Int)])) (Rr := fun ds => ∃ b, ds = [b] ∧ Opd hs (.tuple [.tuple [.int (n : Int), .int ((n + 1 + m : Nat) : Int), .int ((n + 1 + m + 1 + p : Nat) : Int)], b])) (xd_tup (ad_cons (x_var rfl rfl) (ad_cons (x_var rfl rfl) (ad_cons (x_var rfl rfl) ad_nil))) (Nat.le_of_ble_eq_true rfl) rfl) (a_cons (Ra := fun b => Opd hs (.tuple [.tuple [.int (n : Int), .int ((n + 1 + m : Nat) : Int), .int ((n + 1 + m + 1 + p : Nat) : Int)], b])) (xd_call (ad_cons (xd_op od_ixL (x_var (d := dPs hs) rfl rfl) (x_var rfl rfl) ⟨_, _, _, rfl, rfl, ah, rfl⟩) (ad_cons (xd_op od_ixL (x_var (d := dPs hs) rfl rfl) (x_var rfl rfl) ⟨_, _, _, rfl, rfl, ak, rfl⟩) (ad_cons (xd_op od_ixL (x_var (d := dPs hs) rfl rfl) (x_var rfl rfl) ⟨_, _, _, rfl, rfl, ao, rfl⟩) ad_nil))) ?_) (a_nil rfl : Ax K cs _ _ (Eq [])) fun b ds h1 h2 => ⟨b, by rw [← h2], h1⟩) fun a ds h1 ⟨b, h2, h3⟩ => ⟨a, b, by rw [h2], by rw [← h1]; exact h3⟩) fun ds ⟨a, b, e, q⟩ => by subst e; exact ⟨Nat.le_of_ble_eq_true rfl, q⟩) fun d hd => ⟨l ++ [d], _, _, rfl, by omega, by rw [List.length_append]; simp only [List.length_cons, List.length_nil]; omega, fun x hx => ?_⟩
        · exact ⟨h, k, o, rfl, hh h mh, hh k mk, hh o mo, .inl ⟨_, rfl⟩, fun u v w hu hv hw e1 e2 => .inr ⟨[(n, u), (n + 1 + m, v), (n + 1 + m + 1 + p, w)], bal3 eh ek eo hu hv hw e1 e2, rfl⟩⟩
        · rcases List.mem_append.mp hx with z | z
          · exact hO x z
          · rw [List.mem_singleton.mp z]
            exact hd
      · rintro Γ' ⟨l, zk, zo, rfl, hp, hl, hO⟩
        rw [rngD_length] at hl
        exact ⟨l, _, _, _, rfl, by omega, by omega, hO⟩
    · rintro Γ' ⟨l, zj, zk, zo, rfl, hm, hl, hO⟩
      rw [rngD_length] at hl
      exact ⟨l, _, _, _, _, rfl, by omega, by omega, hO⟩
  rintro Γ' ⟨l, zi, zj, zk, zo, rfl, _, hl, hO⟩
  rw [rngD_length] at hl
  have hl : l.length ≤ 8400 := by omega
  refine s_show (i := 2) rfl ?_
  try simp only [entG, setG, List.map_cons, List.map_nil, List.cons_append, List.nil_append, List.length_cons, List.length_nil, Nat.reduceAdd, Nat.reduceSub, List.replicate_succ, List.replicate_zero, List.set_cons_zero, List.set_cons_succ]
  refine s_ret (x_lc (ixd_list (x_var rfl rfl)) tg_name (by decide) fun ds e => ?_)
  subst e
  refine ⟨by omega, fun pre acc => acc.length ≤ pre.length ∧ ∀ d ∈ acc, ∃ ps, Bal hs ps ∧ d = .tuple [dIs ps, dWs ps], ⟨Nat.le_refl _, fun d h => by cases h⟩, fun i d acc hd ha => ?_, fun rs h => hR rs (by omega) h.2⟩
  have hln : (l.take (i + 1)).length = (l.take i).length + 1 := by rw [take_snoc hd, List.length_append]; rfl
  have hod := hO d (List.mem_of_getElem? hd)
  refine ⟨_, rfl, fun b => b = true → ∃ ps, Bal hs ps ∧ d = .tuple [dIs ps, dWs ps], ?_, fun hb => (show Xd K cs _ _ d from x_var rfl rfl).mono fun r er => ⟨?_, fun x hx => ?_⟩, fun _ => ⟨by omega, ha.2⟩⟩
  · rcases hod with ⟨is, rfl⟩ | ⟨ps, hb, rfl⟩
    · exact (show Td K cs _ _ _ from td_B (xd_notN (xd_op od_ixT (x_var (d := .tuple [is, .none]) rfl rfl) (x_int rfl) ⟨_, _, _, rfl, rfl, rfl, rfl⟩)) rfl).mono fun b e q => by subst e; cases q
    · exact (show Td K cs _ _ _ from td_B (xd_notN (xd_op od_ixT (x_var (d := .tuple [dIs ps, dWs ps]) rfl rfl) (x_int rfl) ⟨_, _, _, rfl, rfl, rfl, rfl⟩)) rfl).mono fun b e q => ⟨ps, hb, rfl⟩
  · rw [List.length_append, hln]
    have := ha.1
    simp only [List.length_cons, List.length_nil]
    omega
  · rcases List.mem_append.mp hx with z | z
    · exact ha.2 x z
    · rw [List.mem_singleton.mp z, ← er]
      exact hb rfl
def numOf (hs : List Pl) (ps : List (Nat × Int)) : Int := (ps.map fun p => (hs.getD p.1 pl0).z * p.2).sum
def F_number_of (ds : List D) (R : D → Prop) : Prop := ∃ (hs : List Pl) (ps : List (Nat × Int)), ds = [dPs hs, dIs ps, dWs ps] ∧ (∀ h ∈ hs, h.Sz 1000) ∧ Bal hs ps ∧ R (.int (numOf hs ps))
theorem len_number_of : ∀ ds R, F_number_of ds R → ds.length = 3 := fun _ _ ⟨_, _, h, _⟩ => by rw [h]; rfl
theorem sp_number_of {hs : List Pl} {ps : List (Nat × Int)} {R : D → Prop} (hh : ∀ h ∈ hs, h.Sz 1000) (hb : Bal hs ps) (k : R (.int (numOf hs ps))) : F_number_of [dPs hs, dIs ps, dWs ps] R := ⟨hs, ps, rfl, hh, hb, k⟩
theorem zip_ps : ∀ ps : List (Nat × Int), zipD (ps.map fun p => .int (p.1 : Int)) (ps.map fun p => .int p.2) = ps.map fun p => .tuple [.int (p.1 : Int), .int p.2]
  | [] => rfl
  | p :: ps => by
    have := zip_ps ps
    unfold zipD at this ⊢
    simp only [List.map_cons, List.zipWith_cons_cons]
    rw [this]
abbrev N_number_of : List Str := ["half_planes", "indexes", "weights", "index", "weight"]
theorem sc_number_of : FnScope N_number_of ["half_planes", "indexes", "weights"] (defScope (topS 37)) := ⟨rfl, rfl, rfl, by decide +kernel, rfl, by decide +kernel, by decide +kernel⟩
theorem ok_number_of (T : Tc P w K mg base cs) : Good P w K mg base cs "number_of" ["half_planes", "indexes", "weights"] 1 F_number_of := by
  obtain ⟨f, c, fd, D0, m0, t0⟩ := T.fn 28 _ rfl
  have z_sum := T.fr "sum" (by decide)
  have z_zip := T.fr "zip" (by decide)
  refine ⟨f, fd, m0, D0.kp, D0.funD.bindsN (fun _ _ _ _ _ _ us hl => match us, hl with | [_, _, _], _ => rfl), D0.ok sc_number_of (fun vs H Q E h => pm_len len_number_of h) (fun A outer s H vs Q E hr h => ⟨_, (pss_one (ps_ret (pe_callB (cr_sum rfl) rfl z_sum (by rfl) (pa_cons (pe_lc (own := [("index", 3), ("weight", 4)]) rfl sc_number_of.nd (RZ.pi_zipA rfl z_zip (pa_cons (pv 1) (pa_cons (pv 2) pa_nil))) (blkOk_by (N := N_number_of) (sc := defScope (topS 37)) (by decide +kernel)) (fun s H C cl fp => (show PG _ _ (gTup K 2 (gCons (gName 3) (gCons (gName 4) gNil))) from pg_tup (n := 2) rfl (pgs_cons (pg_name (i := 3) sc_number_of.nd rfl (.inl rfl) (.inr rfl)) (pgs_cons (pg_name (i := 4) sc_number_of.nd rfl (.inl rfl) (.inr rfl)) pgs_nil)))) (fun s H C cl fp => pts_nil) (fun s H C cl fp => (pe_op op_mulW (pe_ix (r := rIxT K) L2.ix_tup (pe_ix (r := rIxL K) L2.ix_list (pv 0) (pv 3) (fun _ _ => rfl)) pe_int (fun _ _ => rfl)) (pv 4)))) pa_nil)))), pm_body rfl ?_ h⟩)⟩
  intro ds R hF
  obtain ⟨hs, ps, rfl, hh, hb, hR⟩ := hF
  refine s_ret (x_cb cb_sum (a_cons (Ra := Eq (.list ((ps.map fun p => (hs.getD p.1 pl0).z * p.2).map PyData.int))) (Rl := Eq [.list ((ps.map fun p => (hs.getD p.1 pl0).z * p.2).map PyData.int)]) (xd_map (ds := ps.map fun p => .tuple [.int (p.1 : Int), .int p.2]) (fun d => match d with | .tuple [.int i, .int v] => .int ((hs.getD i.toNat pl0).z * v) | _ => .none) (by have h := ixd_zipT (K := K) (cs := cs) (Γ := entG N_number_of.length [dPs hs, dIs ps, dWs ps]) (ds := ps.map fun p => PyData.int (p.1 : Int)) (es := ps.map fun p => .int p.2) (ad_cons (x_var (i := 1) rfl rfl) (ad_cons (x_var (i := 2) rfl rfl) ad_nil)); rw [zip_ps] at h; exact h) (tg_tup (js := [3, 4]) rfl) (by decide) (by rw [List.length_map]; have := hb.len; omega) (fun d hd => ?_) ?_) ad_nil fun d ds e1 e2 => by rw [e1, e2]) fun ds e => ⟨_, e.symm, hR⟩)
  · obtain ⟨p, hp, rfl⟩ := memMap hd
    have hat := hb.at_ p hp
    obtain ⟨k, ek, mk, ak⟩ := getPl hat.1
    refine ⟨_, rfl, ?_⟩
    refine Xd.to (xd_op od_I (xd_op od_ixT (xd_op od_ixL (x_var (d := dPs hs) rfl rfl) (x_var (d := .int (p.1 : Int)) rfl rfl) ⟨_, _, _, rfl, rfl, ak, rfl⟩) (x_int rfl) ⟨_, _, _, rfl, rfl, rfl, rfl⟩) (x_var (d := .int p.2) rfl rfl) ⟨_, _, rfl, rfl, wmul (hh k mk).2.2 hat.2.2 (by decide) (by decide) (by decide), rfl⟩) ?_
    show PyData.int (k.z * p.2) = .int ((hs.getD ((p.1 : Int)).toNat pl0).z * p.2)
    rw [Int.toNat_natCast, getD_of ek]
  · rw [List.map_map, List.map_map]
    rfl
/-- cancelling weights that prove a region empty -/
def Cert (hs : List Pl) : Prop := ∃ ps, Bal hs ps ∧ numOf hs ps < 0
def F_is_empty (ds : List D) (R : D → Prop) : Prop := ∃ hs : List Pl, ds = [dPs hs] ∧ hs.length ≤ 20 ∧ (∀ h ∈ hs, h.Sz 1000) ∧ ∀ b : Bool, (b = true → Cert hs) → R (.bool b)
theorem len_is_empty : ∀ ds R, F_is_empty ds R → ds.length = 1 := fun _ _ ⟨_, h, _⟩ => by rw [h]; rfl
abbrev N_is_empty : List Str := ["half_planes"]
theorem sc_is_empty : FnScope N_is_empty ["half_planes"] (defScope (topS 38)) := ⟨rfl, rfl, rfl, by decide +kernel, rfl, by decide +kernel, by decide +kernel⟩
theorem ok_is_empty (T : Tc P w K mg base cs) : Good P w K mg base cs "is_empty" ["half_planes"] 6 F_is_empty := by
  obtain ⟨f, c, fd, D0, m0, t0⟩ := T.fn 29 _ rfl
  obtain ⟨f_opposing_sets, d_opposing_sets, m_opposing_sets, k_opposing_sets, b_opposing_sets, G_opposing_sets⟩ := ok_opposing_sets T
  obtain ⟨f_number_of, d_number_of, m_number_of, k_number_of, b_number_of, G_number_of⟩ := ok_number_of T
  have z_any := T.fr "any" (by decide)
  obtain ⟨P0, hP0, TB0⟩ := t0 (by decide)
  have hP := List.mem_of_getElem? hP0
  refine ⟨f, fd, m0, D0.kp, D0.funD.bindsN (fun _ _ _ _ _ _ us hl => match us, hl with | [_], _ => rfl), D0.ok sc_is_empty (fun vs H Q E h => pm_len len_is_empty h) (fun A outer s H vs Q E hr h => ⟨_, (pss_one (ps_ret (Gx.pe_any (N := ["indexes", "weights", "half_planes"]) (cap := [none, none, some 0]) rfl hr.depth rfl z_any TB0 rfl (genCap_by (XN := N_is_empty) (xs := defScope (topS 38)) (by decide +kernel)) (pi_list (pe_call G_opposing_sets (hr.mono (by decide)) rfl m_opposing_sets k_opposing_sets b_opposing_sets .nil pass0 (pa_cons (pv 0) pa_nil))) (fun s H C code fp pn => (show PG _ _ (gTup K 2 (gCons (gName 0) (gCons (gName 1) gNil))) from pg_tup (n := 2) rfl (pgs_cons (pg_name (i := 0) (show (["indexes", "weights", "half_planes"] : List PySem.Str).Nodup by decide +kernel) rfl (.inl rfl) (.inr rfl)) (pgs_cons (pg_name (i := 1) (show (["indexes", "weights", "half_planes"] : List PySem.Str).Nodup by decide +kernel) rfl (.inl rfl) (.inr rfl)) pgs_nil)))) (fun s H C code fp pn => (pe_cmpR op_lt (pe_call G_number_of ((Gx.room_gen hr).mono (by decide)) rfl m_number_of k_number_of b_number_of .nil pass0 (pa_cons (pv 2) (pa_cons (pv 0) (pa_cons (pv 1) pa_nil)))) pe_int (nomark _))) (fun _ => rfl)))), pm_body rfl ?_ h⟩)⟩
  intro ds R hF
  obtain ⟨hs, rfl, hn, hh, hR⟩ := hF
  refine s_ret (x_gen (Rl := fun l => ∀ d ∈ l, ∃ ps, Bal hs ps ∧ d = .tuple [dIs ps, dWs ps]) hP (ix_list (Ra := fun d => ∃ l, d = .list l ∧ ∀ d ∈ l, ∃ ps, Bal hs ps ∧ d = .tuple [dIs ps, dWs ps]) (xd_call (ad_cons (x_var (d := dPs hs) rfl rfl) ad_nil) ⟨hs, rfl, hn, hh, fun l _ h => ⟨l, rfl, h⟩⟩) fun d h => h) (tg_tup (js := [0, 1]) rfl) fun l hl => ?_)
  refine ⟨fun d b => b = true → Cert hs, fun d hd => ?_, fun _ => hR false (fun z => by cases z), fun d _ h => hR true h⟩
  obtain ⟨ps, hb, rfl⟩ := hl d hd
  refine ⟨_, rfl, ?_⟩
  exact (show Xd K cs _ _ _ from xd_op od_B0 (xd_call (ad_cons (x_var (d := dPs hs) rfl rfl) (ad_cons (x_var (d := dIs ps) rfl rfl) (ad_cons (x_var (d := dWs ps) rfl rfl) ad_nil))) (sp_number_of hh hb rfl)) (x_int rfl) ⟨_, _, rfl, rfl, rfl⟩).mono fun r er => ⟨_, er.symm, fun q => ⟨ps, hb, of_decide_eq_true q⟩⟩
end Rt
set_option Elab.async false
set_option linter.all false
set_option maxRecDepth 100000
set_option maxHeartbeats 4000000
set_option exponentiation.threshold 100000
/-! The walk, part 6: bounds of a region, mapped half-planes. -/
namespace Rt
open PySem PySem.Spec PyProof.Rows L2 GxR Gx RZ
section
variable {K : PySem.W.Frag} {cs : List Addr} {Γ : Gm} {R : D → Prop} {N : Gm → Prop} {te : TE}
/-- x = [.. for ..]: a new list that the def goes on to fill -/
theorem s_lcOwn {s : Nat} {wi : TI} {g : TG} {js vs : List Nat} {f : D → Option (List D)} {tt : L2.TT} {Rl : List D → Prop} (hi : Ix K cs wi Γ Rl) (hg : Tg K g js f) (hv : ∀ j ∈ js, j ∈ vs)
    (h : ∀ ds, Rl ds → ds.length ≤ 90000 ∧ ∃ T : List D → List D → Prop, T [] [] ∧ (∀ i d acc, ds[i]? = some d → T (ds.take i) acc → ∃ es, f d = some es ∧ ∃ Pt : Bool → Prop, Tx K cs tt (setG (clr Γ vs) js es) Pt ∧
      (Pt true → Ex K cs te (setG (clr Γ vs) js es) fun r => T (ds.take (i + 1)) (acc ++ [r])) ∧ (Pt false → T (ds.take (i + 1)) acc)) ∧ ∀ rs, T ds rs → N (Γ.set s (.own rs))) : Sx K cs (tAsg (tLc wi g tt te vs) (gName s)) Γ N R := fun B0 H0 σ B H st0 r E qn _ => by
  refine hi H0 σ B H r st0.v _ fun J B1 H1 ds s1 it rl => ?_
  obtain ⟨hlen, T, t0, hs, hd⟩ := h ds rl
  intro Dl hD
  have r1 := r.step s1
  have nB : B1 Dl = none := s1.v.none hD
  refine ⟨fun i m H' => m = ds.length - i ∧ i ≤ ds.length ∧ ∃ B' acc rs, Stp B1 H1 B' H' ∧ B' Dl = none ∧ H' Dl = some (.lst acc) ∧ DqAll K B' acc rs ∧ T (ds.take i) rs ∧ acc.length ≤ i,
    ⟨ds.length, rfl, Nat.zero_le _, B1, [], [], (Stp.refl s1.v).hide hD, nB, upd_same, .nil, t0, Nat.le_refl _⟩, ?_⟩
  rintro i m H' ⟨rfl, hle, B', acc, rs, s2, nB2, eD, dq, ti, al⟩
  by_cases hlt : i < ds.length
  · refine .inr ⟨it.go i B' H' s2.b s2.v hlt, fun H3 => ∃ B' acc rs, Stp B1 H1 B' H3 ∧ B' Dl = none ∧ H3 Dl = some (.lst acc) ∧ DqAll K B' acc rs ∧ T (ds.take (i + 1)) rs ∧ acc.length ≤ i + 1,
      fun H3 z => ⟨ds.length - (i + 1), by omega, rfl, hlt, z⟩, fun x H2 y => ?_⟩
    obtain ⟨B2, s3, dx⟩ := it.yld i _ B' H' x H2 s2.b s2.v (List.getElem?_eq_getElem hlt) y
    obtain ⟨es, ef, Pt, htt, he, hno⟩ := hs i _ rs (List.getElem?_eq_getElem hlt) ti
    obtain ⟨ws, dv, go⟩ := hg x (L2.wipe σ vs) B2 H2 _ es s3.v dx ef
    refine go _ ?_
    have nB3 : B2 Dl = none := s3.hid Dl nB2 (by rw [eD]; simp)
    have eD3 : H2 Dl = some (.lst acc) := s3.h.lst eD
    have stp13 : Stp B1 H1 B2 H2 := s2.trans s3
    have r3 : Rs K cs H0 (L2.wipe σ vs) B2 H2 (clr Γ vs) := (r1.step stp13).wipe
    refine ⟨wipe_setS hv, ?_⟩
    refine htt H0 _ B2 H2 (r3.setL dv) s3.v _ fun b B4 H4 s4 pb => ?_
    have nB4 : B4 Dl = none := s4.hid Dl nB3 (by rw [eD3]; simp)
    have eD4 : H4 Dl = some (.lst acc) := s4.h.lst eD3
    have d4 : DqAll K B4 acc rs := (s3.b.trans s4.b).dpA _ _ dq
    cases b with
    | true =>
      show te _ H4 _
      refine he pb H0 _ B4 H4 ((r3.setL dv).step s4) s4.v _ fun y B5 H5 d s5 dy ty => ?_
      have nB5 : B5 Dl = none := s5.hid Dl nB4 (by rw [eD4]; simp)
      have eD5 : H5 Dl = some (.lst acc) := s5.h.lst eD4
      refine ⟨acc, eD5, szlt (by omega), B5, acc ++ [y], rs ++ [d], ((stp13.trans s4).trans s5).mut hD nB5, nB5, upd_same, (s5.b.dpA _ _ d4).app (.cons dy .nil), ty, by rw [List.length_append]; show acc.length + 1 ≤ i + 1; omega⟩
    | false =>
      show ∃ B' acc rs, _
      exact ⟨B4, acc, rs, stp13.trans s4, nB4, eD4, d4, hno pb, by omega⟩
  · have e : i = ds.length := by omega
    subst e
    rw [List.take_length] at ti
    refine .inl ⟨it.stop _ B' H' s2.b s2.v (Nat.le_refl _), ?_⟩
    have st1 := st0.trans s1
    have stF := st1.trans s2
    refine qn _ B' H' _ stF (setOwn (r1.step s2) (st1.h.none hD) nB2 eD dq fun j es hj h1 h2 => ?_) (hd rs ti)
    obtain ⟨a, vs2, e1, e2, e3, e4, e5⟩ := r1.own h1
    rw [e1] at h2
    have e : a = Dl := V.ref.inj (Option.some.inj (Option.some.inj h2))
    rw [e, hD] at e4
    cases e4
end
variable {P : Program} {w : World} {K : PySem.W.Frag} {mg : Str → Option Value} {base : Heap} {cs : List Addr}
theorem Pl.Sz.mono {n m : Nat} {h : Pl} (k : h.Sz n) (e : n ≤ m) : h.Sz m := ⟨Nat.lt_of_lt_of_le k.1 (pow_le e), Nat.lt_of_lt_of_le k.2.1 (pow_le e), Nat.lt_of_lt_of_le k.2.2 (pow_le e)⟩
/-- all rays of the half-planes hs keep p, q below v -/
def Bnd (hs : List Pl) (p q v : Rat) : Prop := ∀ r, (∀ h ∈ hs, h.has r) → p * r.1 + q * r.2 ≤ v
theorem le_mul_left {a b c : Rat} (h : a ≤ b) (hc : 0 ≤ c) : c * a ≤ c * b := Rat.mul_le_mul_of_nonneg_left h hc
theorem sq_nonneg (a : Rat) : 0 ≤ a * a := by
  rcases Rat.le_total (a := 0) (b := a) with h | h
  · exact Rat.mul_nonneg h h
  · have h2 : 0 ≤ -a := by grind
    have := Rat.mul_nonneg h2 h2
    grind
theorem single_sound {h : Pl} {p q : Rat} (h1 : (h.x : Rat) * q - (h.y : Rat) * p = 0) (h2 : 0 < (h.x : Rat) * p + (h.y : Rat) * q) :
    ((pldot h h : Int) : Rat) ≠ 0 ∧ Bnd [h] p q (((h.x : Rat) * p + (h.y : Rat) * q) / ((pldot h h : Int) : Rat) * (h.z : Rat)) := by
  have hN : ((pldot h h : Int) : Rat) = (h.x : Rat) * h.x + (h.y : Rat) * h.y := by
    unfold pldot
    rw [Rat.intCast_add, Rat.intCast_mul, Rat.intCast_mul]
  rw [hN]
  have sx := sq_nonneg (h.x : Rat)
  have sy := sq_nonneg (h.y : Rat)
  have n0 : (h.x : Rat) * h.x + (h.y : Rat) * h.y ≠ 0 := fun e => by
    have e1 : (h.x : Rat) * h.x = 0 := by grind
    have e2 : (h.y : Rat) * h.y = 0 := by grind
    have e3 : (h.x : Rat) = 0 := by rcases Rat.mul_eq_zero.mp e1 with z | z <;> exact z
    have e4 : (h.y : Rat) = 0 := by rcases Rat.mul_eq_zero.mp e2 with z | z <;> exact z
    rw [e3, e4] at h2
    grind
  refine ⟨n0, fun r hr => ?_⟩
  have hr : (h.x : Rat) * r.1 + (h.y : Rat) * r.2 ≤ h.z := hr h (List.mem_singleton.mpr rfl)
  have hl := Rat.div_mul_cancel (a := (h.x : Rat) * p + (h.y : Rat) * q) n0
  generalize hL : ((h.x : Rat) * p + (h.y : Rat) * q) / ((h.x : Rat) * h.x + (h.y : Rat) * h.y) = L at hl
  have np : 0 < (h.x : Rat) * h.x + (h.y : Rat) * h.y := Rat.lt_of_le_of_ne (by grind) (Ne.symm n0)
  have lp : 0 ≤ L := by
    apply Rat.not_lt.mp
    intro hn
    have : 0 ≤ (-L) * ((h.x : Rat) * h.x + (h.y : Rat) * h.y) := Rat.mul_nonneg (by grind) (by grind)
    grind
  have ep : p = L * h.x := by
    have : (p - L * h.x) * ((h.x : Rat) * h.x + (h.y : Rat) * h.y) = 0 := by grind
    rcases Rat.mul_eq_zero.mp this with z | z
    · grind
    · exact absurd z n0
  have eq : q = L * h.y := by
    have : (q - L * h.y) * ((h.x : Rat) * h.x + (h.y : Rat) * h.y) = 0 := by grind
    rcases Rat.mul_eq_zero.mp this with z | z
    · grind
    · exact absurd z n0
  have := le_mul_left hr lp
  rw [ep, eq]
  grind
def F_single_bound (ds : List D) (R : D → Prop) : Prop := ∃ (h : Pl) (p q : Rat), ds = [dP h, dQ p, dQ q] ∧ h.Sz 300 ∧ Sz 300 p ∧ Sz 300 q ∧ R .none ∧ ∀ v, Sz 4400 v → Bnd [h] p q v → R (dQ v)
theorem len_single_bound : ∀ ds R, F_single_bound ds R → ds.length = 3 := fun _ _ ⟨_, _, _, h, _⟩ => by rw [h]; rfl
theorem pldot_lt {h k : Pl} (hh : h.Sz 300) (hk : k.Sz 300) : (pldot h k).natAbs < 2 ^ 601 := by
  have a : (h.x * k.x).natAbs < 2 ^ 600 := iabs_mul hh.1 hk.1 rfl
  have b : (h.y * k.y).natAbs < 2 ^ 600 := iabs_mul hh.2.1 hk.2.1 rfl
  unfold pldot
  rw [show (2 : Nat) ^ 601 = 2 ^ 600 * 2 from Nat.pow_succ 2 600]
  omega
theorem pldet_lt3 {h k : Pl} (hh : h.Sz 300) (hk : k.Sz 300) : (pldet h k).natAbs < 2 ^ 601 := by
  have a : (h.x * k.y).natAbs < 2 ^ 600 := iabs_mul hh.1 hk.2.1 rfl
  have b : (h.y * k.x).natAbs < 2 ^ 600 := iabs_mul hh.2.1 hk.1 rfl
  unfold pldet
  rw [show (2 : Nat) ^ 601 = 2 ^ 600 * 2 from Nat.pow_succ 2 600]
  omega
abbrev N_single_bound : List Str := ["half_plane", "p", "q", "cross", "along", "ratio"]
theorem sc_single_bound : FnScope N_single_bound ["half_plane", "p", "q"] (defScope (topS 39)) := ⟨rfl, rfl, rfl, by decide +kernel, rfl, by decide +kernel, by decide +kernel⟩
theorem ok_single_bound (T : Tc P w K mg base cs) : Good P w K mg base cs "single_bound" ["half_plane", "p", "q"] 5 F_single_bound := by
  obtain ⟨f, c, fd, D0, m0, t0⟩ := T.fn 30 _ rfl
  obtain ⟨f_multiply, d_multiply, m_multiply, k_multiply, b_multiply, G_multiply⟩ := ok_multiply T
  obtain ⟨f_fraction, d_fraction, m_fraction, k_fraction, b_fraction, ⟨d1_fraction, v1_fraction, b1_fraction⟩, G_fraction⟩ := ok_fraction T
  obtain ⟨f_divide, d_divide, m_divide, k_divide, b_divide, G_divide⟩ := ok_divide T
  obtain ⟨f_product, d_product, m_product, k_product, b_product, G_product⟩ := ok_product T
  obtain ⟨f_sign, d_sign, m_sign, k_sign, b_sign, G_sign⟩ := ok_sign T
  obtain ⟨f_add, d_add, m_add, k_add, b_add, G_add⟩ := ok_add T
  obtain ⟨f_subtract, d_subtract, m_subtract, k_subtract, b_subtract, G_subtract⟩ := ok_subtract T
  obtain ⟨a_ZERO, m_ZERO, q_ZERO⟩ := T.zero
  refine ⟨f, fd, m0, D0.kp, D0.funD.bindsN (fun _ _ _ _ _ _ us hl => match us, hl with | [_, _, _], _ => rfl), D0.ok sc_single_bound (fun vs H Q E h => pm_len len_single_bound h) (fun A outer s H vs Q E hr h => ⟨_, (pss_cons (ps_set (i := 3) sc_single_bound.nd rfl (.inl rfl) (pe_call G_subtract (hr.mono (by decide)) rfl m_subtract k_subtract b_subtract .nil pass0 (pa_cons (pe_call G_multiply (hr.mono (by decide)) rfl m_multiply k_multiply b_multiply .nil pass0 (pa_cons (pe_call G_fraction (hr.mono (by decide)) rfl m_fraction k_fraction b1_fraction v1_fraction pass0 (pa_cons (pe_ix (r := rIxT K) L2.ix_tup (pv 0) pe_int (fun _ _ => rfl)) pa_nil)) (pa_cons (pv 2) pa_nil))) (pa_cons (pe_call G_multiply (hr.mono (by decide)) rfl m_multiply k_multiply b_multiply .nil pass0 (pa_cons (pe_call G_fraction (hr.mono (by decide)) rfl m_fraction k_fraction b1_fraction v1_fraction pass0 (pa_cons (pe_ix (r := rIxT K) L2.ix_tup (pv 0) pe_int (fun _ _ => rfl)) pa_nil)) (pa_cons (pv 1) pa_nil))) pa_nil))))
      (pss_cons (ps_set (i := 4) sc_single_bound.nd rfl (.inl rfl) (pe_call G_add (hr.mono (by decide)) rfl m_add k_add b_add .nil pass0 (pa_cons (pe_call G_multiply (hr.mono (by decide)) rfl m_multiply k_multiply b_multiply .nil pass0 (pa_cons (pe_call G_fraction (hr.mono (by decide)) rfl m_fraction k_fraction b1_fraction v1_fraction pass0 (pa_cons (pe_ix (r := rIxT K) L2.ix_tup (pv 0) pe_int (fun _ _ => rfl)) pa_nil)) (pa_cons (pv 1) pa_nil))) (pa_cons (pe_call G_multiply (hr.mono (by decide)) rfl m_multiply k_multiply b_multiply .nil pass0 (pa_cons (pe_call G_fraction (hr.mono (by decide)) rfl m_fraction k_fraction b1_fraction v1_fraction pass0 (pa_cons (pe_ix (r := rIxT K) L2.ix_tup (pv 0) pe_int (fun _ _ => rfl)) pa_nil)) (pa_cons (pv 2) pa_nil))) pa_nil))))
      (pss_cons (ps_if (PW.pt (pw_or (pt_cmpR (op_neD hr.units) (pv 3) (pe_glob (v := .ref a_ZERO) rfl m_ZERO rfl) (nomark _)) (pw_or1 (pt_cmpR op_le (pe_call G_sign (hr.mono (by decide)) rfl m_sign k_sign b_sign .nil pass0 (pa_cons (pv 4) pa_nil)) pe_int (nomark _))))) (pss_one (ps_ret pe_non)) pss_nil)
      (pss_cons (ps_set (i := 5) sc_single_bound.nd rfl (.inl rfl) (pe_call G_divide (hr.mono (by decide)) rfl m_divide k_divide b_divide .nil pass0 (pa_cons (pv 4) (pa_cons (pe_call G_fraction (hr.mono (by decide)) rfl m_fraction k_fraction b1_fraction v1_fraction pass0 (pa_cons (pe_call G_product (hr.mono (by decide)) rfl m_product k_product b_product .nil pass0 (pa_cons (pv 0) (pa_cons (pv 0) pa_nil))) pa_nil)) pa_nil))))
      (pss_one (ps_ret (pe_call G_multiply (hr.mono (by decide)) rfl m_multiply k_multiply b_multiply .nil pass0 (pa_cons (pv 5) (pa_cons (pe_call G_fraction (hr.mono (by decide)) rfl m_fraction k_fraction b1_fraction v1_fraction pass0 (pa_cons (pe_ix (r := rIxT K) L2.ix_tup (pv 0) pe_int (fun _ _ => rfl)) pa_nil)) pa_nil))))))))), pm_body rfl ?_ h⟩)⟩
  intro ds R hF
  obtain ⟨h, p, q, rfl, hh, hp, hq, h0, hR⟩ := hF
  obtain ⟨hx, hy, hz⟩ := hh
  have hh : h.Sz 300 := ⟨hx, hy, hz⟩
  refine sd_set (xd_call (ad_cons (xd_call (ad_cons (xd_callD (ad_cons (xd_op od_ixT (x_var rfl rfl) (x_int rfl) ⟨_, _, _, rfl, rfl, rfl, rfl⟩) ad_nil) (fun _ => .cons (.int _) .nil) (sp_fraction1 rfl)) (ad_cons (x_var rfl rfl) ad_nil)) (sp_multiply (Sz.mono (Sz.int hx (by decide)) (by decide : 300 ≤ 4400)) (Sz.mono hq (by decide : 300 ≤ 4400)) rfl)) (ad_cons (xd_call (ad_cons (xd_callD (ad_cons (xd_op od_ixT (x_var rfl rfl) (x_int rfl) ⟨_, _, _, rfl, rfl, rfl, rfl⟩) ad_nil) (fun _ => .cons (.int _) .nil) (sp_fraction1 rfl)) (ad_cons (x_var rfl rfl) ad_nil)) (sp_multiply (Sz.mono (Sz.int hy (by decide)) (by decide : 300 ≤ 4400)) (Sz.mono hp (by decide : 300 ≤ 4400)) rfl)) ad_nil)) (sp_subtract (Sz.mono (Sz.mul (Sz.int hx (by decide)) hq) (by decide : 600 ≤ 4400)) (Sz.mono (Sz.mul (Sz.int hy (by decide)) hp) (by decide : 600 ≤ 4400)) rfl)) ?_
  refine sd_set (xd_call (ad_cons (xd_call (ad_cons (xd_callD (ad_cons (xd_op od_ixT (x_var rfl rfl) (x_int rfl) ⟨_, _, _, rfl, rfl, rfl, rfl⟩) ad_nil) (fun _ => .cons (.int _) .nil) (sp_fraction1 rfl)) (ad_cons (x_var rfl rfl) ad_nil)) (sp_multiply (Sz.mono (Sz.int hx (by decide)) (by decide : 300 ≤ 4400)) (Sz.mono hp (by decide : 300 ≤ 4400)) rfl)) (ad_cons (xd_call (ad_cons (xd_callD (ad_cons (xd_op od_ixT (x_var rfl rfl) (x_int rfl) ⟨_, _, _, rfl, rfl, rfl, rfl⟩) ad_nil) (fun _ => .cons (.int _) .nil) (sp_fraction1 rfl)) (ad_cons (x_var rfl rfl) ad_nil)) (sp_multiply (Sz.mono (Sz.int hy (by decide)) (by decide : 300 ≤ 4400)) (Sz.mono hq (by decide : 300 ≤ 4400)) rfl)) ad_nil)) (sp_add (Sz.mono (Sz.mul (Sz.int hx (by decide)) hp) (by decide : 600 ≤ 4400)) (Sz.mono (Sz.mul (Sz.int hy (by decide)) hq) (by decide : 600 ≤ 4400)) rfl)) ?_
  try simp only [entG, setG, List.map_cons, List.map_nil, List.cons_append, List.nil_append, List.length_cons, List.length_nil, Nat.reduceAdd, Nat.reduceSub, List.replicate_succ, List.replicate_zero, List.set_cons_zero, List.set_cons_succ]
  refine sd_when (td_or (td_test (xd_op od_neD (x_var rfl rfl) (x_con q_ZERO rfl) ⟨rfl, rfl, rfl⟩) rfl) (fun _ => (td_test (xd_op od_B0 (xd_call (ad_cons (x_var rfl rfl) ad_nil) (sp_sign rfl)) (x_int rfl) ⟨_, _, rfl, rfl, rfl⟩) rfl))) (fun _ => sd_ret (x_non rfl) h0) (fun hc => ?_)
  rw [eqv_Q] at hc
  simp only [Bool.or_eq_false_iff, Bool.not_eq_false', decide_eq_true_eq, decide_eq_false_iff_not, sg_le, Rat.not_le] at hc
  obtain ⟨n0, hb⟩ := single_sound hc.1 hc.2
  have hs : Sz 1802 (((h.x : Rat) * p + (h.y : Rat) * q) / ((pldot h h : Int) : Rat)) := Sz.div (Sz.add (Sz.mul (Sz.int hx (by decide)) hp) (Sz.mul (Sz.int hy (by decide)) hq)) (Sz.int (pldot_lt hh hh) (by decide))
  refine sd_set (xd_call (ad_cons (x_var rfl rfl) (ad_cons (xd_callD (ad_cons (xd_call (ad_cons (x_var rfl rfl) (ad_cons (x_var rfl rfl) ad_nil)) (sp_product (hh.mono (by decide)) (hh.mono (by decide)) rfl)) ad_nil) (fun _ => .cons (.int _) .nil) (sp_fraction1 rfl)) ad_nil)) (sp_divide (Sz.mono (Sz.add (Sz.mul (Sz.int hx (by decide)) hp) (Sz.mul (Sz.int hy (by decide)) hq)) (by decide)) (Sz.mono (Sz.int (pldot_lt hh hh) (by decide)) (by decide)) n0 rfl)) ?_
  try simp only [entG, setG, List.map_cons, List.map_nil, List.cons_append, List.nil_append, List.length_cons, List.length_nil, Nat.reduceAdd, Nat.reduceSub, List.replicate_succ, List.replicate_zero, List.set_cons_zero, List.set_cons_succ]
  exact sd_ret (xd_call (ad_cons (x_var rfl rfl) (ad_cons (xd_callD (ad_cons (xd_op od_ixT (x_var rfl rfl) (x_int rfl) ⟨_, _, _, rfl, rfl, rfl, rfl⟩) ad_nil) (fun _ => .cons (.int _) .nil) (sp_fraction1 rfl)) ad_nil)) (sp_multiply (Sz.mono hs (by decide : 1802 ≤ 4400)) (Sz.mono (Sz.int hz (by decide)) (by decide : 300 ≤ 4400)) rfl)) (hR _ (Sz.mono (hs.mul (Sz.int hz (by decide))) (by decide)) hb)
theorem pair_sound {h k : Pl} {p q : Rat} (hW : pldet h k ≠ 0) : ((pldet h k : Int) : Rat) ≠ 0 ∧ (p * (k.y : Rat) - q * (k.x : Rat)) / ((pldet h k : Int) : Rat) * (h.x : Rat) + (q * (h.x : Rat) - p * (h.y : Rat)) / ((pldet h k : Int) : Rat) * (k.x : Rat) = p ∧
    (p * (k.y : Rat) - q * (k.x : Rat)) / ((pldet h k : Int) : Rat) * (h.y : Rat) + (q * (h.x : Rat) - p * (h.y : Rat)) / ((pldet h k : Int) : Rat) * (k.y : Rat) = q := by
  have n0 : ((pldet h k : Int) : Rat) ≠ 0 := fun e => hW (Rat.intCast_eq_zero_iff.mp e)
  have hN : ((pldet h k : Int) : Rat) = (h.x : Rat) * k.y - (h.y : Rat) * k.x := by
    unfold pldet
    rw [Rat.intCast_sub, Rat.intCast_mul, Rat.intCast_mul]
  have hu := Rat.div_mul_cancel (a := p * (k.y : Rat) - q * (k.x : Rat)) n0
  have hv := Rat.div_mul_cancel (a := q * (h.x : Rat) - p * (h.y : Rat)) n0
  refine ⟨n0, ?_⟩
  generalize (p * (k.y : Rat) - q * (k.x : Rat)) / ((pldet h k : Int) : Rat) = u at hu ⊢
  generalize (q * (h.x : Rat) - p * (h.y : Rat)) / ((pldet h k : Int) : Rat) = v at hv ⊢
  generalize ((pldet h k : Int) : Rat) = W at hN hu hv n0
  constructor
  · have : (u * h.x + v * k.x - p) * W = 0 := by grind
    rcases Rat.mul_eq_zero.mp this with z | z
    · grind
    · exact absurd z n0
  · have : (u * h.y + v * k.y - q) * W = 0 := by grind
    rcases Rat.mul_eq_zero.mp this with z | z
    · grind
    · exact absurd z n0
def F_pair_weights (ds : List D) (R : D → Prop) : Prop := ∃ (h k : Pl) (p q : Rat), ds = [dP h, dP k, dQ p, dQ q] ∧ h.Sz 300 ∧ k.Sz 300 ∧ Sz 300 p ∧ Sz 300 q ∧ R .none ∧ ∀ u v : Rat, 0 < u → 0 < v → Sz 1802 u → Sz 1802 v → u * (h.x : Rat) + v * (k.x : Rat) = p → u * (h.y : Rat) + v * (k.y : Rat) = q → R (.tuple [dQ u, dQ v])
theorem len_pair_weights : ∀ ds R, F_pair_weights ds R → ds.length = 4 := fun _ _ ⟨_, _, _, _, h, _⟩ => by rw [h]; rfl
abbrev N_pair_weights : List Str := ["first", "second", "p", "q", "whole", "one", "other"]
theorem sc_pair_weights : FnScope N_pair_weights ["first", "second", "p", "q"] (defScope (topS 40)) := ⟨rfl, rfl, rfl, by decide +kernel, rfl, by decide +kernel, by decide +kernel⟩
theorem ok_pair_weights (T : Tc P w K mg base cs) : Good P w K mg base cs "pair_weights" ["first", "second", "p", "q"] 5 F_pair_weights := by
  obtain ⟨f, c, fd, D0, m0, t0⟩ := T.fn 31 _ rfl
  obtain ⟨f_sign, d_sign, m_sign, k_sign, b_sign, G_sign⟩ := ok_sign T
  obtain ⟨f_divide, d_divide, m_divide, k_divide, b_divide, G_divide⟩ := ok_divide T
  obtain ⟨f_fraction, d_fraction, m_fraction, k_fraction, b_fraction, ⟨d1_fraction, v1_fraction, b1_fraction⟩, G_fraction⟩ := ok_fraction T
  obtain ⟨f_subtract, d_subtract, m_subtract, k_subtract, b_subtract, G_subtract⟩ := ok_subtract T
  obtain ⟨f_multiply, d_multiply, m_multiply, k_multiply, b_multiply, G_multiply⟩ := ok_multiply T
  obtain ⟨f_determinant, d_determinant, m_determinant, k_determinant, b_determinant, G_determinant⟩ := ok_determinant T
  refine ⟨f, fd, m0, D0.kp, D0.funD.bindsN (fun _ _ _ _ _ _ us hl => match us, hl with | [_, _, _, _], _ => rfl), D0.ok sc_pair_weights (fun vs H Q E h => pm_len len_pair_weights h) (fun A outer s H vs Q E hr h => ⟨_, (pss_cons (ps_set (i := 4) sc_pair_weights.nd rfl (.inl rfl) (pe_call G_determinant (hr.mono (by decide)) rfl m_determinant k_determinant b_determinant .nil pass0 (pa_cons (pv 0) (pa_cons (pv 1) pa_nil))))
      (pss_cons (ps_if (pt_cmpR op_eq (pv 4) pe_int (nomark _)) (pss_one (ps_ret pe_non)) pss_nil)
      (pss_cons (ps_set (i := 5) sc_pair_weights.nd rfl (.inl rfl) (pe_call G_divide (hr.mono (by decide)) rfl m_divide k_divide b_divide .nil pass0 (pa_cons (pe_call G_subtract (hr.mono (by decide)) rfl m_subtract k_subtract b_subtract .nil pass0 (pa_cons (pe_call G_multiply (hr.mono (by decide)) rfl m_multiply k_multiply b_multiply .nil pass0 (pa_cons (pv 2) (pa_cons (pe_call G_fraction (hr.mono (by decide)) rfl m_fraction k_fraction b1_fraction v1_fraction pass0 (pa_cons (pe_ix (r := rIxT K) L2.ix_tup (pv 1) pe_int (fun _ _ => rfl)) pa_nil)) pa_nil))) (pa_cons (pe_call G_multiply (hr.mono (by decide)) rfl m_multiply k_multiply b_multiply .nil pass0 (pa_cons (pv 3) (pa_cons (pe_call G_fraction (hr.mono (by decide)) rfl m_fraction k_fraction b1_fraction v1_fraction pass0 (pa_cons (pe_ix (r := rIxT K) L2.ix_tup (pv 1) pe_int (fun _ _ => rfl)) pa_nil)) pa_nil))) pa_nil))) (pa_cons (pe_call G_fraction (hr.mono (by decide)) rfl m_fraction k_fraction b1_fraction v1_fraction pass0 (pa_cons (pv 4) pa_nil)) pa_nil))))
      (pss_cons (ps_set (i := 6) sc_pair_weights.nd rfl (.inl rfl) (pe_call G_divide (hr.mono (by decide)) rfl m_divide k_divide b_divide .nil pass0 (pa_cons (pe_call G_subtract (hr.mono (by decide)) rfl m_subtract k_subtract b_subtract .nil pass0 (pa_cons (pe_call G_multiply (hr.mono (by decide)) rfl m_multiply k_multiply b_multiply .nil pass0 (pa_cons (pv 3) (pa_cons (pe_call G_fraction (hr.mono (by decide)) rfl m_fraction k_fraction b1_fraction v1_fraction pass0 (pa_cons (pe_ix (r := rIxT K) L2.ix_tup (pv 0) pe_int (fun _ _ => rfl)) pa_nil)) pa_nil))) (pa_cons (pe_call G_multiply (hr.mono (by decide)) rfl m_multiply k_multiply b_multiply .nil pass0 (pa_cons (pv 2) (pa_cons (pe_call G_fraction (hr.mono (by decide)) rfl m_fraction k_fraction b1_fraction v1_fraction pass0 (pa_cons (pe_ix (r := rIxT K) L2.ix_tup (pv 0) pe_int (fun _ _ => rfl)) pa_nil)) pa_nil))) pa_nil))) (pa_cons (pe_call G_fraction (hr.mono (by decide)) rfl m_fraction k_fraction b1_fraction v1_fraction pass0 (pa_cons (pv 4) pa_nil)) pa_nil))))
      (pss_cons (ps_if (PW.pt (pw_or (pt_cmpR op_le (pe_call G_sign (hr.mono (by decide)) rfl m_sign k_sign b_sign .nil pass0 (pa_cons (pv 5) pa_nil)) pe_int (nomark _)) (pw_or1 (pt_cmpR op_le (pe_call G_sign (hr.mono (by decide)) rfl m_sign k_sign b_sign .nil pass0 (pa_cons (pv 6) pa_nil)) pe_int (nomark _))))) (pss_one (ps_ret pe_non)) pss_nil)
      (pss_one (ps_ret (pe_tup (pa_cons (pv 5) (pa_cons (pv 6) pa_nil)))))))))), pm_body rfl ?_ h⟩)⟩
  intro ds R hF
  obtain ⟨h, k, p, q, rfl, hh, hk, hp, hq, h0, hR⟩ := hF
  refine sd_set (xd_call (ad_cons (x_var rfl rfl) (ad_cons (x_var rfl rfl) ad_nil)) (sp_determinant (hh.mono (by decide)) (hk.mono (by decide)) rfl)) ?_
  try simp only [entG, setG, List.map_cons, List.map_nil, List.cons_append, List.nil_append, List.length_cons, List.length_nil, Nat.reduceAdd, Nat.reduceSub, List.replicate_succ, List.replicate_zero, List.set_cons_zero, List.set_cons_succ]
  refine sd_when (td_test (xd_op od_eqI (x_var rfl rfl) (x_int rfl) ⟨_, _, rfl, rfl, rfl⟩) rfl) (fun _ => sd_ret (x_non rfl) h0) (fun hc => ?_)
  obtain ⟨n0, e1, e2⟩ := pair_sound (p := p) (q := q) (of_decide_eq_false hc)
  have su : Sz 1802 ((p * (k.y : Rat) - q * (k.x : Rat)) / ((pldet h k : Int) : Rat)) := Sz.div (Sz.sub (Sz.mul hp (Sz.int hk.2.1 (by decide))) (Sz.mul hq (Sz.int hk.1 (by decide)))) (Sz.int (pldet_lt3 hh hk) (by decide))
  have sv : Sz 1802 ((q * (h.x : Rat) - p * (h.y : Rat)) / ((pldet h k : Int) : Rat)) := Sz.div (Sz.sub (Sz.mul hq (Sz.int hh.1 (by decide))) (Sz.mul hp (Sz.int hh.2.1 (by decide)))) (Sz.int (pldet_lt3 hh hk) (by decide))
  refine sd_set (xd_call (ad_cons (xd_call (ad_cons (xd_call (ad_cons (x_var rfl rfl) (ad_cons (xd_callD (ad_cons (xd_op od_ixT (x_var rfl rfl) (x_int rfl) ⟨_, _, _, rfl, rfl, rfl, rfl⟩) ad_nil) (fun _ => .cons (.int _) .nil) (sp_fraction1 rfl)) ad_nil)) (sp_multiply (Sz.mono hp (by decide : 300 ≤ 4400)) (Sz.mono (Sz.int hk.2.1 (by decide)) (by decide : 300 ≤ 4400)) rfl)) (ad_cons (xd_call (ad_cons (x_var rfl rfl) (ad_cons (xd_callD (ad_cons (xd_op od_ixT (x_var rfl rfl) (x_int rfl) ⟨_, _, _, rfl, rfl, rfl, rfl⟩) ad_nil) (fun _ => .cons (.int _) .nil) (sp_fraction1 rfl)) ad_nil)) (sp_multiply (Sz.mono hq (by decide : 300 ≤ 4400)) (Sz.mono (Sz.int hk.1 (by decide)) (by decide : 300 ≤ 4400)) rfl)) ad_nil)) (sp_subtract (Sz.mono (Sz.mul hp (Sz.int hk.2.1 (by decide))) (by decide : 600 ≤ 4400)) (Sz.mono (Sz.mul hq (Sz.int hk.1 (by decide))) (by decide : 600 ≤ 4400)) rfl)) (ad_cons (xd_callD (ad_cons (x_var rfl rfl) ad_nil) (fun _ => .cons (.int _) .nil) (sp_fraction1 rfl)) ad_nil)) (sp_divide (Sz.mono (Sz.sub (Sz.mul hp (Sz.int hk.2.1 (by decide))) (Sz.mul hq (Sz.int hk.1 (by decide)))) (by decide)) (Sz.mono (Sz.int (pldet_lt3 hh hk) (by decide)) (by decide)) n0 rfl)) ?_
  try simp only [entG, setG, List.map_cons, List.map_nil, List.cons_append, List.nil_append, List.length_cons, List.length_nil, Nat.reduceAdd, Nat.reduceSub, List.replicate_succ, List.replicate_zero, List.set_cons_zero, List.set_cons_succ]
  refine sd_set (xd_call (ad_cons (xd_call (ad_cons (xd_call (ad_cons (x_var rfl rfl) (ad_cons (xd_callD (ad_cons (xd_op od_ixT (x_var rfl rfl) (x_int rfl) ⟨_, _, _, rfl, rfl, rfl, rfl⟩) ad_nil) (fun _ => .cons (.int _) .nil) (sp_fraction1 rfl)) ad_nil)) (sp_multiply (Sz.mono hq (by decide : 300 ≤ 4400)) (Sz.mono (Sz.int hh.1 (by decide)) (by decide : 300 ≤ 4400)) rfl)) (ad_cons (xd_call (ad_cons (x_var rfl rfl) (ad_cons (xd_callD (ad_cons (xd_op od_ixT (x_var rfl rfl) (x_int rfl) ⟨_, _, _, rfl, rfl, rfl, rfl⟩) ad_nil) (fun _ => .cons (.int _) .nil) (sp_fraction1 rfl)) ad_nil)) (sp_multiply (Sz.mono hp (by decide : 300 ≤ 4400)) (Sz.mono (Sz.int hh.2.1 (by decide)) (by decide : 300 ≤ 4400)) rfl)) ad_nil)) (sp_subtract (Sz.mono (Sz.mul hq (Sz.int hh.1 (by decide))) (by decide : 600 ≤ 4400)) (Sz.mono (Sz.mul hp (Sz.int hh.2.1 (by decide))) (by decide : 600 ≤ 4400)) rfl)) (ad_cons (xd_callD (ad_cons (x_var rfl rfl) ad_nil) (fun _ => .cons (.int _) .nil) (sp_fraction1 rfl)) ad_nil)) (sp_divide (Sz.mono (Sz.sub (Sz.mul hq (Sz.int hh.1 (by decide))) (Sz.mul hp (Sz.int hh.2.1 (by decide)))) (by decide)) (Sz.mono (Sz.int (pldet_lt3 hh hk) (by decide)) (by decide)) n0 rfl)) ?_
  try simp only [entG, setG, List.map_cons, List.map_nil, List.cons_append, List.nil_append, List.length_cons, List.length_nil, Nat.reduceAdd, Nat.reduceSub, List.replicate_succ, List.replicate_zero, List.set_cons_zero, List.set_cons_succ]
  refine sd_when (td_or (td_test (xd_op od_B0 (xd_call (ad_cons (x_var rfl rfl) ad_nil) (sp_sign rfl)) (x_int rfl) ⟨_, _, rfl, rfl, rfl⟩) rfl) (fun _ => (td_test (xd_op od_B0 (xd_call (ad_cons (x_var rfl rfl) ad_nil) (sp_sign rfl)) (x_int rfl) ⟨_, _, rfl, rfl, rfl⟩) rfl))) (fun _ => sd_ret (x_non rfl) h0) (fun hc => ?_)
  simp only [Bool.or_eq_false_iff, decide_eq_false_iff_not, sg_le, Rat.not_le] at hc
  exact sd_ret (xd_tup (ad_cons (x_var rfl rfl) (ad_cons (x_var rfl rfl) ad_nil)) (Nat.le_of_ble_eq_true rfl) rfl) (hR _ _ hc.1 hc.2 su sv e1 e2)
theorem pair_bnd {h k : Pl} {p q u v : Rat} (hu : 0 < u) (hv : 0 < v) (e1 : u * (h.x : Rat) + v * (k.x : Rat) = p) (e2 : u * (h.y : Rat) + v * (k.y : Rat) = q) : Bnd [h, k] p q (u * (h.z : Rat) + v * (k.z : Rat)) := fun r hr => by
  have a : (h.x : Rat) * r.1 + (h.y : Rat) * r.2 ≤ h.z := hr h (by simp)
  have b : (k.x : Rat) * r.1 + (k.y : Rat) * r.2 ≤ k.z := hr k (by simp)
  have a1 := le_mul_left a (Rat.le_of_lt hu)
  have b1 := le_mul_left b (Rat.le_of_lt hv)
  rw [← e1, ← e2]
  grind
def F_pair_bound (ds : List D) (R : D → Prop) : Prop := ∃ (h k : Pl) (p q : Rat), ds = [dP h, dP k, dQ p, dQ q] ∧ h.Sz 300 ∧ k.Sz 300 ∧ Sz 300 p ∧ Sz 300 q ∧ R .none ∧ ∀ v, Sz 4400 v → Bnd [h, k] p q v → R (dQ v)
theorem len_pair_bound : ∀ ds R, F_pair_bound ds R → ds.length = 4 := fun _ _ ⟨_, _, _, _, h, _⟩ => by rw [h]; rfl
abbrev N_pair_bound : List Str := ["first", "second", "p", "q", "weights"]
theorem sc_pair_bound : FnScope N_pair_bound ["first", "second", "p", "q"] (defScope (topS 41)) := ⟨rfl, rfl, rfl, by decide +kernel, rfl, by decide +kernel, by decide +kernel⟩
theorem ok_pair_bound (T : Tc P w K mg base cs) : Good P w K mg base cs "pair_bound" ["first", "second", "p", "q"] 6 F_pair_bound := by
  obtain ⟨f, c, fd, D0, m0, t0⟩ := T.fn 32 _ rfl
  obtain ⟨f_add, d_add, m_add, k_add, b_add, G_add⟩ := ok_add T
  obtain ⟨f_multiply, d_multiply, m_multiply, k_multiply, b_multiply, G_multiply⟩ := ok_multiply T
  obtain ⟨f_fraction, d_fraction, m_fraction, k_fraction, b_fraction, ⟨d1_fraction, v1_fraction, b1_fraction⟩, G_fraction⟩ := ok_fraction T
  obtain ⟨f_pair_weights, d_pair_weights, m_pair_weights, k_pair_weights, b_pair_weights, G_pair_weights⟩ := ok_pair_weights T
  refine ⟨f, fd, m0, D0.kp, D0.funD.bindsN (fun _ _ _ _ _ _ us hl => match us, hl with | [_, _, _, _], _ => rfl), D0.ok sc_pair_bound (fun vs H Q E h => pm_len len_pair_bound h) (fun A outer s H vs Q E hr h => ⟨_, (pss_cons (ps_set (i := 4) sc_pair_bound.nd rfl (.inl rfl) (pe_call G_pair_weights (hr.mono (by decide)) rfl m_pair_weights k_pair_weights b_pair_weights .nil pass0 (pa_cons (pv 0) (pa_cons (pv 1) (pa_cons (pv 2) (pa_cons (pv 3) pa_nil))))))
      (pss_cons (ps_if (pt_cmp (pc_isN (pv 4))) (pss_one (ps_ret pe_non)) pss_nil)
      (pss_one (ps_ret (pe_call G_add (hr.mono (by decide)) rfl m_add k_add b_add .nil pass0 (pa_cons (pe_call G_multiply (hr.mono (by decide)) rfl m_multiply k_multiply b_multiply .nil pass0 (pa_cons (pe_ix (r := rIxT K) L2.ix_tup (pv 4) pe_int (fun _ _ => rfl)) (pa_cons (pe_call G_fraction (hr.mono (by decide)) rfl m_fraction k_fraction b1_fraction v1_fraction pass0 (pa_cons (pe_ix (r := rIxT K) L2.ix_tup (pv 0) pe_int (fun _ _ => rfl)) pa_nil)) pa_nil))) (pa_cons (pe_call G_multiply (hr.mono (by decide)) rfl m_multiply k_multiply b_multiply .nil pass0 (pa_cons (pe_ix (r := rIxT K) L2.ix_tup (pv 4) pe_int (fun _ _ => rfl)) (pa_cons (pe_call G_fraction (hr.mono (by decide)) rfl m_fraction k_fraction b1_fraction v1_fraction pass0 (pa_cons (pe_ix (r := rIxT K) L2.ix_tup (pv 1) pe_int (fun _ _ => rfl)) pa_nil)) pa_nil))) pa_nil))))))), pm_body rfl ?_ h⟩)⟩
  intro ds R hF
  obtain ⟨h, k, p, q, rfl, hh, hk, hp, hq, h0, hR⟩ := hF
  refine s_set (Ra := fun d => d = .none ∨ ∃ u v : Rat, d = .tuple [dQ u, dQ v] ∧ 0 < u ∧ 0 < v ∧ Sz 1802 u ∧ Sz 1802 v ∧ u * (h.x : Rat) + v * (k.x : Rat) = p ∧ u * (h.y : Rat) + v * (k.y : Rat) = q) (xd_call (ad_cons (x_var rfl rfl) (ad_cons (x_var rfl rfl) (ad_cons (x_var rfl rfl) (ad_cons (x_var rfl rfl) ad_nil)))) ⟨h, k, p, q, rfl, hh, hk, hp, hq, .inl rfl, fun u v a b c d e f => .inr ⟨u, v, rfl, a, b, c, d, e, f⟩⟩) fun d hd => ?_
  rcases hd with rfl | ⟨u, v, rfl, hu, hv, su, sv, e1, e2⟩
  · refine sd_when (td_B (xd_isN (x_var rfl rfl)) rfl) (fun _ => sd_ret (x_non rfl) h0) (fun hc => by cases hc)
  · try simp only [entG, setG, List.map_cons, List.map_nil, List.cons_append, List.nil_append, List.length_cons, List.length_nil, Nat.reduceAdd, Nat.reduceSub, List.replicate_succ, List.replicate_zero, List.set_cons_zero, List.set_cons_succ]
    refine sd_when (td_B (xd_isN (x_var rfl rfl)) rfl) (fun hc => by cases hc) (fun _ => ?_)
    exact sd_ret (xd_call (ad_cons (xd_call (ad_cons (xd_op od_ixT (x_var rfl rfl) (x_int rfl) ⟨_, _, _, rfl, rfl, rfl, rfl⟩) (ad_cons (xd_callD (ad_cons (xd_op od_ixT (x_var rfl rfl) (x_int rfl) ⟨_, _, _, rfl, rfl, rfl, rfl⟩) ad_nil) (fun _ => .cons (.int _) .nil) (sp_fraction1 rfl)) ad_nil)) (sp_multiply (Sz.mono su (by decide : 1802 ≤ 4400)) (Sz.mono (Sz.int hh.2.2 (by decide)) (by decide : 300 ≤ 4400)) rfl)) (ad_cons (xd_call (ad_cons (xd_op od_ixT (x_var rfl rfl) (x_int rfl) ⟨_, _, _, rfl, rfl, rfl, rfl⟩) (ad_cons (xd_callD (ad_cons (xd_op od_ixT (x_var rfl rfl) (x_int rfl) ⟨_, _, _, rfl, rfl, rfl, rfl⟩) ad_nil) (fun _ => .cons (.int _) .nil) (sp_fraction1 rfl)) ad_nil)) (sp_multiply (Sz.mono sv (by decide : 1802 ≤ 4400)) (Sz.mono (Sz.int hk.2.2 (by decide)) (by decide : 300 ≤ 4400)) rfl)) ad_nil)) (sp_add (Sz.mono (Sz.mul su (Sz.int hh.2.2 (by decide))) (by decide : 2102 ≤ 4400)) (Sz.mono (Sz.mul sv (Sz.int hk.2.2 (by decide))) (by decide : 2102 ≤ 4400)) rfl)) (hR _ (Sz.mono (Sz.add (Sz.mul su (Sz.int hh.2.2 (by decide))) (Sz.mul sv (Sz.int hk.2.2 (by decide)))) (by decide)) (pair_bnd hu hv e1 e2))
/-- None or a bound -/
def Bo (hs : List Pl) (p q : Rat) (d : D) : Prop := d = .none ∨ ∃ v, d = dQ v ∧ Sz 4400 v ∧ Bnd hs p q v
theorem Bnd.mono {hs ks : List Pl} {p q v : Rat} (h : Bnd ks p q v) (s : ∀ k ∈ ks, k ∈ hs) : Bnd hs p q v := fun r hr => h r fun k hk => hr k (s k hk)
def F_supremum (ds : List D) (R : D → Prop) : Prop := ∃ (hs : List Pl) (p q : Rat), ds = [dPs hs, dQ p, dQ q] ∧ hs.length ≤ 20 ∧ (∀ h ∈ hs, h.Sz 300) ∧ Sz 300 p ∧ Sz 300 q ∧ R .none ∧ ∀ v, Sz 4400 v → Bnd hs p q v → R (dQ v)
theorem len_supremum : ∀ ds R, F_supremum ds R → ds.length = 3 := fun _ _ ⟨_, _, _, h, _⟩ => by rw [h]; rfl
theorem Bo.os {hs : List Pl} {p q : Rat} : ∀ {l : List D}, (∀ d ∈ l, Bo hs p q d) → ∃ os : List (Option Rat), l = os.map dO ∧ ∀ v, some v ∈ os → Sz 4400 v ∧ Bnd hs p q v
  | [], _ => ⟨[], rfl, fun v h => by cases h⟩
  | d :: l, h => by
    obtain ⟨os, e, ho⟩ := Bo.os (l := l) fun x hx => h x (List.mem_cons_of_mem _ hx)
    rcases h d List.mem_cons_self with rfl | ⟨v, rfl, s, b⟩
    · refine ⟨none :: os, by rw [e]; rfl, fun v hv => ?_⟩
      rcases List.mem_cons.mp hv with z | z
      · cases z
      · exact ho v z
    · refine ⟨some v :: os, by rw [e]; rfl, fun v' hv => ?_⟩
      rcases List.mem_cons.mp hv with z | z
      · cases z
        exact ⟨s, b⟩
      · exact ho v' z
theorem cutD_mem {ds : List D} {lo hi : Option Int} {d : D} (h : d ∈ cutD ds lo hi) : d ∈ ds := List.mem_of_mem_drop (List.mem_of_mem_take h)
theorem cutD_len (ds : List D) (lo hi : Option Int) : (cutD ds lo hi).length ≤ ds.length := by
  unfold cutD
  rw [List.length_take, List.length_drop]
  omega
abbrev N_supremum : List Str := ["half_planes", "p", "q", "one", "found", "place", "other"]
theorem sc_supremum : FnScope N_supremum ["half_planes", "p", "q"] (defScope (topS 42)) := ⟨rfl, rfl, rfl, by decide +kernel, rfl, by decide +kernel, by decide +kernel⟩
theorem ok_supremum (T : Tc P w K mg base cs) : Good P w K mg base cs "supremum" ["half_planes", "p", "q"] 8 F_supremum := by
  obtain ⟨f, c, fd, D0, m0, t0⟩ := T.fn 33 _ rfl
  obtain ⟨f_least_of, d_least_of, m_least_of, k_least_of, b_least_of, G_least_of⟩ := ok_least_of T
  obtain ⟨f_pair_bound, d_pair_bound, m_pair_bound, k_pair_bound, b_pair_bound, G_pair_bound⟩ := ok_pair_bound T
  obtain ⟨f_single_bound, d_single_bound, m_single_bound, k_single_bound, b_single_bound, G_single_bound⟩ := ok_single_bound T
  have z_enumerate := T.fr "enumerate" (by decide)
  obtain ⟨a_ZERO, m_ZERO, q_ZERO⟩ := T.zero
  refine ⟨f, fd, m0, D0.kp, D0.funD.bindsN (fun _ _ _ _ _ _ us hl => match us, hl with | [_, _, _], _ => rfl), D0.ok sc_supremum (fun vs H Q E h => pm_len len_supremum h) (fun A outer s H vs Q E hr h => ⟨_, (pss_cons (ps_if (PW.pt (pw_and (pt_cmpR (op_eqD hr.units) (pv 1) (pe_glob (v := .ref a_ZERO) rfl m_ZERO rfl) (nomark _)) (pw_and1 (pt_cmpR (op_eqD hr.units) (pv 2) (pe_glob (v := .ref a_ZERO) rfl m_ZERO rfl) (nomark _))))) (pss_one (ps_ret (pe_glob (v := .ref a_ZERO) rfl m_ZERO rfl))) pss_nil)
      (pss_cons (ps_setLc (i := 4) (own := [("one", 3)]) rfl sc_supremum.nd rfl rfl (sw_true rfl rfl rfl rfl) (pi_list (pv 0)) (blkOk_by (N := N_supremum) (sc := defScope (topS 42)) (by decide +kernel)) (fun s H C cl fp => (pg_name (i := 3) sc_supremum.nd rfl (.inl rfl) (.inr rfl))) (fun s H C cl fp => pts_nil) (fun s H C cl fp => (pe_call G_single_bound (hr.mono (by decide)) rfl m_single_bound k_single_bound b_single_bound .nil pass0 (pa_cons (pv 3) (pa_cons (pv 1) (pa_cons (pv 2) pa_nil))))))
      (pss_cons (ps_for PassesOwn.never rfl (pi_enum rfl z_enumerate (pa_cons (pv 0) pa_nil)) (pg_tup rfl (pgs_cons (pg_name (i := 5) sc_supremum.nd rfl (.inl rfl)) (pgs_cons (pg_name (i := 3) sc_supremum.nd rfl (.inl rfl)) pgs_nil))) (pss_one (ps_for PassesOwn.never rfl (pi_list (pe_slice sl_list (pv 0) (po_some (pe_op op_add (pv 5) pe_int)) po_none)) (pg_name (i := 6) sc_supremum.nd rfl (.inl rfl)) (pss_one (ps_expr (pe_bm PySem.F.plainAttrs_list PySem.F.slot_list_append PySem.F.type_list_append mt_append (pv 4) (pa_cons (pe_call G_pair_bound (hr.mono (by decide)) rfl m_pair_bound k_pair_bound b_pair_bound .nil pass0 (pa_cons (pv 3) (pa_cons (pv 6) (pa_cons (pv 1) (pa_cons (pv 2) pa_nil))))) pa_nil)))))))
      (pss_one (ps_ret (pe_call G_least_of (hr.mono (by decide)) rfl m_least_of k_least_of b_least_of .nil pass0 (pa_cons (pv 4) pa_nil))))))), pm_body rfl ?_ h⟩)⟩
  intro ds R hF
  obtain ⟨hs, p, q, rfl, hn, hh, hp, hq, h0, hR⟩ := hF
  refine sd_when (td_and (td_test (xd_op od_eqD (x_var rfl rfl) (x_con q_ZERO rfl) ⟨rfl, rfl, rfl⟩) rfl) (fun _ => (td_test (xd_op od_eqD (x_var rfl rfl) (x_con q_ZERO rfl) ⟨rfl, rfl, rfl⟩) rfl))) (fun hc => ?_) (fun _ => ?_)
  · rw [eqv_Q, eqv_Q] at hc
    simp only [Bool.and_eq_true, decide_eq_true_eq] at hc
    refine sd_ret (x_con q_ZERO rfl) (hR 0 (Sz.zero (by decide)) fun r _ => ?_)
    rw [hc.1, hc.2]
    grind
  refine s_seq (s_lcOwn (ixd_list (ds := hs.map dP) (x_var rfl rfl)) tg_name (by decide) fun ds e => ?_)
  subst e
  refine ⟨by rw [List.length_map]; omega, fun pre acc => acc.length ≤ pre.length ∧ ∀ d ∈ acc, Bo hs p q d, ⟨Nat.le_refl _, fun d h => by cases h⟩, fun i d acc hd ha => ?_, fun rs hrs => ?_⟩
  · obtain ⟨h, eh, rfl⟩ := gmapE hd
    have mh := List.mem_of_getElem? eh
    have hln : ((hs.map dP).take (i + 1)).length = ((hs.map dP).take i).length + 1 := by rw [take_snoc hd, List.length_append]; rfl
    refine ⟨_, rfl, fun b => b = true, t_yes rfl, fun _ => (xd_call (R := Bo hs p q) (ad_cons (x_var (d := dP h) rfl rfl) (ad_cons (x_var (d := dQ p) rfl rfl) (ad_cons (x_var (d := dQ q) rfl rfl) ad_nil))) ⟨h, p, q, rfl, hh h mh, hp, hq, .inl rfl, fun v sv bv => .inr ⟨v, rfl, sv, bv.mono fun k hk => by rw [List.mem_singleton.mp hk]; exact mh⟩⟩).mono fun r hr => ⟨?_, fun x hx => ?_⟩, fun hb => by cases hb⟩
    · rw [List.length_append, hln]
      have := ha.1
      simp only [List.length_cons, List.length_nil]
      omega
    · rcases List.mem_append.mp hx with z | z
      · exact ha.2 x z
      · rw [List.mem_singleton.mp z]
        exact hr
  have hr1 : rs.length ≤ hs.length := by have h1 : rs.length ≤ (hs.map dP).length := hrs.1; rw [List.length_map] at h1; exact h1
  have hr2 : ∀ d ∈ rs, Bo hs p q d := hrs.2
  try simp only [entG, setG, List.map_cons, List.map_nil, List.cons_append, List.nil_append, List.length_cons, List.length_nil, Nat.reduceAdd, Nat.reduceSub, List.replicate_succ, List.replicate_zero, List.set_cons_zero, List.set_cons_succ]
  refine s_seq (sd_for (ixd_enum (ad_cons (x_var (d := dPs hs) rfl rfl) ad_nil)) (tg_tup (js := [5, 3]) rfl) (fun i Γ => ∃ (l : List D) (z1 z2 z3 : Sl), Γ = [.val (dPs hs), .val (dQ p), .val (dQ q), z1, .own l, z2, z3] ∧ i ≤ hs.length ∧ l.length ≤ 20 + 20 * i ∧ ∀ d ∈ l, Bo hs p q d) ⟨rs, _, _, _, rfl, Nat.zero_le _, by omega, hr2⟩ ?_ ?_)
  · rintro i d Γ' hd ⟨l, z1, z2, z3, rfl, hi, hl, hb⟩
    obtain ⟨d1, hd1, rfl⟩ := enumD_get hd
    obtain ⟨h, eh, rfl⟩ := gmapE hd1
    have mh := List.mem_of_getElem? eh
    have hi2 : i < hs.length := (List.getElem?_eq_some_iff.mp eh).1
    refine ⟨_, rfl, ?_⟩
    try simp only [entG, setG, List.map_cons, List.map_nil, List.cons_append, List.nil_append, List.length_cons, List.length_nil, Nat.reduceAdd, Nat.reduceSub, List.replicate_succ, List.replicate_zero, List.set_cons_zero, List.set_cons_succ]
    refine s_for (Rl := fun es => es.length ≤ 20 ∧ ∀ d ∈ es, ∃ k ∈ hs, d = dP k) (ix_list (Ra := fun d => ∃ es, d = .list es ∧ es.length ≤ 20 ∧ ∀ d ∈ es, ∃ k ∈ hs, d = dP k) (x_slice (Ra := Eq (dPs hs)) (x_var rfl rfl) (o_some (P := fun _ => True) (xd_op od_I0 (x_var rfl rfl) (x_int rfl) ⟨_, _, rfl, rfl, rfl⟩) fun d e => ⟨_, e.symm, trivial⟩) (o_none (P := fun _ => True) trivial) fun d lo hi e _ _ => ⟨_, e.symm, _, rfl, ?_, fun x hx => ?_⟩) fun d h => h) tg_name fun es hes => ⟨fun m Γ => ∃ (l : List D) (z3 : Sl), Γ = [.val (dPs hs), .val (dQ p), .val (dQ q), .val (dP h), .own l, .val (.int (i : Int)), z3] ∧ m ≤ 20 ∧ l.length ≤ 20 + 20 * i + m ∧ ∀ d ∈ l, Bo hs p q d, ⟨l, z3, rfl, Nat.zero_le _, hl, hb⟩, ?_, ?_⟩
    · have := cutD_len (hs.map dP) lo hi
      rw [List.length_map] at this
      omega
    · obtain ⟨k, hk, e2⟩ := memMap (cutD_mem hx)
      exact ⟨k, hk, e2⟩
    · rintro m d Γ' hd ⟨l, z3, rfl, hm, hl, hb⟩
      obtain ⟨k, mk, rfl⟩ := hes.2 d (List.mem_of_getElem? hd)
      have hm2 : m < es.length := (List.getElem?_eq_some_iff.mp hd).1
      refine ⟨_, rfl, ?_⟩
      try simp only [entG, setG, List.map_cons, List.map_nil, List.cons_append, List.nil_append, List.length_cons, List.length_nil, Nat.reduceAdd, Nat.reduceSub, List.replicate_succ, List.replicate_zero, List.set_cons_zero, List.set_cons_succ]
      refine s_app (Ra := Bo hs p q) (i := 4) rfl (by omega) (xd_call (ad_cons (x_var (d := dP h) rfl rfl) (ad_cons (x_var (d := dP k) rfl rfl) (ad_cons (x_var (d := dQ p) rfl rfl) (ad_cons (x_var (d := dQ q) rfl rfl) ad_nil)))) ⟨h, k, p, q, rfl, hh h mh, hh k mk, hp, hq, .inl rfl, fun v sv bv => .inr ⟨v, rfl, sv, bv.mono fun x hx => ?_⟩⟩) fun d hd => ⟨l ++ [d], _, rfl, by omega, by rw [List.length_append]; simp only [List.length_cons, List.length_nil]; omega, fun x hx => ?_⟩
      · simp only [List.mem_cons, List.not_mem_nil, or_false] at hx
        rcases hx with rfl | rfl
        · exact mh
        · exact mk
      · rcases List.mem_append.mp hx with z | z
        · exact hb x z
        · rw [List.mem_singleton.mp z]
          exact hd
    · rintro Γ' ⟨l, z3, rfl, hm, hl, hb⟩
      exact ⟨l, _, _, _, rfl, by omega, by omega, hb⟩
  rintro Γ' ⟨l, z1, z2, z3, rfl, _, hl, hb⟩
  obtain ⟨os, rfl, ho⟩ := Bo.os hb
  refine s_show (i := 4) rfl (s_ret (xd_call (ad_cons (x_var (d := .list (os.map dO)) rfl rfl) ad_nil) ⟨os, rfl, fun v hv => (ho v hv).1, h0, fun v hv => hR v (ho v hv).1 (ho v hv).2⟩))
theorem cert_sum {hs : List Pl} {r : Rat × Rat} (hr : ∀ h ∈ hs, h.has r) : ∀ ps : List (Nat × Int), (∀ p ∈ ps, p.1 < hs.length ∧ wOk p.2) → (((ps.map fun p => p.2 * (hs.getD p.1 pl0).x).sum : Int) : Rat) * r.1 + (((ps.map fun p => p.2 * (hs.getD p.1 pl0).y).sum : Int) : Rat) * r.2 ≤ ((numOf hs ps : Int) : Rat)
  | [], _ => by
    show ((0 : Int) : Rat) * r.1 + ((0 : Int) : Rat) * r.2 ≤ ((0 : Int) : Rat)
    rw [Rat.intCast_zero]
    grind
  | p :: ps, h => by
    have ih := cert_sum hr ps fun x hx => h x (List.mem_cons_of_mem _ hx)
    have hp := h p List.mem_cons_self
    have hk := hr (hs.getD p.1 pl0) (by rw [getD_of (List.getElem?_eq_getElem hp.1)]; exact List.getElem_mem hp.1)
    have hk : ((hs.getD p.1 pl0).x : Rat) * r.1 + ((hs.getD p.1 pl0).y : Rat) * r.2 ≤ ((hs.getD p.1 pl0).z : Rat) := hk
    have hw : (0 : Rat) ≤ (p.2 : Rat) := Rat.intCast_nonneg.mpr (Int.le_of_lt hp.2.1)
    have h1 := le_mul_left hk hw
    unfold numOf at ih ⊢
    simp only [List.map_cons, List.sum_cons, Rat.intCast_add, Rat.intCast_mul] at ih ⊢
    grind
theorem Cert.empty {hs : List Pl} (h : Cert hs) (r : Rat × Rat) : ¬ ∀ h ∈ hs, h.has r := fun hr => by
  obtain ⟨ps, hb, hn⟩ := h
  have h1 := cert_sum hr ps hb.at_
  rw [hb.x, hb.y] at h1
  have h2 : ((numOf hs ps : Int) : Rat) < 0 := Rat.intCast_neg_iff.mpr hn
  rw [Rat.intCast_zero] at h1
  grind
def F_is_implied (ds : List D) (R : D → Prop) : Prop := ∃ (hs : List Pl) (h : Pl), ds = [dPs hs, dP h] ∧ hs.length ≤ 20 ∧ (∀ h ∈ hs, h.Sz 300) ∧ h.Sz 300 ∧ ∀ b : Bool, (b = true → ∀ r, (∀ k ∈ hs, k.has r) → h.has r) → R (.bool b)
theorem len_is_implied : ∀ ds R, F_is_implied ds R → ds.length = 2 := fun _ _ ⟨_, _, h, _⟩ => by rw [h]; rfl
abbrev N_is_implied : List Str := ["half_planes", "half_plane", "bound"]
theorem sc_is_implied : FnScope N_is_implied ["half_planes", "half_plane"] (defScope (topS 45)) := ⟨rfl, rfl, rfl, by decide +kernel, rfl, by decide +kernel, by decide +kernel⟩
theorem ok_is_implied (T : Tc P w K mg base cs) : Good P w K mg base cs "is_implied" ["half_planes", "half_plane"] 9 F_is_implied := by
  obtain ⟨f, c, fd, D0, m0, t0⟩ := T.fn 35 _ rfl
  obtain ⟨f_compare, d_compare, m_compare, k_compare, b_compare, G_compare⟩ := ok_compare T
  obtain ⟨f_fraction, d_fraction, m_fraction, k_fraction, b_fraction, ⟨d1_fraction, v1_fraction, b1_fraction⟩, G_fraction⟩ := ok_fraction T
  obtain ⟨f_supremum, d_supremum, m_supremum, k_supremum, b_supremum, G_supremum⟩ := ok_supremum T
  obtain ⟨f_is_empty, d_is_empty, m_is_empty, k_is_empty, b_is_empty, G_is_empty⟩ := ok_is_empty T
  refine ⟨f, fd, m0, D0.kp, D0.funD.bindsN (fun _ _ _ _ _ _ us hl => match us, hl with | [_, _], _ => rfl), D0.ok sc_is_implied (fun vs H Q E h => pm_len len_is_implied h) (fun A outer s H vs Q E hr h => ⟨_, (pss_cons (ps_if (pt_val (pe_call G_is_empty (hr.mono (by decide)) rfl m_is_empty k_is_empty b_is_empty .nil pass0 (pa_cons (pv 0) pa_nil))) (pss_one (ps_ret pe_bl)) pss_nil)
      (pss_cons (ps_set (i := 2) sc_is_implied.nd rfl (.inl rfl) (pe_call G_supremum (hr.mono (by decide)) rfl m_supremum k_supremum b_supremum .nil pass0 (pa_cons (pv 0) (pa_cons (pe_call G_fraction (hr.mono (by decide)) rfl m_fraction k_fraction b1_fraction v1_fraction pass0 (pa_cons (pe_ix (r := rIxT K) L2.ix_tup (pv 1) pe_int (fun _ _ => rfl)) pa_nil)) (pa_cons (pe_call G_fraction (hr.mono (by decide)) rfl m_fraction k_fraction b1_fraction v1_fraction pass0 (pa_cons (pe_ix (r := rIxT K) L2.ix_tup (pv 1) pe_int (fun _ _ => rfl)) pa_nil)) pa_nil)))))
      (pss_one (ps_ret (pe_and (pe_cmp (pc_notN (pv 2))) (pe_one (pe_cmpR op_le (pe_call G_compare (hr.mono (by decide)) rfl m_compare k_compare b_compare .nil pass0 (pa_cons (pv 2) (pa_cons (pe_call G_fraction (hr.mono (by decide)) rfl m_fraction k_fraction b1_fraction v1_fraction pass0 (pa_cons (pe_ix (r := rIxT K) L2.ix_tup (pv 1) pe_int (fun _ _ => rfl)) pa_nil)) pa_nil))) pe_int (nomark _)))))))), pm_body rfl ?_ h⟩)⟩
  intro ds R hF
  obtain ⟨hs, k, rfl, hn, hh, hk, hR⟩ := hF
  refine s_when (P := fun b => b = true → Cert hs) (t_B (Ra := fun d => ∃ b : Bool, d = .bool b ∧ (b = true → Cert hs)) (xd_call (ad_cons (x_var (d := dPs hs) rfl rfl) ad_nil) ⟨hs, rfl, hn, fun h m => (hh h m).mono (by decide), fun b hb => ⟨b, rfl, hb⟩⟩) fun d h => h) (fun hc => sd_ret (x_bl rfl) (hR true fun _ r hr => absurd hr ((hc rfl).empty r))) (fun _ => ?_)
  refine s_set (Ra := fun d => d = .none ∨ ∃ v, d = dQ v ∧ Sz 4400 v ∧ Bnd hs (k.x : Rat) (k.y : Rat) v) (xd_call (ad_cons (x_var (d := dPs hs) rfl rfl) (ad_cons (xd_callD (ad_cons (xd_op od_ixT (x_var (d := dP k) rfl rfl) (x_int rfl) ⟨_, _, _, rfl, rfl, rfl, rfl⟩) ad_nil) (fun _ => .cons (.int _) .nil) (sp_fraction1 rfl)) (ad_cons (xd_callD (ad_cons (xd_op od_ixT (x_var (d := dP k) rfl rfl) (x_int rfl) ⟨_, _, _, rfl, rfl, rfl, rfl⟩) ad_nil) (fun _ => .cons (.int _) .nil) (sp_fraction1 rfl)) ad_nil))) ⟨hs, _, _, rfl, hn, hh, Sz.int hk.1 (by decide), Sz.int hk.2.1 (by decide), .inl rfl, fun v sv bv => .inr ⟨v, rfl, sv, bv⟩⟩) fun d hd => ?_
  rcases hd with rfl | ⟨v, rfl, sv, bv⟩
  · try simp only [entG, setG, List.map_cons, List.map_nil, List.cons_append, List.nil_append, List.length_cons, List.length_nil, Nat.reduceAdd, Nat.reduceSub, List.replicate_succ, List.replicate_zero, List.set_cons_zero, List.set_cons_succ]
    exact sd_ret (xd_andV (b := false) (xd_notN (x_var rfl rfl)) fun h => by cases h) (hR _ fun h => by cases h)
  · try simp only [entG, setG, List.map_cons, List.map_nil, List.cons_append, List.nil_append, List.length_cons, List.length_nil, Nat.reduceAdd, Nat.reduceSub, List.replicate_succ, List.replicate_zero, List.set_cons_zero, List.set_cons_succ]
    refine sd_ret (xd_andV (xd_notN (x_var rfl rfl)) (fun _ => (xd_op od_B0 (xd_call (ad_cons (x_var rfl rfl) (ad_cons (xd_callD (ad_cons (xd_op od_ixT (x_var rfl rfl) (x_int rfl) ⟨_, _, _, rfl, rfl, rfl, rfl⟩) ad_nil) (fun _ => .cons (.int _) .nil) (sp_fraction1 rfl)) ad_nil)) (sp_compare (Sz.mono sv (by decide : 4400 ≤ 4400)) (Sz.mono (Sz.int hk.2.2 (by decide)) (by decide : 300 ≤ 4400)) rfl)) (x_int rfl) ⟨_, _, rfl, rfl, rfl⟩))) (hR _ fun hc r hr => ?_)
    simp only [Bool.and_eq_true, decide_eq_true_eq, sg_le] at hc
    have h1 := bv r hr
    have h2 := hc.2
    show (k.x : Rat) * r.1 + (k.y : Rat) * r.2 ≤ (k.z : Rat)
    grind
def mapPl (m : Mp) (h : Pl) : Pl := mkPl ((h.x : Rat) * m.inv.a + (h.y : Rat) * m.inv.c) ((h.x : Rat) * m.inv.b + (h.y : Rat) * m.inv.d) ((h.z : Rat) - ((h.x : Rat) * m.inv.e + (h.y : Rat) * m.inv.f))
def mapOk (m : Mp) (h : Pl) : Prop := h.Sz 200 ∧ ((h.x : Rat) * m.inv.a + (h.y : Rat) * m.inv.c ≠ 0 ∨ (h.x : Rat) * m.inv.b + (h.y : Rat) * m.inv.d ≠ 0)
def F_map_half_planes (ds : List D) (R : D → Prop) : Prop := ∃ (m : Mp) (hs : List Pl), ds = [dM m, dPs hs] ∧ m.Sz 200 ∧ hs.length ≤ 1000 ∧ (∀ h ∈ hs, mapOk m h) ∧ R (dPs (hs.map (mapPl m)))
theorem len_map_half_planes : ∀ ds R, F_map_half_planes ds R → ds.length = 2 := fun _ _ ⟨_, _, h, _⟩ => by rw [h]; rfl
theorem sp_map_half_planes {m : Mp} {hs : List Pl} {R : D → Prop} (hm : m.Sz 200) (hn : hs.length ≤ 1000) (ho : ∀ h ∈ hs, mapOk m h) (k : R (dPs (hs.map (mapPl m)))) : F_map_half_planes [dM m, dPs hs] R := ⟨m, hs, rfl, hm, hn, ho, k⟩
abbrev N_map_half_planes : List Str := ["map_used", "half_planes", "a", "b", "c", "d", "e", "f", "found", "one", "p", "q", "rest"]
theorem sc_map_half_planes : FnScope N_map_half_planes ["map_used", "half_planes"] (defScope (topS 43)) := ⟨rfl, rfl, rfl, by decide +kernel, rfl, by decide +kernel, by decide +kernel⟩
theorem ok_map_half_planes (T : Tc P w K mg base cs) : Good P w K mg base cs "map_half_planes" ["map_used", "half_planes"] 6 F_map_half_planes := by
  obtain ⟨f, c, fd, D0, m0, t0⟩ := T.fn 34 _ rfl
  obtain ⟨f_make_half_plane, d_make_half_plane, m_make_half_plane, k_make_half_plane, b_make_half_plane, G_make_half_plane⟩ := ok_make_half_plane T
  obtain ⟨f_add, d_add, m_add, k_add, b_add, G_add⟩ := ok_add T
  obtain ⟨f_multiply, d_multiply, m_multiply, k_multiply, b_multiply, G_multiply⟩ := ok_multiply T
  obtain ⟨f_subtract, d_subtract, m_subtract, k_subtract, b_subtract, G_subtract⟩ := ok_subtract T
  obtain ⟨f_fraction, d_fraction, m_fraction, k_fraction, b_fraction, ⟨d1_fraction, v1_fraction, b1_fraction⟩, G_fraction⟩ := ok_fraction T
  obtain ⟨f_invert_map, d_invert_map, m_invert_map, k_invert_map, b_invert_map, G_invert_map⟩ := ok_invert_map T
  refine ⟨f, fd, m0, D0.kp, D0.funD.bindsN (fun _ _ _ _ _ _ us hl => match us, hl with | [_, _], _ => rfl), D0.ok sc_map_half_planes (fun vs H Q E h => pm_len len_map_half_planes h) (fun A outer s H vs Q E hr h => ⟨_, (pss_cons (ps_asg (pe_call G_invert_map (hr.mono (by decide)) rfl m_invert_map k_invert_map b_invert_map .nil pass0 (pa_cons (pv 0) pa_nil)) (pg_tup rfl (pgs_cons (pg_name (i := 2) sc_map_half_planes.nd rfl (.inl rfl)) (pgs_cons (pg_name (i := 3) sc_map_half_planes.nd rfl (.inl rfl)) (pgs_cons (pg_name (i := 4) sc_map_half_planes.nd rfl (.inl rfl)) (pgs_cons (pg_name (i := 5) sc_map_half_planes.nd rfl (.inl rfl)) (pgs_cons (pg_name (i := 6) sc_map_half_planes.nd rfl (.inl rfl)) (pgs_cons (pg_name (i := 7) sc_map_half_planes.nd rfl (.inl rfl)) pgs_nil))))))))
      (pss_cons (ps_set (i := 8) sc_map_half_planes.nd rfl (.inl rfl) (pe_lst pa_nil))
      (pss_cons (ps_for PassesOwn.never rfl (pi_list (pv 1)) (pg_name (i := 9) sc_map_half_planes.nd rfl (.inl rfl)) (pss_cons (ps_set (i := 10) sc_map_half_planes.nd rfl (.inl rfl) (pe_call G_fraction (hr.mono (by decide)) rfl m_fraction k_fraction b1_fraction v1_fraction pass0 (pa_cons (pe_ix (r := rIxT K) L2.ix_tup (pv 9) pe_int (fun _ _ => rfl)) pa_nil)))
      (pss_cons (ps_set (i := 11) sc_map_half_planes.nd rfl (.inl rfl) (pe_call G_fraction (hr.mono (by decide)) rfl m_fraction k_fraction b1_fraction v1_fraction pass0 (pa_cons (pe_ix (r := rIxT K) L2.ix_tup (pv 9) pe_int (fun _ _ => rfl)) pa_nil)))
      (pss_cons (ps_set (i := 12) sc_map_half_planes.nd rfl (.inl rfl) (pe_call G_subtract (hr.mono (by decide)) rfl m_subtract k_subtract b_subtract .nil pass0 (pa_cons (pe_call G_fraction (hr.mono (by decide)) rfl m_fraction k_fraction b1_fraction v1_fraction pass0 (pa_cons (pe_ix (r := rIxT K) L2.ix_tup (pv 9) pe_int (fun _ _ => rfl)) pa_nil)) (pa_cons (pe_call G_add (hr.mono (by decide)) rfl m_add k_add b_add .nil pass0 (pa_cons (pe_call G_multiply (hr.mono (by decide)) rfl m_multiply k_multiply b_multiply .nil pass0 (pa_cons (pv 10) (pa_cons (pv 6) pa_nil))) (pa_cons (pe_call G_multiply (hr.mono (by decide)) rfl m_multiply k_multiply b_multiply .nil pass0 (pa_cons (pv 11) (pa_cons (pv 7) pa_nil))) pa_nil))) pa_nil))))
      (pss_one (ps_expr (pe_bm PySem.F.plainAttrs_list PySem.F.slot_list_append PySem.F.type_list_append mt_append (pv 8) (pa_cons (pe_call G_make_half_plane (hr.mono (by decide)) rfl m_make_half_plane k_make_half_plane b_make_half_plane .nil pass0 (pa_cons (pe_call G_add (hr.mono (by decide)) rfl m_add k_add b_add .nil pass0 (pa_cons (pe_call G_multiply (hr.mono (by decide)) rfl m_multiply k_multiply b_multiply .nil pass0 (pa_cons (pv 10) (pa_cons (pv 2) pa_nil))) (pa_cons (pe_call G_multiply (hr.mono (by decide)) rfl m_multiply k_multiply b_multiply .nil pass0 (pa_cons (pv 11) (pa_cons (pv 4) pa_nil))) pa_nil))) (pa_cons (pe_call G_add (hr.mono (by decide)) rfl m_add k_add b_add .nil pass0 (pa_cons (pe_call G_multiply (hr.mono (by decide)) rfl m_multiply k_multiply b_multiply .nil pass0 (pa_cons (pv 10) (pa_cons (pv 3) pa_nil))) (pa_cons (pe_call G_multiply (hr.mono (by decide)) rfl m_multiply k_multiply b_multiply .nil pass0 (pa_cons (pv 11) (pa_cons (pv 5) pa_nil))) pa_nil))) (pa_cons (pv 12) pa_nil)))) pa_nil))))))))
      (pss_one (ps_ret (pv 8)))))), pm_body rfl ?_ h⟩)⟩
  intro ds R hF
  obtain ⟨m, hs, rfl, hm, hn, ho, hR⟩ := hF
  have sa : Sz 200 m.inv.a := hm.2.2.2.1
  have sb : Sz 200 m.inv.b := hm.2.1.neg
  have sc : Sz 200 m.inv.c := hm.2.2.1.neg
  have sd : Sz 200 m.inv.d := hm.1
  have se : Sz 801 m.inv.e := Sz.sub (Sz.mul hm.2.1 hm.2.2.2.2.2) (Sz.mul hm.2.2.2.1 hm.2.2.2.2.1)
  have sf : Sz 801 m.inv.f := Sz.sub (Sz.mul hm.2.2.1 hm.2.2.2.2.1) (Sz.mul hm.1 hm.2.2.2.2.2)
  have hm1 : m.Sz 1000 := ⟨hm.1.mono (by decide), hm.2.1.mono (by decide), hm.2.2.1.mono (by decide), hm.2.2.2.1.mono (by decide), hm.2.2.2.2.1.mono (by decide), hm.2.2.2.2.2.mono (by decide)⟩
  refine sd_unp (tg_tup (js := [2, 3, 4, 5, 6, 7]) rfl) (xd_call (ad_cons (x_var rfl rfl) ad_nil) (sp_invert_map hm1 rfl)) rfl ?_
  try simp only [entG, setG, List.map_cons, List.map_nil, List.cons_append, List.nil_append, List.length_cons, List.length_nil, Nat.reduceAdd, Nat.reduceSub, List.replicate_succ, List.replicate_zero, List.set_cons_zero, List.set_cons_succ]
  refine s_seq (s_newL ad_nil (Nat.le_of_ble_eq_true rfl) ?_)
  try simp only [entG, setG, List.map_cons, List.map_nil, List.cons_append, List.nil_append, List.length_cons, List.length_nil, Nat.reduceAdd, Nat.reduceSub, List.replicate_succ, List.replicate_zero, List.set_cons_zero, List.set_cons_succ]
  refine s_seq (sd_for (ixd_list (ds := hs.map dP) (x_var rfl rfl)) tg_name (fun i Γ => ∃ z1 z2 z3 z4 : Sl, Γ = [.val (dM m), .val (dPs hs), .val (dQ m.inv.a), .val (dQ m.inv.b), .val (dQ m.inv.c), .val (dQ m.inv.d), .val (dQ m.inv.e), .val (dQ m.inv.f), .own (((hs.take i).map (mapPl m)).map dP), z1, z2, z3, z4] ∧ i ≤ hs.length) ⟨_, _, _, _, rfl, Nat.zero_le _⟩ ?_ ?_)
  · rintro i d Γ' hd ⟨z1, z2, z3, z4, rfl, hi⟩
    obtain ⟨h, eh, rfl⟩ := gmapE hd
    have mh := List.mem_of_getElem? eh
    have hi2 : i < hs.length := (List.getElem?_eq_some_iff.mp eh).1
    obtain ⟨hk, hnz⟩ := ho h mh
    have sp : Sz 200 (h.x : Rat) := Sz.int hk.1 (by decide)
    have sq : Sz 200 (h.y : Rat) := Sz.int hk.2.1 (by decide)
    have sr : Sz 2204 ((h.z : Rat) - ((h.x : Rat) * m.inv.e + (h.y : Rat) * m.inv.f)) := Sz.sub (Sz.int hk.2.2 (by decide)) (Sz.add (Sz.mul sp se) (Sz.mul sq sf))
    refine ⟨_, rfl, ?_⟩
    try simp only [entG, setG, List.map_cons, List.map_nil, List.cons_append, List.nil_append, List.length_cons, List.length_nil, Nat.reduceAdd, Nat.reduceSub, List.replicate_succ, List.replicate_zero, List.set_cons_zero, List.set_cons_succ]
    refine sd_set (xd_callD (ad_cons (xd_op od_ixT (x_var (d := dP h) rfl rfl) (x_int rfl) ⟨_, _, _, rfl, rfl, rfl, rfl⟩) ad_nil) (fun _ => .cons (.int _) .nil) (sp_fraction1 rfl)) ?_
    try simp only [entG, setG, List.map_cons, List.map_nil, List.cons_append, List.nil_append, List.length_cons, List.length_nil, Nat.reduceAdd, Nat.reduceSub, List.replicate_succ, List.replicate_zero, List.set_cons_zero, List.set_cons_succ]
    refine sd_set (xd_callD (ad_cons (xd_op od_ixT (x_var (d := dP h) rfl rfl) (x_int rfl) ⟨_, _, _, rfl, rfl, rfl, rfl⟩) ad_nil) (fun _ => .cons (.int _) .nil) (sp_fraction1 rfl)) ?_
    try simp only [entG, setG, List.map_cons, List.map_nil, List.cons_append, List.nil_append, List.length_cons, List.length_nil, Nat.reduceAdd, Nat.reduceSub, List.replicate_succ, List.replicate_zero, List.set_cons_zero, List.set_cons_succ]
    refine sd_set (d := dQ ((h.z : Rat) - ((h.x : Rat) * m.inv.e + (h.y : Rat) * m.inv.f))) (xd_call (ad_cons (xd_callD (ad_cons (xd_op od_ixT (x_var rfl rfl) (x_int rfl) ⟨_, _, _, rfl, rfl, rfl, rfl⟩) ad_nil) (fun _ => .cons (.int _) .nil) (sp_fraction1 rfl)) (ad_cons (xd_call (ad_cons (xd_call (ad_cons (x_var rfl rfl) (ad_cons (x_var rfl rfl) ad_nil)) (sp_multiply (Sz.mono sp (by decide : 200 ≤ 4400)) (Sz.mono se (by decide : 801 ≤ 4400)) rfl)) (ad_cons (xd_call (ad_cons (x_var rfl rfl) (ad_cons (x_var rfl rfl) ad_nil)) (sp_multiply (Sz.mono sq (by decide : 200 ≤ 4400)) (Sz.mono sf (by decide : 801 ≤ 4400)) rfl)) ad_nil)) (sp_add (Sz.mono (Sz.mul sp se) (by decide : 1001 ≤ 4400)) (Sz.mono (Sz.mul sq sf) (by decide : 1001 ≤ 4400)) rfl)) ad_nil)) (sp_subtract (Sz.mono (Sz.int hk.2.2 (by decide)) (by decide : 200 ≤ 4400)) (Sz.mono (Sz.add (Sz.mul sp se) (Sz.mul sq sf)) (by decide : 2003 ≤ 4400)) rfl)) ?_
    try simp only [entG, setG, List.map_cons, List.map_nil, List.cons_append, List.nil_append, List.length_cons, List.length_nil, Nat.reduceAdd, Nat.reduceSub, List.replicate_succ, List.replicate_zero, List.set_cons_zero, List.set_cons_succ]
    refine sd_app (i := 8) rfl (by rw [List.length_map, List.length_map, List.length_take]; omega) (xd_call (ad_cons (xd_call (ad_cons (xd_call (ad_cons (x_var rfl rfl) (ad_cons (x_var rfl rfl) ad_nil)) (sp_multiply (Sz.mono sp (by decide : 200 ≤ 4400)) (Sz.mono sa (by decide : 200 ≤ 4400)) rfl)) (ad_cons (xd_call (ad_cons (x_var rfl rfl) (ad_cons (x_var rfl rfl) ad_nil)) (sp_multiply (Sz.mono sq (by decide : 200 ≤ 4400)) (Sz.mono sc (by decide : 200 ≤ 4400)) rfl)) ad_nil)) (sp_add (Sz.mono (Sz.mul sp sa) (by decide : 400 ≤ 4400)) (Sz.mono (Sz.mul sq sc) (by decide : 400 ≤ 4400)) rfl)) (ad_cons (xd_call (ad_cons (xd_call (ad_cons (x_var rfl rfl) (ad_cons (x_var rfl rfl) ad_nil)) (sp_multiply (Sz.mono sp (by decide : 200 ≤ 4400)) (Sz.mono sb (by decide : 200 ≤ 4400)) rfl)) (ad_cons (xd_call (ad_cons (x_var rfl rfl) (ad_cons (x_var rfl rfl) ad_nil)) (sp_multiply (Sz.mono sq (by decide : 200 ≤ 4400)) (Sz.mono sd (by decide : 200 ≤ 4400)) rfl)) ad_nil)) (sp_add (Sz.mono (Sz.mul sp sb) (by decide : 400 ≤ 4400)) (Sz.mono (Sz.mul sq sd) (by decide : 400 ≤ 4400)) rfl)) (ad_cons (x_var rfl rfl) ad_nil))) (sp_make_half_plane (Sz.mono (Sz.add (Sz.mul sp sa) (Sz.mul sq sc)) (by decide)) (Sz.mono (Sz.add (Sz.mul sp sb) (Sz.mul sq sd)) (by decide)) (sr.mono (by decide)) hnz rfl)) ⟨.val (dP h), .val (dQ (h.x : Rat)), .val (dQ (h.y : Rat)), .val (dQ ((h.z : Rat) - ((h.x : Rat) * m.inv.e + (h.y : Rat) * m.inv.f))), ?_, hi2⟩
    rw [take_snoc eh, List.map_append, List.map_append]
    rfl
  · rintro Γ' ⟨z1, z2, z3, z4, rfl, hi⟩
    rw [List.length_map, List.take_length]
    exact s_show (i := 8) rfl (sd_ret (x_var rfl rfl) hR)
end Rt
set_option Elab.async false
set_option linter.all false
set_option maxRecDepth 100000
set_option maxHeartbeats 4000000
set_option exponentiation.threshold 100000
/-! The walk, part 7: rays. -/
namespace Rt
open PySem PySem.Spec PyProof.Rows L2 GxR Gx RZ
variable {P : Program} {w : World} {K : PySem.W.Frag} {mg : Str → Option Value} {base : Heap} {cs : List Addr}
def loB : Option Rat → Rat → Bool
  | some l, x => decide (l ≤ x)
  | none, _ => true
def hiB : Option Rat → Rat → Bool
  | some h, x => decide (x ≤ h)
  | none, _ => true
def stopB (lo hi : Option Rat) (x : Rat) : Bool := loB lo x && hiB hi x
def F_passes_stop (ds : List D) (R : D → Prop) : Prop := ∃ (lo hi : Option Rat) (x : Rat), ds = [dE (.stop lo hi), dQ x] ∧ (El.stop lo hi).Sz 1000 ∧ Sz 1000 x ∧ R (.bool (stopB lo hi x))
theorem len_passes_stop : ∀ ds R, F_passes_stop ds R → ds.length = 2 := fun _ _ ⟨_, _, _, h, _⟩ => by rw [h]; rfl
theorem sp_passes_stop {lo hi : Option Rat} {x : Rat} {R : D → Prop} (h : (El.stop lo hi).Sz 1000) (hx : Sz 1000 x) (k : R (.bool (stopB lo hi x))) : F_passes_stop [dE (.stop lo hi), dQ x] R := ⟨lo, hi, x, rfl, h, hx, k⟩
abbrev N_passes_stop : List Str := ["stop", "height"]
theorem sc_passes_stop : FnScope N_passes_stop ["stop", "height"] (defScope (topS 60)) := ⟨rfl, rfl, rfl, by decide +kernel, rfl, by decide +kernel, by decide +kernel⟩
theorem ok_passes_stop (T : Tc P w K mg base cs) : Good P w K mg base cs "passes_stop" ["stop", "height"] 7 F_passes_stop := by
  obtain ⟨f, c, fd, D0, m0, t0⟩ := T.fn 45 _ rfl
  obtain ⟨f_is_at_most, d_is_at_most, m_is_at_most, k_is_at_most, b_is_at_most, G_is_at_most⟩ := ok_is_at_most T
  refine ⟨f, fd, m0, D0.kp, D0.funD.bindsN (fun _ _ _ _ _ _ us hl => match us, hl with | [_, _], _ => rfl), D0.ok sc_passes_stop (fun vs H Q E h => pm_len len_passes_stop h) (fun A outer s H vs Q E hr h => ⟨_, (pss_cons (ps_if (PW.pt (pw_and (pt_cmp (pc_notN (pe_ix (r := rIxT K) L2.ix_tup (pv 0) pe_int (fun _ _ => rfl)))) (pw_and1 (pt_not (pt_val (pe_call G_is_at_most (hr.mono (by decide)) rfl m_is_at_most k_is_at_most b_is_at_most .nil pass0 (pa_cons (pe_ix (r := rIxT K) L2.ix_tup (pv 0) pe_int (fun _ _ => rfl)) (pa_cons (pv 1) pa_nil)))))))) (pss_one (ps_ret pe_bl)) pss_nil)
      (pss_one (ps_ret (pe_or (pe_cmp (pc_isN (pe_ix (r := rIxT K) L2.ix_tup (pv 0) pe_int (fun _ _ => rfl)))) (pe_one (pe_call G_is_at_most (hr.mono (by decide)) rfl m_is_at_most k_is_at_most b_is_at_most .nil pass0 (pa_cons (pv 1) (pa_cons (pe_ix (r := rIxT K) L2.ix_tup (pv 0) pe_int (fun _ _ => rfl)) pa_nil)))))))), pm_body rfl ?_ h⟩)⟩
  intro ds R hF
  obtain ⟨lo, hi, x, rfl, ⟨hl, hh⟩, hx, hR⟩ := hF
  have fin : loB lo x = true → Sx K cs (tRet (tOrV (tIsN (tOp (rIxT K) (tVar 0) (tC (.int 2)))) (tCall (Pm K cs F_is_at_most) [] E0 (tCons (tVar 1) (tCons (tOp (rIxT K) (tVar 0) (tC (.int 2))) tNil))))) [.val (dE (.stop lo hi)), .val (dQ x)] (fun _ => R .none) R := by
    intro h1
    unfold stopB at hR
    rw [h1, Bool.true_and] at hR
    cases hi with
    | none => exact sd_ret (xd_orV (b := true) (xd_isN (xd_op od_ixT (x_var rfl rfl) (x_int rfl) ⟨_, _, _, rfl, rfl, rfl, rfl⟩)) fun h => by cases h) hR
    | some h =>
      exact sd_ret (xd_orV (xd_isN (xd_op od_ixT (x_var rfl rfl) (x_int rfl) ⟨_, _, _, rfl, rfl, rfl, rfl⟩)) (fun _ => (xd_call (ad_cons (x_var rfl rfl) (ad_cons (xd_op od_ixT (x_var rfl rfl) (x_int rfl) ⟨_, _, _, rfl, rfl, rfl, rfl⟩) ad_nil)) (sp_is_at_most (Sz.mono hx (by decide : 1000 ≤ 4400)) (Sz.mono (hh h rfl) (by decide : 1000 ≤ 4400)) rfl)))) hR
  cases lo with
  | none => exact sd_when (td_and (b := false) (td_B (xd_notN (xd_op od_ixT (x_var rfl rfl) (x_int rfl) ⟨_, _, _, rfl, rfl, rfl, rfl⟩)) rfl) fun h => by cases h) (fun h => by cases h) (fun _ => fin rfl)
  | some l =>
    refine sd_when (td_and (td_B (xd_notN (xd_op od_ixT (x_var rfl rfl) (x_int rfl) ⟨_, _, _, rfl, rfl, rfl, rfl⟩)) rfl) (fun _ => (td_not (td_B (xd_call (ad_cons (xd_op od_ixT (x_var rfl rfl) (x_int rfl) ⟨_, _, _, rfl, rfl, rfl, rfl⟩) (ad_cons (x_var rfl rfl) ad_nil)) (sp_is_at_most (Sz.mono (hl l rfl) (by decide : 1000 ≤ 4400)) (Sz.mono hx (by decide : 1000 ≤ 4400)) rfl)) rfl)))) (fun hc => ?_) (fun hc => fin ?_)
    · have hc3 : (true && !decide (l ≤ x)) = true := hc
      have hc2 : loB (some l) x = false := by
        show decide (l ≤ x) = false
        cases h : decide (l ≤ x)
        · rfl
        · rw [h] at hc3
          cases hc3
      unfold stopB at hR
      rw [hc2] at hR
      exact sd_ret (x_bl rfl) hR
    · have : (true && !decide (l ≤ x)) = false := hc
      show decide (l ≤ x) = true
      cases h : decide (l ≤ x)
      · rw [h] at this
        cases this
      · rfl
def dOR : Option (Rat × Rat) → D
  | some r => dR r
  | none => .none
def gone : El → Rat × Rat → Option (Rat × Rat)
  | .stop lo hi, r => if stopB lo hi r.1 then some r else none
  | e, r => some (e.map.app r)
def F_gone_through (ds : List D) (R : D → Prop) : Prop := ∃ (e : El) (r : Rat × Rat), ds = [dE e, dR r] ∧ e.Sz 1000 ∧ RSz 1000 r ∧ R (dOR (gone e r))
theorem len_gone_through : ∀ ds R, F_gone_through ds R → ds.length = 2 := fun _ _ ⟨_, _, h, _⟩ => by rw [h]; rfl
theorem app_gap (l : Rat) (r : Rat × Rat) : (El.gap l).map.app r = (r.1 + l * r.2, r.2) := by
  unfold El.map Mp.app
  exact Prod.ext (by dsimp only; grind) (by dsimp only; grind)
theorem app_lens (p o : Rat) (r : Rat × Rat) : (El.lens p o).map.app r = (r.1, r.2 - p * (r.1 - o)) := by
  unfold El.map Mp.app
  exact Prod.ext (by dsimp only; grind) (by dsimp only; grind)
theorem app_prism (f : Rat) (r : Rat × Rat) : (El.prism f).map.app r = (r.1, r.2 + f) := by
  unfold El.map Mp.app
  exact Prod.ext (by dsimp only; grind) (by dsimp only; grind)
theorem app_afocal (m : Rat) (r : Rat × Rat) : (El.afocal m).map.app r = (m * r.1, r.2 / m) := by
  unfold El.map Mp.app
  refine Prod.ext (by dsimp only; grind) ?_
  dsimp only
  rw [Rat.div_def, Rat.div_def]
  grind
abbrev N_gone_through : List Str := ["element", "ray", "height", "slope"]
theorem sc_gone_through : FnScope N_gone_through ["element", "ray"] (defScope (topS 61)) := ⟨rfl, rfl, rfl, by decide +kernel, rfl, by decide +kernel, by decide +kernel⟩
theorem ok_gone_through (T : Tc P w K mg base cs) : Good P w K mg base cs "gone_through" ["element", "ray"] 8 F_gone_through := by
  obtain ⟨f, c, fd, D0, m0, t0⟩ := T.fn 46 _ rfl
  obtain ⟨f_passes_stop, d_passes_stop, m_passes_stop, k_passes_stop, b_passes_stop, G_passes_stop⟩ := ok_passes_stop T
  obtain ⟨f_divide, d_divide, m_divide, k_divide, b_divide, G_divide⟩ := ok_divide T
  obtain ⟨f_multiply, d_multiply, m_multiply, k_multiply, b_multiply, G_multiply⟩ := ok_multiply T
  obtain ⟨f_add, d_add, m_add, k_add, b_add, G_add⟩ := ok_add T
  obtain ⟨f_subtract, d_subtract, m_subtract, k_subtract, b_subtract, G_subtract⟩ := ok_subtract T
  refine ⟨f, fd, m0, D0.kp, D0.funD.bindsN (fun _ _ _ _ _ _ us hl => match us, hl with | [_, _], _ => rfl), D0.ok sc_gone_through (fun vs H Q E h => pm_len len_gone_through h) (fun A outer s H vs Q E hr h => ⟨_, (pss_cons (ps_asg (pv 1) (pg_tup rfl (pgs_cons (pg_name (i := 2) sc_gone_through.nd rfl (.inl rfl)) (pgs_cons (pg_name (i := 3) sc_gone_through.nd rfl (.inl rfl)) pgs_nil))))
      (pss_cons (ps_if (pt_cmpR op_eq (pe_ix (r := rIxT K) L2.ix_tup (pv 0) pe_int (fun _ _ => rfl)) pe_str (nomark _)) (pss_one (ps_ret (pe_tup (pa_cons (pe_call G_add (hr.mono (by decide)) rfl m_add k_add b_add .nil pass0 (pa_cons (pv 2) (pa_cons (pe_call G_multiply (hr.mono (by decide)) rfl m_multiply k_multiply b_multiply .nil pass0 (pa_cons (pe_ix (r := rIxT K) L2.ix_tup (pv 0) pe_int (fun _ _ => rfl)) (pa_cons (pv 3) pa_nil))) pa_nil))) (pa_cons (pv 3) pa_nil))))) pss_nil)
      (pss_cons (ps_if (pt_cmpR op_eq (pe_ix (r := rIxT K) L2.ix_tup (pv 0) pe_int (fun _ _ => rfl)) pe_str (nomark _)) (pss_one (ps_ret (pe_tup (pa_cons (pv 2) (pa_cons (pe_call G_subtract (hr.mono (by decide)) rfl m_subtract k_subtract b_subtract .nil pass0 (pa_cons (pv 3) (pa_cons (pe_call G_multiply (hr.mono (by decide)) rfl m_multiply k_multiply b_multiply .nil pass0 (pa_cons (pe_ix (r := rIxT K) L2.ix_tup (pv 0) pe_int (fun _ _ => rfl)) (pa_cons (pe_call G_subtract (hr.mono (by decide)) rfl m_subtract k_subtract b_subtract .nil pass0 (pa_cons (pv 2) (pa_cons (pe_ix (r := rIxT K) L2.ix_tup (pv 0) pe_int (fun _ _ => rfl)) pa_nil))) pa_nil))) pa_nil))) pa_nil))))) pss_nil)
      (pss_cons (ps_if (pt_cmpR op_eq (pe_ix (r := rIxT K) L2.ix_tup (pv 0) pe_int (fun _ _ => rfl)) pe_str (nomark _)) (pss_one (ps_ret (pe_tup (pa_cons (pv 2) (pa_cons (pe_call G_add (hr.mono (by decide)) rfl m_add k_add b_add .nil pass0 (pa_cons (pv 3) (pa_cons (pe_ix (r := rIxT K) L2.ix_tup (pv 0) pe_int (fun _ _ => rfl)) pa_nil))) pa_nil))))) pss_nil)
      (pss_cons (ps_if (pt_cmpR op_eq (pe_ix (r := rIxT K) L2.ix_tup (pv 0) pe_int (fun _ _ => rfl)) pe_str (nomark _)) (pss_one (ps_ret (pe_tup (pa_cons (pe_call G_multiply (hr.mono (by decide)) rfl m_multiply k_multiply b_multiply .nil pass0 (pa_cons (pe_ix (r := rIxT K) L2.ix_tup (pv 0) pe_int (fun _ _ => rfl)) (pa_cons (pv 2) pa_nil))) (pa_cons (pe_call G_divide (hr.mono (by decide)) rfl m_divide k_divide b_divide .nil pass0 (pa_cons (pv 3) (pa_cons (pe_ix (r := rIxT K) L2.ix_tup (pv 0) pe_int (fun _ _ => rfl)) pa_nil))) pa_nil))))) pss_nil)
      (pss_cons (ps_if (pt_val (pe_call G_passes_stop (hr.mono (by decide)) rfl m_passes_stop k_passes_stop b_passes_stop .nil pass0 (pa_cons (pv 0) (pa_cons (pv 2) pa_nil)))) (pss_one (ps_ret (pv 1))) pss_nil)
      (pss_one (ps_ret pe_non)))))))), pm_body rfl ?_ h⟩)⟩
  intro ds R hF
  obtain ⟨e, r, rfl, hs, ⟨h0, h1⟩, hR⟩ := hF
  refine sd_unp (tg_tup (js := [2, 3]) rfl) (x_var (d := dR r) rfl rfl) rfl ?_
  try simp only [entG, setG, List.map_cons, List.map_nil, List.cons_append, List.nil_append, List.length_cons, List.length_nil, Nat.reduceAdd, Nat.reduceSub, List.replicate_succ, List.replicate_zero, List.set_cons_zero, List.set_cons_succ]
  cases e with
  | gap l =>
    have hR : R (dR ((El.gap l).map.app r)) := hR
    rw [app_gap] at hR
    refine sd_when (td_test (xd_op od_eqS (xd_op od_ixT (x_var rfl rfl) (x_int rfl) ⟨_, _, _, rfl, rfl, rfl, rfl⟩) (x_str rfl) ⟨_, _, rfl, rfl, rfl⟩) rfl) (fun _ => ?_) (fun h => absurd h (by decide))
    exact sd_ret (xd_tup (ad_cons (xd_call (ad_cons (x_var rfl rfl) (ad_cons (xd_call (ad_cons (xd_op od_ixT (x_var rfl rfl) (x_int rfl) ⟨_, _, _, rfl, rfl, rfl, rfl⟩) (ad_cons (x_var rfl rfl) ad_nil)) (sp_multiply (Sz.mono hs (by decide : 1000 ≤ 4400)) (Sz.mono h1 (by decide : 1000 ≤ 4400)) rfl)) ad_nil)) (sp_add (Sz.mono h0 (by decide : 1000 ≤ 4400)) (Sz.mono (Sz.mul hs h1) (by decide : 2000 ≤ 4400)) rfl)) (ad_cons (x_var rfl rfl) ad_nil)) (Nat.le_of_ble_eq_true rfl) rfl) hR
  | lens p o =>
    have hR : R (dR ((El.lens p o).map.app r)) := hR
    rw [app_lens] at hR
    refine sd_when (td_test (xd_op od_eqS (xd_op od_ixT (x_var rfl rfl) (x_int rfl) ⟨_, _, _, rfl, rfl, rfl, rfl⟩) (x_str rfl) ⟨_, _, rfl, rfl, rfl⟩) rfl) (fun h => absurd h (by decide)) (fun _ => ?_)
    refine sd_when (td_test (xd_op od_eqS (xd_op od_ixT (x_var rfl rfl) (x_int rfl) ⟨_, _, _, rfl, rfl, rfl, rfl⟩) (x_str rfl) ⟨_, _, rfl, rfl, rfl⟩) rfl) (fun _ => ?_) (fun h => absurd h (by decide))
    exact sd_ret (xd_tup (ad_cons (x_var rfl rfl) (ad_cons (xd_call (ad_cons (x_var rfl rfl) (ad_cons (xd_call (ad_cons (xd_op od_ixT (x_var rfl rfl) (x_int rfl) ⟨_, _, _, rfl, rfl, rfl, rfl⟩) (ad_cons (xd_call (ad_cons (x_var rfl rfl) (ad_cons (xd_op od_ixT (x_var rfl rfl) (x_int rfl) ⟨_, _, _, rfl, rfl, rfl, rfl⟩) ad_nil)) (sp_subtract (Sz.mono h0 (by decide : 1000 ≤ 4400)) (Sz.mono hs.2 (by decide : 1000 ≤ 4400)) rfl)) ad_nil)) (sp_multiply (Sz.mono hs.1 (by decide : 1000 ≤ 4400)) (Sz.mono (Sz.sub h0 hs.2) (by decide : 2001 ≤ 4400)) rfl)) ad_nil)) (sp_subtract (Sz.mono h1 (by decide : 1000 ≤ 4400)) (Sz.mono (Sz.mul hs.1 (Sz.sub h0 hs.2)) (by decide : 3001 ≤ 4400)) rfl)) ad_nil)) (Nat.le_of_ble_eq_true rfl) rfl) hR
  | prism f =>
    have hR : R (dR ((El.prism f).map.app r)) := hR
    rw [app_prism] at hR
    refine sd_when (td_test (xd_op od_eqS (xd_op od_ixT (x_var rfl rfl) (x_int rfl) ⟨_, _, _, rfl, rfl, rfl, rfl⟩) (x_str rfl) ⟨_, _, rfl, rfl, rfl⟩) rfl) (fun h => absurd h (by decide)) (fun _ => ?_)
    refine sd_when (td_test (xd_op od_eqS (xd_op od_ixT (x_var rfl rfl) (x_int rfl) ⟨_, _, _, rfl, rfl, rfl, rfl⟩) (x_str rfl) ⟨_, _, rfl, rfl, rfl⟩) rfl) (fun h => absurd h (by decide)) (fun _ => ?_)
    refine sd_when (td_test (xd_op od_eqS (xd_op od_ixT (x_var rfl rfl) (x_int rfl) ⟨_, _, _, rfl, rfl, rfl, rfl⟩) (x_str rfl) ⟨_, _, rfl, rfl, rfl⟩) rfl) (fun _ => ?_) (fun h => absurd h (by decide))
    exact sd_ret (xd_tup (ad_cons (x_var rfl rfl) (ad_cons (xd_call (ad_cons (x_var rfl rfl) (ad_cons (xd_op od_ixT (x_var rfl rfl) (x_int rfl) ⟨_, _, _, rfl, rfl, rfl, rfl⟩) ad_nil)) (sp_add (Sz.mono h1 (by decide : 1000 ≤ 4400)) (Sz.mono hs (by decide : 1000 ≤ 4400)) rfl)) ad_nil)) (Nat.le_of_ble_eq_true rfl) rfl) hR
  | afocal m =>
    have hR : R (dR ((El.afocal m).map.app r)) := hR
    rw [app_afocal] at hR
    refine sd_when (td_test (xd_op od_eqS (xd_op od_ixT (x_var rfl rfl) (x_int rfl) ⟨_, _, _, rfl, rfl, rfl, rfl⟩) (x_str rfl) ⟨_, _, rfl, rfl, rfl⟩) rfl) (fun h => absurd h (by decide)) (fun _ => ?_)
    refine sd_when (td_test (xd_op od_eqS (xd_op od_ixT (x_var rfl rfl) (x_int rfl) ⟨_, _, _, rfl, rfl, rfl, rfl⟩) (x_str rfl) ⟨_, _, rfl, rfl, rfl⟩) rfl) (fun h => absurd h (by decide)) (fun _ => ?_)
    refine sd_when (td_test (xd_op od_eqS (xd_op od_ixT (x_var rfl rfl) (x_int rfl) ⟨_, _, _, rfl, rfl, rfl, rfl⟩) (x_str rfl) ⟨_, _, rfl, rfl, rfl⟩) rfl) (fun h => absurd h (by decide)) (fun _ => ?_)
    refine sd_when (td_test (xd_op od_eqS (xd_op od_ixT (x_var rfl rfl) (x_int rfl) ⟨_, _, _, rfl, rfl, rfl, rfl⟩) (x_str rfl) ⟨_, _, rfl, rfl, rfl⟩) rfl) (fun _ => ?_) (fun h => absurd h (by decide))
    refine sd_ret (xd_tup (ad_cons (xd_call (ad_cons (xd_op od_ixT (x_var rfl rfl) (x_int rfl) ⟨_, _, _, rfl, rfl, rfl, rfl⟩) (ad_cons (x_var rfl rfl) ad_nil)) (sp_multiply (Sz.mono hs.1 (by decide : 1000 ≤ 4400)) (Sz.mono h0 (by decide : 1000 ≤ 4400)) rfl)) (ad_cons (xd_call (ad_cons (x_var rfl rfl) (ad_cons (xd_op od_ixT (x_var rfl rfl) (x_int rfl) ⟨_, _, _, rfl, rfl, rfl, rfl⟩) ad_nil)) (sp_divide (Sz.mono h1 (by decide : 1000 ≤ 4400)) (Sz.mono hs.1 (by decide : 1000 ≤ 4400)) ?_ rfl)) ad_nil)) (Nat.le_of_ble_eq_true rfl) rfl) hR
    exact hs.2
  | stop lo hi =>
    refine sd_when (td_test (xd_op od_eqS (xd_op od_ixT (x_var rfl rfl) (x_int rfl) ⟨_, _, _, rfl, rfl, rfl, rfl⟩) (x_str rfl) ⟨_, _, rfl, rfl, rfl⟩) rfl) (fun h => absurd h (by decide)) (fun _ => ?_)
    refine sd_when (td_test (xd_op od_eqS (xd_op od_ixT (x_var rfl rfl) (x_int rfl) ⟨_, _, _, rfl, rfl, rfl, rfl⟩) (x_str rfl) ⟨_, _, rfl, rfl, rfl⟩) rfl) (fun h => absurd h (by decide)) (fun _ => ?_)
    refine sd_when (td_test (xd_op od_eqS (xd_op od_ixT (x_var rfl rfl) (x_int rfl) ⟨_, _, _, rfl, rfl, rfl, rfl⟩) (x_str rfl) ⟨_, _, rfl, rfl, rfl⟩) rfl) (fun h => absurd h (by decide)) (fun _ => ?_)
    refine sd_when (td_test (xd_op od_eqS (xd_op od_ixT (x_var rfl rfl) (x_int rfl) ⟨_, _, _, rfl, rfl, rfl, rfl⟩) (x_str rfl) ⟨_, _, rfl, rfl, rfl⟩) rfl) (fun h => absurd h (by decide)) (fun _ => ?_)
    have hR : R (dOR (if stopB lo hi r.1 then some r else none)) := hR
    refine sd_when (td_B (xd_call (ad_cons (x_var rfl rfl) (ad_cons (x_var rfl rfl) ad_nil)) (sp_passes_stop hs h0 rfl)) rfl) (fun hc => ?_) (fun hc => ?_)
    · rw [if_pos hc] at hR
      exact sd_ret (x_var (d := dR r) rfl rfl) hR
    · rw [hc, if_neg (by decide)] at hR
      exact sd_ret (x_non rfl) hR
def exitR : List El → Rat × Rat → Option (Rat × Rat)
  | [], r => some r
  | e :: t, r => match gone e r with
    | some r' => exitR t r'
    | none => none
/-- the ray's data are short on its way -/
def RayOk (t : List El) (r : Rat × Rat) : Prop := (∀ e ∈ t, e.Sz 400) ∧ t.length ≤ 100 ∧ ∀ i, RSz 1000 ((tmap (t.take i)).app r)
theorem then_app (m n : Mp) (r : Rat × Rat) : (m.then n).app r = n.app (m.app r) := by
  unfold Mp.then Mp.app
  exact Prod.ext (by dsimp only; grind) (by dsimp only; grind)
theorem one_app (r : Rat × Rat) : Mp.one.app r = r := by
  unfold Mp.one Mp.app
  exact Prod.ext (by dsimp only; grind) (by dsimp only; grind)
theorem gone_app {e : El} {r r' : Rat × Rat} (h : gone e r = some r') : r' = e.map.app r := by
  cases e with
  | stop lo hi =>
    have h : (if stopB lo hi r.1 then some r else none) = some r' := h
    by_cases q : stopB lo hi r.1 = true
    · rw [if_pos q] at h
      cases h
      exact (one_app r).symm
    · rw [if_neg q] at h
      cases h
  | gap l => exact (Option.some.inj h).symm
  | lens p o => exact (Option.some.inj h).symm
  | prism f => exact (Option.some.inj h).symm
  | afocal m => exact (Option.some.inj h).symm
def F_trace_ray (ds : List D) (R : D → Prop) : Prop := ∃ (t : List El) (r : Rat × Rat), ds = [dT t, dR r] ∧ RayOk t r ∧ (∀ l (i : Int), exitR t r = none → R (.tuple [.list l, .int i])) ∧ ∀ l r', exitR t r = some r' → atI l (-1) = some (dR r') → R (.tuple [.list l, .none])
theorem len_trace_ray : ∀ ds R, F_trace_ray ds R → ds.length = 2 := fun _ _ ⟨_, _, h, _⟩ => by rw [h]; rfl
theorem atI_last {α : Type} (l : List α) (x : α) : atI (l ++ [x]) (-1) = some x := by
  have e : ixN (l ++ [x]).length (-1) = some l.length := by
    unfold ixN
    rw [List.length_append, List.length_singleton, if_neg (by omega), if_pos (by omega)]
    congr 1
    omega
  unfold atI
  rw [e]
  show (l ++ [x])[l.length]? = some x
  rw [List.getElem?_append_right (Nat.le_refl _), Nat.sub_self]
  rfl
abbrev N_trace_ray : List Str := ["train", "ray", "rays", "index", "element", "later"]
theorem sc_trace_ray : FnScope N_trace_ray ["train", "ray"] (defScope (topS 62)) := ⟨rfl, rfl, rfl, by decide +kernel, rfl, by decide +kernel, by decide +kernel⟩
theorem ok_trace_ray (T : Tc P w K mg base cs) : Good P w K mg base cs "trace_ray" ["train", "ray"] 9 F_trace_ray := by
  obtain ⟨f, c, fd, D0, m0, t0⟩ := T.fn 47 _ rfl
  obtain ⟨f_gone_through, d_gone_through, m_gone_through, k_gone_through, b_gone_through, G_gone_through⟩ := ok_gone_through T
  have z_enumerate := T.fr "enumerate" (by decide)
  refine ⟨f, fd, m0, D0.kp, D0.funD.bindsN (fun _ _ _ _ _ _ us hl => match us, hl with | [_, _], _ => rfl), D0.ok sc_trace_ray (fun vs H Q E h => pm_len len_trace_ray h) (fun A outer s H vs Q E hr h => ⟨_, (pss_cons (ps_set (i := 2) sc_trace_ray.nd rfl (.inl rfl) (pe_lst (pa_cons (pv 1) pa_nil)))
      (pss_cons (ps_for PassesOwn.never rfl (pi_enum rfl z_enumerate (pa_cons (pv 0) pa_nil)) (pg_tup rfl (pgs_cons (pg_name (i := 3) sc_trace_ray.nd rfl (.inl rfl)) (pgs_cons (pg_name (i := 4) sc_trace_ray.nd rfl (.inl rfl)) pgs_nil))) (pss_cons (ps_set (i := 5) sc_trace_ray.nd rfl (.inl rfl) (pe_call G_gone_through (hr.mono (by decide)) rfl m_gone_through k_gone_through b_gone_through .nil pass0 (pa_cons (pv 4) (pa_cons (pe_ix (r := rIxL K) L2.ix_list (pv 2) (pe_un un_neg pe_int) (fun _ _ => rfl)) pa_nil))))
      (pss_cons (ps_if (pt_cmp (pc_isN (pv 5))) (pss_one (ps_ret (pe_tup (pa_cons (pv 2) (pa_cons (pv 3) pa_nil))))) pss_nil)
      (pss_one (ps_expr (pe_bm PySem.F.plainAttrs_list PySem.F.slot_list_append PySem.F.type_list_append mt_append (pv 2) (pa_cons (pv 5) pa_nil)))))))
      (pss_one (ps_ret (pe_tup (pa_cons (pv 2) (pa_cons pe_non pa_nil))))))), pm_body rfl ?_ h⟩)⟩
  intro ds R hF
  obtain ⟨t, r, rfl, ⟨hs, ht, hm⟩, hN, hS⟩ := hF
  refine s_seq (s_newL (ad_cons (x_var (d := dR r) rfl rfl) ad_nil) (Nat.le_of_ble_eq_true rfl) ?_)
  try simp only [entG, setG, List.map_cons, List.map_nil, List.cons_append, List.nil_append, List.length_cons, List.length_nil, Nat.reduceAdd, Nat.reduceSub, List.replicate_succ, List.replicate_zero, List.set_cons_zero, List.set_cons_succ]
  refine s_seq (sd_for (ixd_enum (ad_cons (x_var (d := dT t) rfl rfl) ad_nil)) (tg_tup (js := [3, 4]) rfl) (fun i Γ => ∃ (l : List D) (z1 z2 z3 : Sl), Γ = [.val (dT t), .val (dR r), .own (l ++ [dR ((tmap (t.take i)).app r)]), z1, z2, z3] ∧ l.length ≤ i ∧ i ≤ t.length ∧ exitR t r = exitR (t.drop i) ((tmap (t.take i)).app r)) ⟨[], .no, .no, .no, by rw [List.take_zero]; unfold tmap; rw [List.foldl_nil, one_app]; rfl, Nat.le_refl _, Nat.zero_le _, by rw [List.take_zero, List.drop_zero]; unfold tmap; rw [List.foldl_nil, one_app]⟩ ?_ ?_)
  · rintro i d Γ' hd ⟨l, z1, z2, z3, rfl, hl, hi, he⟩
    obtain ⟨d1, hd1, rfl⟩ := enumD_get hd
    obtain ⟨e, ee, rfl⟩ := gmapE hd1
    have me := List.mem_of_getElem? ee
    have hi2 : i < t.length := (List.getElem?_eq_some_iff.mp ee).1
    refine ⟨_, rfl, ?_⟩
    try simp only [entG, setG, List.map_cons, List.map_nil, List.cons_append, List.nil_append, List.length_cons, List.length_nil, Nat.reduceAdd, Nat.reduceSub, List.replicate_succ, List.replicate_zero, List.set_cons_zero, List.set_cons_succ]
    have hdrop : t.drop i = e :: t.drop (i + 1) := by
      rw [List.drop_eq_getElem_cons hi2]
      congr 1
      exact (List.getElem?_eq_some_iff.mp ee).2
    rw [hdrop] at he
    refine sd_set (xd_call (ad_cons (x_var (d := dE e) rfl rfl) (ad_cons (x_ixOwn (i := 2) rfl (xd_neg (x_int rfl)) (atI_last _ _) rfl) ad_nil)) ⟨e, _, rfl, (hs e me).mono (by decide), hm i, rfl⟩) ?_
    try simp only [entG, setG, List.map_cons, List.map_nil, List.cons_append, List.nil_append, List.length_cons, List.length_nil, Nat.reduceAdd, Nat.reduceSub, List.replicate_succ, List.replicate_zero, List.set_cons_zero, List.set_cons_succ]
    cases hg : gone e ((tmap (t.take i)).app r) with
    | none =>
      have hx : exitR t r = none := by rw [he]; unfold exitR; rw [hg]
      refine sd_when (td_B (xd_isN (x_var rfl rfl)) rfl) (fun _ => ?_) (fun h => by cases h)
      refine s_show (i := 2) rfl (sd_ret (xd_tup (ad_cons (x_var rfl rfl) (ad_cons (x_var rfl rfl) ad_nil)) (Nat.le_of_ble_eq_true rfl) rfl) (hN _ _ hx))
    | some r' =>
      have hx : exitR t r = exitR (t.drop (i + 1)) r' := by rw [he]; conv => lhs; unfold exitR; rw [hg]
      have er : r' = (tmap (t.take (i + 1))).app r := by rw [take_snoc ee, tmap_snoc, then_app]; exact gone_app hg
      refine sd_when (td_B (xd_isN (x_var rfl rfl)) rfl) (fun h => by cases h) (fun _ => ?_)
      refine sd_app (i := 2) rfl (by rw [List.length_append, List.length_singleton]; omega) (x_var (d := dR r') rfl rfl) ⟨l ++ [dR ((tmap (t.take i)).app r)], .val (.int (i : Int)), .val (dE e), .val (dR r'), by rw [← er]; rfl, by rw [List.length_append, List.length_singleton]; omega, hi2, by rw [← er]; exact hx⟩
  · rintro Γ' ⟨l, z1, z2, z3, rfl, hl, hi, he⟩
    rw [enumD_length, List.length_map] at he ⊢
    rw [List.drop_length] at he
    refine s_show (i := 2) rfl (sd_ret (xd_tup (ad_cons (x_var rfl rfl) (ad_cons (x_non rfl) ad_nil)) (Nat.le_of_ble_eq_true rfl) rfl) (hS _ _ he (atI_last _ _)))
def F_exit_ray (ds : List D) (R : D → Prop) : Prop := ∃ (t : List El) (r : Rat × Rat), ds = [dT t, dR r] ∧ RayOk t r ∧ R (dOR (exitR t r))
theorem len_exit_ray : ∀ ds R, F_exit_ray ds R → ds.length = 2 := fun _ _ ⟨_, _, h, _⟩ => by rw [h]; rfl
theorem sp_exit_ray {t : List El} {r : Rat × Rat} {R : D → Prop} (h : RayOk t r) (k : R (dOR (exitR t r))) : F_exit_ray [dT t, dR r] R := ⟨t, r, rfl, h, k⟩
abbrev N_exit_ray : List Str := ["train", "ray", "rays", "blocked"]
theorem sc_exit_ray : FnScope N_exit_ray ["train", "ray"] (defScope (topS 63)) := ⟨rfl, rfl, rfl, by decide +kernel, rfl, by decide +kernel, by decide +kernel⟩
theorem ok_exit_ray (T : Tc P w K mg base cs) : Good P w K mg base cs "exit_ray" ["train", "ray"] 10 F_exit_ray := by
  obtain ⟨f, c, fd, D0, m0, t0⟩ := T.fn 48 _ rfl
  obtain ⟨f_trace_ray, d_trace_ray, m_trace_ray, k_trace_ray, b_trace_ray, G_trace_ray⟩ := ok_trace_ray T
  refine ⟨f, fd, m0, D0.kp, D0.funD.bindsN (fun _ _ _ _ _ _ us hl => match us, hl with | [_, _], _ => rfl), D0.ok sc_exit_ray (fun vs H Q E h => pm_len len_exit_ray h) (fun A outer s H vs Q E hr h => ⟨_, (pss_cons (ps_asg (pe_call G_trace_ray (hr.mono (by decide)) rfl m_trace_ray k_trace_ray b_trace_ray .nil pass0 (pa_cons (pv 0) (pa_cons (pv 1) pa_nil))) (pg_tup rfl (pgs_cons (pg_name (i := 2) sc_exit_ray.nd rfl (.inl rfl)) (pgs_cons (pg_name (i := 3) sc_exit_ray.nd rfl (.inl rfl)) pgs_nil))))
      (pss_cons (ps_if (pt_cmp (pc_isN (pv 3))) (pss_one (ps_ret (pe_ix (r := rIxL K) L2.ix_list (pv 2) (pe_un un_neg pe_int) (fun _ _ => rfl)))) pss_nil)
      (pss_one (ps_ret pe_non)))), pm_body rfl ?_ h⟩)⟩
  intro ds R hF
  obtain ⟨t, r, rfl, h, hR⟩ := hF
  refine s_seq (s_unp (Ra := fun d => (∃ l i, exitR t r = none ∧ d = .tuple [.list l, .int i]) ∨ ∃ l r', exitR t r = some r' ∧ atI l (-1) = some (dR r') ∧ d = .tuple [.list l, .none]) (tg_tup (js := [2, 3]) rfl) (xd_call (ad_cons (x_var (d := dT t) rfl rfl) (ad_cons (x_var (d := dR r) rfl rfl) ad_nil)) ⟨t, r, rfl, h, fun l i e => .inl ⟨l, i, e, rfl⟩, fun l r' e a => .inr ⟨l, r', e, a, rfl⟩⟩) fun d hd => ?_)
  rcases hd with ⟨l, i, e, rfl⟩ | ⟨l, r', e, a, rfl⟩
  · rw [e] at hR
    refine ⟨_, rfl, ?_⟩
    try simp only [entG, setG, List.map_cons, List.map_nil, List.cons_append, List.nil_append, List.length_cons, List.length_nil, Nat.reduceAdd, Nat.reduceSub, List.replicate_succ, List.replicate_zero, List.set_cons_zero, List.set_cons_succ]
    exact sd_when (td_B (xd_isN (x_var rfl rfl)) rfl) (fun h => by cases h) (fun _ => sd_ret (x_non rfl) hR)
  · rw [e] at hR
    refine ⟨_, rfl, ?_⟩
    try simp only [entG, setG, List.map_cons, List.map_nil, List.cons_append, List.nil_append, List.length_cons, List.length_nil, Nat.reduceAdd, Nat.reduceSub, List.replicate_succ, List.replicate_zero, List.set_cons_zero, List.set_cons_succ]
    exact sd_when (td_B (xd_isN (x_var rfl rfl)) rfl) (fun _ => sd_ret (xd_op od_ixL (x_var (d := .list l) rfl rfl) (xd_neg (x_int rfl)) ⟨_, _, _, rfl, rfl, a, rfl⟩) hR) (fun h => by cases h)
end Rt
set_option Elab.async false
set_option linter.all false
set_option maxRecDepth 100000
set_option maxHeartbeats 4000000
set_option exponentiation.threshold 100000
/-! The walk, part 8: resonators, corners. -/
namespace Rt
open PySem PySem.Spec PyProof.Rows L2 GxR Gx RZ
variable {P : Program} {w : World} {K : PySem.W.Frag} {mg : Str → Option Value} {base : Heap} {cs : List Addr}
def F_trace_of (ds : List D) (R : D → Prop) : Prop := ∃ m : Mp, ds = [dM m] ∧ m.Sz 1000 ∧ R (dQ (m.a + m.d))
theorem len_trace_of : ∀ ds R, F_trace_of ds R → ds.length = 1 := fun _ _ ⟨_, h, _⟩ => by rw [h]; rfl
theorem sp_trace_of {m : Mp} {R : D → Prop} (h : m.Sz 1000) (k : R (dQ (m.a + m.d))) : F_trace_of [dM m] R := ⟨m, rfl, h, k⟩
abbrev N_trace_of : List Str := ["transfer"]
theorem sc_trace_of : FnScope N_trace_of ["transfer"] (defScope (topS 65)) := ⟨rfl, rfl, rfl, by decide +kernel, rfl, by decide +kernel, by decide +kernel⟩
theorem ok_trace_of (T : Tc P w K mg base cs) : Good P w K mg base cs "trace_of" ["transfer"] 4 F_trace_of := by
  obtain ⟨f, c, fd, D0, m0, t0⟩ := T.fn 49 _ rfl
  obtain ⟨f_add, d_add, m_add, k_add, b_add, G_add⟩ := ok_add T
  refine ⟨f, fd, m0, D0.kp, D0.funD.bindsN (fun _ _ _ _ _ _ us hl => match us, hl with | [_], _ => rfl), D0.ok sc_trace_of (fun vs H Q E h => pm_len len_trace_of h) (fun A outer s H vs Q E hr h => ⟨_, (pss_one (ps_ret (pe_call G_add (hr.mono (by decide)) rfl m_add k_add b_add .nil pass0 (pa_cons (pe_ix (r := rIxT K) L2.ix_tup (pv 0) pe_int (fun _ _ => rfl)) (pa_cons (pe_ix (r := rIxT K) L2.ix_tup (pv 0) pe_int (fun _ _ => rfl)) pa_nil))))), pm_body rfl ?_ h⟩)⟩
  intro ds R hF
  obtain ⟨m, rfl, hm, hR⟩ := hF
  exact sd_ret (xd_call (ad_cons (xd_op od_ixT (x_var rfl rfl) (x_int rfl) ⟨_, _, _, rfl, rfl, rfl, rfl⟩) (ad_cons (xd_op od_ixT (x_var rfl rfl) (x_int rfl) ⟨_, _, _, rfl, rfl, rfl, rfl⟩) ad_nil)) (sp_add (Sz.mono hm.1 (by decide : 1000 ≤ 4400)) (Sz.mono hm.2.2.2.1 (by decide : 1000 ≤ 4400)) rfl)) hR
/-- the n-th power of a map -/
def npow (m : Mp) : Nat → Mp
  | 0 => Mp.one
  | n + 1 => (npow m n).then m
theorem then_assoc (m n k : Mp) : (m.then n).then k = m.then (n.then k) := by
  unfold Mp.then
  simp only [Mp.mk.injEq]
  refine ⟨?_, ?_, ?_, ?_, ?_, ?_⟩ <;> grind
theorem then_one (m : Mp) : m.then Mp.one = m := by
  obtain ⟨a, b, c, d, e, f⟩ := m
  unfold Mp.then Mp.one
  simp only [Mp.mk.injEq]
  refine ⟨?_, ?_, ?_, ?_, ?_, ?_⟩ <;> grind
theorem one_then (m : Mp) : Mp.one.then m = m := by
  obtain ⟨a, b, c, d, e, f⟩ := m
  unfold Mp.then Mp.one
  simp only [Mp.mk.injEq]
  refine ⟨?_, ?_, ?_, ?_, ?_, ?_⟩ <;> grind
theorem npow_add (m : Mp) (a : Nat) : ∀ b, (npow m a).then (npow m b) = npow m (a + b)
  | 0 => then_one _
  | b + 1 => by
    show (npow m a).then ((npow m b).then m) = (npow m (a + b)).then m
    rw [← then_assoc, npow_add m a b]
theorem npow_one (m : Mp) : npow m 1 = m := one_then m
def F_power_of (ds : List D) (R : D → Prop) : Prop := ∃ (m : Mp) (n : Nat), ds = [dM m, .int (n : Int)] ∧ n ≤ 1000 ∧ (∀ k, k ≤ 2 * n → (npow m k).Sz 1000) ∧ R (dM (npow m n))
theorem len_power_of : ∀ ds R, F_power_of ds R → ds.length = 2 := fun _ _ ⟨_, _, h, _⟩ => by rw [h]; rfl
theorem sp_power_of {m : Mp} {n : Nat} {R : D → Prop} (hn : n ≤ 1000) (h : ∀ k, k ≤ 2 * n → (npow m k).Sz 1000) (k : R (dM (npow m n))) : F_power_of [dM m, .int (n : Int)] R := ⟨m, n, rfl, hn, h, k⟩
abbrev N_power_of : List Str := ["transfer", "many", "found", "square"]
theorem sc_power_of : FnScope N_power_of ["transfer", "many"] (defScope (topS 66)) := ⟨rfl, rfl, rfl, by decide +kernel, rfl, by decide +kernel, by decide +kernel⟩
theorem ok_power_of (T : Tc P w K mg base cs) : Good P w K mg base cs "power_of" ["transfer", "many"] 6 F_power_of := by
  obtain ⟨f, c, fd, D0, m0, t0⟩ := T.fn 50 _ rfl
  obtain ⟨f_compose_maps, d_compose_maps, m_compose_maps, k_compose_maps, b_compose_maps, G_compose_maps⟩ := ok_compose_maps T
  obtain ⟨a_IDENTITY, m_IDENTITY, q_IDENTITY⟩ := T.ident
  refine ⟨f, fd, m0, D0.kp, D0.funD.bindsN (fun _ _ _ _ _ _ us hl => match us, hl with | [_, _], _ => rfl), D0.ok sc_power_of (fun vs H Q E h => pm_len len_power_of h) (fun A outer s H vs Q E hr h => ⟨_, (pss_cons (ps_set (i := 2) sc_power_of.nd rfl (.inl rfl) (pe_glob (v := .ref a_IDENTITY) rfl m_IDENTITY rfl))
      (pss_cons (ps_set (i := 3) sc_power_of.nd rfl (.inl rfl) (pv 0))
      (pss_cons (ps_while PassesOwn.never (pt_cmpR op_gt (pv 1) pe_int (nomark _)) (pss_cons (ps_if (pt_cmpR op_eq (pe_op op_modN (pv 1) pe_int) pe_int (nomark _)) (pss_one (ps_set (i := 2) sc_power_of.nd rfl (.inl rfl) (pe_call G_compose_maps (hr.mono (by decide)) rfl m_compose_maps k_compose_maps b_compose_maps .nil pass0 (pa_cons (pv 2) (pa_cons (pv 3) pa_nil))))) pss_nil)
      (pss_cons (ps_set (i := 3) sc_power_of.nd rfl (.inl rfl) (pe_call G_compose_maps (hr.mono (by decide)) rfl m_compose_maps k_compose_maps b_compose_maps .nil pass0 (pa_cons (pv 3) (pa_cons (pv 3) pa_nil))))
      (pss_one (ps_aug (i := 1) sc_power_of.nd rfl (.inl rfl) pe_int iop_fdivW)))))
      (pss_one (ps_ret (pv 2)))))), pm_body rfl ?_ h⟩)⟩
  intro ds R hF
  obtain ⟨m, n0, rfl, hn0, hs, hR⟩ := hF
  refine sd_set (x_con q_IDENTITY rfl) ?_
  try simp only [entG, setG, List.map_cons, List.map_nil, List.cons_append, List.nil_append, List.length_cons, List.length_nil, Nat.reduceAdd, Nat.reduceSub, List.replicate_succ, List.replicate_zero, List.set_cons_zero, List.set_cons_succ]
  refine sd_set (x_var rfl rfl) ?_
  try simp only [entG, setG, List.map_cons, List.map_nil, List.cons_append, List.nil_append, List.length_cons, List.length_nil, Nat.reduceAdd, Nat.reduceSub, List.replicate_succ, List.replicate_zero, List.set_cons_zero, List.set_cons_succ]
  refine s_seq (s_while (fun n Γ => ∃ f s : Nat, Γ = [.val (dM m), .val (.int (n : Int)), .val (dM (npow m f)), .val (dM (npow m s))] ∧ f + s * n = n0 ∧ s ≤ 2 * n0 + 1 ∧ f ≤ n0) n0 ⟨0, 1, by rw [npow_one]; rfl, by omega, by omega, by omega⟩ ?_)
  rintro n Γ' ⟨f, s, rfl, hfs, hs2, hf⟩
  refine ⟨_, (td_test (xd_op od_B0 (x_var rfl rfl) (x_int rfl) ⟨_, _, rfl, rfl, rfl⟩) rfl), fun ht => ?_, fun hf' => ?_⟩
  · have hn : 0 < n := by have := of_decide_eq_true ht; omega
    have hsn : s ≤ n0 := by
      have : s * 1 ≤ s * n := Nat.mul_le_mul_left s hn
      omega
    have last : ∀ (f' : Nat) (Γ : Gm), Γ = [.val (dM m), .val (.int (n : Int)), .val (dM (npow m f')), .val (dM (npow m s))] → f' + s * (2 * (n / 2)) = n0 → f' ≤ n0 → Sx K cs (tSeq (tAsg (tCall (Pm K cs F_compose_maps) [] E0 (tCons (tVar 3) (tCons (tVar 3) tNil))) (gName 3)) (tAug 1 (tC (.int 2)) (rI CDivW fun i j => .int (i / j)))) Γ
        (fun Γ'' => ∃ m' , m' < n ∧ ∃ f s : Nat, Γ'' = [.val (dM m), .val (.int (m' : Int)), .val (dM (npow m f)), .val (dM (npow m s))] ∧ f + s * m' = n0 ∧ s ≤ 2 * n0 + 1 ∧ f ≤ n0) R := by
      rintro f' Γ rfl hf1 hf2
      refine sd_set (d := dM (npow m (s + s))) (xd_call (ad_cons (x_var rfl rfl) (ad_cons (x_var rfl rfl) ad_nil)) (sp_compose_maps (hs s (by omega)) (hs s (by omega)) (by rw [npow_add]))) ?_
      try simp only [entG, setG, List.map_cons, List.map_nil, List.cons_append, List.nil_append, List.length_cons, List.length_nil, Nat.reduceAdd, Nat.reduceSub, List.replicate_succ, List.replicate_zero, List.set_cons_zero, List.set_cons_succ]
      refine s_augC (i := 1) (a := (n : Int)) (b := 2) rfl (x_int rfl) ⟨by decide, by decide⟩ ⟨n / 2, by omega, f', s + s, ?_, ?_, by omega, hf2⟩
      · show [Sl.val (dM m), Sl.val (.int ((n : Int) / 2)), _, _] = _
        rw [show ((n / 2 : Nat) : Int) = (n : Int) / 2 from Int.natCast_ediv n 2]
      · rw [← hf1, Nat.add_mul]
        have : s * (2 * (n / 2)) = s * (n / 2) + s * (n / 2) := by rw [Nat.two_mul, Nat.mul_add]
        omega
    have em : ((n : Int).fmod 2) = ((n % 2 : Nat) : Int) := by
      rw [Int.fmod_eq_emod_of_nonneg _ (by decide)]
      rfl
    refine s_when (P := fun b => b = decide (n % 2 = 1)) ((td_test (xd_op od_eqI (xd_op od_I (x_var rfl rfl) (x_int rfl) ⟨_, _, rfl, rfl, by decide, rfl⟩) (x_int rfl) ⟨_, _, rfl, rfl, rfl⟩) rfl).mono fun b e => ?_) (fun hc => ?_) (fun hc => ?_)
    · rw [← e, em]
      exact decide_eq_decide.mpr (by omega)
    · have h1 : n % 2 = 1 := of_decide_eq_true hc.symm
      have h3 : s * n = s * (2 * (n / 2)) + s := by
        have : n = 2 * (n / 2) + 1 := by omega
        conv => lhs; rw [this, Nat.mul_add, Nat.mul_one]
      exact sd_asg (d := dM (npow m (f + s))) (xd_call (ad_cons (x_var rfl rfl) (ad_cons (x_var rfl rfl) ad_nil)) (sp_compose_maps (hs f (by omega)) (hs s (by omega)) (by rw [npow_add]))) (last (f + s) _ rfl (by omega) (by omega))
    · have h1 : ¬ n % 2 = 1 := of_decide_eq_false hc.symm
      have h3 : s * n = s * (2 * (n / 2)) := by
        have : n = 2 * (n / 2) := by omega
        conv => lhs; rw [this]
      exact last f _ rfl (by omega) hf
  · have hn : n = 0 := by have := of_decide_eq_false hf'; omega
    subst hn
    have e : f = n0 := by omega
    subst e
    exact sd_ret (x_var rfl rfl) hR
def F_order_of (ds : List D) (R : D → Prop) : Prop := ∃ m : Mp, ds = [dM m] ∧ (∀ k, k ≤ 12 → (npow m k).Sz 1000) ∧ R .none ∧ ∀ n : Nat, 0 < n → n ≤ 6 → npow m n = Mp.one → R (.int (n : Int))
theorem len_order_of : ∀ ds R, F_order_of ds R → ds.length = 1 := fun _ _ ⟨_, h, _⟩ => by rw [h]; rfl
abbrev N_order_of : List Str := ["transfer", "many"]
theorem sc_order_of : FnScope N_order_of ["transfer"] (defScope (topS 67)) := ⟨rfl, rfl, rfl, by decide +kernel, rfl, by decide +kernel, by decide +kernel⟩
theorem ok_order_of (T : Tc P w K mg base cs) : Good P w K mg base cs "order_of" ["transfer"] 7 F_order_of := by
  obtain ⟨f, c, fd, D0, m0, t0⟩ := T.fn 51 _ rfl
  obtain ⟨f_power_of, d_power_of, m_power_of, k_power_of, b_power_of, G_power_of⟩ := ok_power_of T
  obtain ⟨a_IDENTITY, m_IDENTITY, q_IDENTITY⟩ := T.ident
  refine ⟨f, fd, m0, D0.kp, D0.funD.bindsN (fun _ _ _ _ _ _ us hl => match us, hl with | [_], _ => rfl), D0.ok sc_order_of (fun vs H Q E h => pm_len len_order_of h) (fun A outer s H vs Q E hr h => ⟨_, (pss_cons (ps_for PassesOwn.never rfl (pi_list (pe_lst (pa_cons pe_int (pa_cons pe_int (pa_cons pe_int (pa_cons pe_int (pa_cons pe_int pa_nil))))))) (pg_name (i := 1) sc_order_of.nd rfl (.inl rfl)) (pss_one (ps_if (pt_cmpR (op_eqD hr.units) (pe_call G_power_of (hr.mono (by decide)) rfl m_power_of k_power_of b_power_of .nil pass0 (pa_cons (pv 0) (pa_cons (pv 1) pa_nil))) (pe_glob (v := .ref a_IDENTITY) rfl m_IDENTITY rfl) (nomark _)) (pss_one (ps_ret (pv 1))) pss_nil)))
      (pss_one (ps_ret pe_non))), pm_body rfl ?_ h⟩)⟩
  intro ds R hF
  obtain ⟨m, rfl, hs, h0, hR⟩ := hF
  refine s_seq (sd_for (ixd_list (ds := [.int 1, .int 2, .int 3, .int 4, .int 6]) (xd_lst (ad_cons (x_int rfl) (ad_cons (x_int rfl) (ad_cons (x_int rfl) (ad_cons (x_int rfl) (ad_cons (x_int rfl) ad_nil))))) (Nat.le_of_ble_eq_true rfl) rfl)) tg_name (fun i Γ => ∃ z, Γ = [.val (dM m), z]) ⟨_, rfl⟩ ?_ ?_)
  · rintro i d Γ' hd ⟨z, rfl⟩
    have hn : ∃ n : Nat, d = .int (n : Int) ∧ 0 < n ∧ n ≤ 6 := by
      have := List.mem_of_getElem? hd
      simp only [List.mem_cons, List.not_mem_nil, or_false] at this
      rcases this with rfl | rfl | rfl | rfl | rfl
      · exact ⟨1, rfl, by decide, by decide⟩
      · exact ⟨2, rfl, by decide, by decide⟩
      · exact ⟨3, rfl, by decide, by decide⟩
      · exact ⟨4, rfl, by decide, by decide⟩
      · exact ⟨6, rfl, by decide, by decide⟩
    obtain ⟨n, rfl, n0, n6⟩ := hn
    refine ⟨_, rfl, ?_⟩
    try simp only [entG, setG, List.map_cons, List.map_nil, List.cons_append, List.nil_append, List.length_cons, List.length_nil, Nat.reduceAdd, Nat.reduceSub, List.replicate_succ, List.replicate_zero, List.set_cons_zero, List.set_cons_succ]
    refine sd_if (td_test (xd_op od_eqD (xd_call (ad_cons (x_var (d := dM m) rfl rfl) (ad_cons (x_var (d := .int (n : Int)) rfl rfl) ad_nil)) (sp_power_of (by omega) (fun k hk => hs k (by omega)) rfl)) (x_con (d := dM Mp.one) q_IDENTITY rfl) ⟨rfl, rfl, rfl⟩) rfl) (fun hc => sd_ret (x_var rfl rfl) (hR n n0 n6 ((eqv_M _ _).mp hc))) (fun _ => s_next ⟨_, rfl⟩)
  · rintro Γ' ⟨z, rfl⟩
    exact sd_ret (x_non rfl) h0
def fixR (m : Mp) : Option (Rat × Rat) := if 2 - (m.a + m.d) = 0 then none else some (((1 - m.d) * m.e + m.b * m.f) / (2 - (m.a + m.d)), ((1 - m.a) * m.f + m.c * m.e) / (2 - (m.a + m.d)))
def F_fixed_ray (ds : List D) (R : D → Prop) : Prop := ∃ m : Mp, ds = [dM m] ∧ m.Sz 400 ∧ R (dOR (fixR m))
theorem len_fixed_ray : ∀ ds R, F_fixed_ray ds R → ds.length = 1 := fun _ _ ⟨_, h, _⟩ => by rw [h]; rfl
theorem sp_fixed_ray {m : Mp} {R : D → Prop} (h : m.Sz 400) (k : R (dOR (fixR m))) : F_fixed_ray [dM m] R := ⟨m, rfl, h, k⟩
theorem Mp.Sz.mono {n k : Nat} {m : Mp} (h : m.Sz n) (e : n ≤ k) : m.Sz k := ⟨h.1.mono e, h.2.1.mono e, h.2.2.1.mono e, h.2.2.2.1.mono e, h.2.2.2.2.1.mono e, h.2.2.2.2.2.mono e⟩
abbrev N_fixed_ray : List Str := ["transfer", "a", "b", "c", "d", "e", "f", "share", "height", "slope"]
theorem sc_fixed_ray : FnScope N_fixed_ray ["transfer"] (defScope (topS 68)) := ⟨rfl, rfl, rfl, by decide +kernel, rfl, by decide +kernel, by decide +kernel⟩
theorem ok_fixed_ray (T : Tc P w K mg base cs) : Good P w K mg base cs "fixed_ray" ["transfer"] 5 F_fixed_ray := by
  obtain ⟨f, c, fd, D0, m0, t0⟩ := T.fn 52 _ rfl
  obtain ⟨f_divide, d_divide, m_divide, k_divide, b_divide, G_divide⟩ := ok_divide T
  obtain ⟨f_add, d_add, m_add, k_add, b_add, G_add⟩ := ok_add T
  obtain ⟨f_multiply, d_multiply, m_multiply, k_multiply, b_multiply, G_multiply⟩ := ok_multiply T
  obtain ⟨f_subtract, d_subtract, m_subtract, k_subtract, b_subtract, G_subtract⟩ := ok_subtract T
  obtain ⟨f_fraction, d_fraction, m_fraction, k_fraction, b_fraction, ⟨d1_fraction, v1_fraction, b1_fraction⟩, G_fraction⟩ := ok_fraction T
  obtain ⟨f_trace_of, d_trace_of, m_trace_of, k_trace_of, b_trace_of, G_trace_of⟩ := ok_trace_of T
  obtain ⟨a_TWO, m_TWO, q_TWO⟩ := T.two
  refine ⟨f, fd, m0, D0.kp, D0.funD.bindsN (fun _ _ _ _ _ _ us hl => match us, hl with | [_], _ => rfl), D0.ok sc_fixed_ray (fun vs H Q E h => pm_len len_fixed_ray h) (fun A outer s H vs Q E hr h => ⟨_, (pss_cons (ps_asg (pv 0) (pg_tup rfl (pgs_cons (pg_name (i := 1) sc_fixed_ray.nd rfl (.inl rfl)) (pgs_cons (pg_name (i := 2) sc_fixed_ray.nd rfl (.inl rfl)) (pgs_cons (pg_name (i := 3) sc_fixed_ray.nd rfl (.inl rfl)) (pgs_cons (pg_name (i := 4) sc_fixed_ray.nd rfl (.inl rfl)) (pgs_cons (pg_name (i := 5) sc_fixed_ray.nd rfl (.inl rfl)) (pgs_cons (pg_name (i := 6) sc_fixed_ray.nd rfl (.inl rfl)) pgs_nil))))))))
      (pss_cons (ps_set (i := 7) sc_fixed_ray.nd rfl (.inl rfl) (pe_call G_subtract (hr.mono (by decide)) rfl m_subtract k_subtract b_subtract .nil pass0 (pa_cons (pe_glob (v := .ref a_TWO) rfl m_TWO rfl) (pa_cons (pe_call G_trace_of (hr.mono (by decide)) rfl m_trace_of k_trace_of b_trace_of .nil pass0 (pa_cons (pv 0) pa_nil)) pa_nil))))
      (pss_cons (ps_if (pt_cmpR op_eq (pe_ix (r := rIxT K) L2.ix_tup (pv 7) pe_int (fun _ _ => rfl)) pe_int (nomark _)) (pss_one (ps_ret pe_non)) pss_nil)
      (pss_cons (ps_set (i := 8) sc_fixed_ray.nd rfl (.inl rfl) (pe_call G_divide (hr.mono (by decide)) rfl m_divide k_divide b_divide .nil pass0 (pa_cons (pe_call G_add (hr.mono (by decide)) rfl m_add k_add b_add .nil pass0 (pa_cons (pe_call G_multiply (hr.mono (by decide)) rfl m_multiply k_multiply b_multiply .nil pass0 (pa_cons (pe_call G_subtract (hr.mono (by decide)) rfl m_subtract k_subtract b_subtract .nil pass0 (pa_cons (pe_call G_fraction (hr.mono (by decide)) rfl m_fraction k_fraction b1_fraction v1_fraction pass0 (pa_cons pe_int pa_nil)) (pa_cons (pv 4) pa_nil))) (pa_cons (pv 5) pa_nil))) (pa_cons (pe_call G_multiply (hr.mono (by decide)) rfl m_multiply k_multiply b_multiply .nil pass0 (pa_cons (pv 2) (pa_cons (pv 6) pa_nil))) pa_nil))) (pa_cons (pv 7) pa_nil))))
      (pss_cons (ps_set (i := 9) sc_fixed_ray.nd rfl (.inl rfl) (pe_call G_divide (hr.mono (by decide)) rfl m_divide k_divide b_divide .nil pass0 (pa_cons (pe_call G_add (hr.mono (by decide)) rfl m_add k_add b_add .nil pass0 (pa_cons (pe_call G_multiply (hr.mono (by decide)) rfl m_multiply k_multiply b_multiply .nil pass0 (pa_cons (pe_call G_subtract (hr.mono (by decide)) rfl m_subtract k_subtract b_subtract .nil pass0 (pa_cons (pe_call G_fraction (hr.mono (by decide)) rfl m_fraction k_fraction b1_fraction v1_fraction pass0 (pa_cons pe_int pa_nil)) (pa_cons (pv 1) pa_nil))) (pa_cons (pv 6) pa_nil))) (pa_cons (pe_call G_multiply (hr.mono (by decide)) rfl m_multiply k_multiply b_multiply .nil pass0 (pa_cons (pv 3) (pa_cons (pv 5) pa_nil))) pa_nil))) (pa_cons (pv 7) pa_nil))))
      (pss_one (ps_ret (pe_tup (pa_cons (pv 8) (pa_cons (pv 9) pa_nil)))))))))), pm_body rfl ?_ h⟩)⟩
  intro ds R hF
  obtain ⟨m, rfl, hm, hR⟩ := hF
  obtain ⟨ha, hb, hc, hd, he, hf⟩ := hm
  have hm : m.Sz 400 := ⟨ha, hb, hc, hd, he, hf⟩
  have hsh : Sz 804 (2 - (m.a + m.d)) := Sz.sub (Sz.two (n := 2) (by decide)) (Sz.add ha hd)
  refine sd_unp (tg_tup (js := [1, 2, 3, 4, 5, 6]) rfl) (x_var (d := dM m) rfl rfl) rfl ?_
  try simp only [entG, setG, List.map_cons, List.map_nil, List.cons_append, List.nil_append, List.length_cons, List.length_nil, Nat.reduceAdd, Nat.reduceSub, List.replicate_succ, List.replicate_zero, List.set_cons_zero, List.set_cons_succ]
  refine sd_set (xd_call (ad_cons (x_con q_TWO rfl) (ad_cons (xd_call (ad_cons (x_var rfl rfl) ad_nil) (sp_trace_of (hm.mono (by decide)) rfl)) ad_nil)) (sp_subtract (Sz.mono (Sz.two (by decide)) (by decide : 2 ≤ 4400)) (Sz.mono (Sz.add ha hd) (by decide : 801 ≤ 4400)) rfl)) ?_
  try simp only [entG, setG, List.map_cons, List.map_nil, List.cons_append, List.nil_append, List.length_cons, List.length_nil, Nat.reduceAdd, Nat.reduceSub, List.replicate_succ, List.replicate_zero, List.set_cons_zero, List.set_cons_succ]
  unfold fixR at hR
  refine sd_when (td_test (xd_op od_eqI (xd_op od_ixT (x_var rfl rfl) (x_int rfl) ⟨_, _, _, rfl, rfl, rfl, rfl⟩) (x_int rfl) ⟨_, _, rfl, rfl, rfl⟩) rfl) (fun hq => ?_) (fun hq => ?_)
  · rw [if_pos (Rat.num_eq_zero.mp (of_decide_eq_true hq))] at hR
    exact sd_ret (x_non rfl) hR
  · have hz : ¬ 2 - (m.a + m.d) = 0 := fun z => of_decide_eq_false hq (Rat.num_eq_zero.mpr z)
    rw [if_neg hz] at hR
    refine sd_set (xd_call (ad_cons (xd_call (ad_cons (xd_call (ad_cons (xd_call (ad_cons (xd_callD (ad_cons (x_int rfl) ad_nil) (fun _ => .cons (.int _) .nil) (sp_fraction1 rfl)) (ad_cons (x_var rfl rfl) ad_nil)) (sp_subtract (Sz.mono (Sz.int (n := 1) (i := 1) (by decide) (by decide)) (by decide : 1 ≤ 4400)) (Sz.mono hd (by decide : 400 ≤ 4400)) rfl)) (ad_cons (x_var rfl rfl) ad_nil)) (sp_multiply (Sz.mono (Sz.sub (Sz.int (n := 1) (i := 1) (by decide) (by decide)) hd) (by decide : 402 ≤ 4400)) (Sz.mono he (by decide : 400 ≤ 4400)) rfl)) (ad_cons (xd_call (ad_cons (x_var rfl rfl) (ad_cons (x_var rfl rfl) ad_nil)) (sp_multiply (Sz.mono hb (by decide : 400 ≤ 4400)) (Sz.mono hf (by decide : 400 ≤ 4400)) rfl)) ad_nil)) (sp_add (Sz.mono (Sz.mul (Sz.sub (Sz.int (n := 1) (i := 1) (by decide) (by decide)) hd) he) (by decide : 802 ≤ 4400)) (Sz.mono (Sz.mul hb hf) (by decide : 800 ≤ 4400)) rfl)) (ad_cons (x_var rfl rfl) ad_nil)) (sp_divide (Sz.mono (Sz.add (Sz.mul (Sz.sub (Sz.one (n := 1) (by decide)) hd) he) (Sz.mul hb hf)) (by decide)) (hsh.mono (by decide)) hz rfl)) ?_
    try simp only [entG, setG, List.map_cons, List.map_nil, List.cons_append, List.nil_append, List.length_cons, List.length_nil, Nat.reduceAdd, Nat.reduceSub, List.replicate_succ, List.replicate_zero, List.set_cons_zero, List.set_cons_succ]
    refine sd_set (xd_call (ad_cons (xd_call (ad_cons (xd_call (ad_cons (xd_call (ad_cons (xd_callD (ad_cons (x_int rfl) ad_nil) (fun _ => .cons (.int _) .nil) (sp_fraction1 rfl)) (ad_cons (x_var rfl rfl) ad_nil)) (sp_subtract (Sz.mono (Sz.int (n := 1) (i := 1) (by decide) (by decide)) (by decide : 1 ≤ 4400)) (Sz.mono ha (by decide : 400 ≤ 4400)) rfl)) (ad_cons (x_var rfl rfl) ad_nil)) (sp_multiply (Sz.mono (Sz.sub (Sz.int (n := 1) (i := 1) (by decide) (by decide)) ha) (by decide : 402 ≤ 4400)) (Sz.mono hf (by decide : 400 ≤ 4400)) rfl)) (ad_cons (xd_call (ad_cons (x_var rfl rfl) (ad_cons (x_var rfl rfl) ad_nil)) (sp_multiply (Sz.mono hc (by decide : 400 ≤ 4400)) (Sz.mono he (by decide : 400 ≤ 4400)) rfl)) ad_nil)) (sp_add (Sz.mono (Sz.mul (Sz.sub (Sz.int (n := 1) (i := 1) (by decide) (by decide)) ha) hf) (by decide : 802 ≤ 4400)) (Sz.mono (Sz.mul hc he) (by decide : 800 ≤ 4400)) rfl)) (ad_cons (x_var rfl rfl) ad_nil)) (sp_divide (Sz.mono (Sz.add (Sz.mul (Sz.sub (Sz.one (n := 1) (by decide)) ha) hf) (Sz.mul hc he)) (by decide)) (hsh.mono (by decide)) hz rfl)) ?_
    try simp only [entG, setG, List.map_cons, List.map_nil, List.cons_append, List.nil_append, List.length_cons, List.length_nil, Nat.reduceAdd, Nat.reduceSub, List.replicate_succ, List.replicate_zero, List.set_cons_zero, List.set_cons_succ]
    exact sd_ret (xd_tup (ad_cons (x_var rfl rfl) (ad_cons (x_var rfl rfl) ad_nil)) (Nat.le_of_ble_eq_true rfl) rfl) hR
/-- how often a ray passes, at most n times -/
def passN (t : List El) : Rat × Rat → Nat → Nat
  | _, 0 => 0
  | r, n + 1 => match exitR t r with
    | some r' => passN t r' n + 1
    | none => 0
theorem passN_succ (t : List El) (r : Rat × Rat) (n : Nat) : passN t r (n + 1) = match exitR t r with | some r' => passN t r' n + 1 | none => 0 := rfl
def F_passes (ds : List D) (R : D → Prop) : Prop := ∃ (t : List El) (r : Rat × Rat) (n : Nat), ds = [dT t, dR r, .int (n : Int)] ∧ (∀ k, k < n → RayOk t ((npow (tmap t) k).app r)) ∧ R (.int (passN t r n : Int))
theorem len_passes : ∀ ds R, F_passes ds R → ds.length = 3 := fun _ _ ⟨_, _, _, h, _⟩ => by rw [h]; rfl
theorem sp_passes {t : List El} {r : Rat × Rat} {n : Nat} {R : D → Prop} (h : ∀ k, k < n → RayOk t ((npow (tmap t) k).app r)) (k : R (.int (passN t r n : Int))) : F_passes [dT t, dR r, .int (n : Int)] R := ⟨t, r, n, rfl, h, k⟩
theorem tmap_cons (e : El) (t : List El) : tmap (e :: t) = e.map.then (tmap t) := by
  have key : ∀ (t : List El) (m : Mp), t.foldl (fun m e => m.then e.map) m = m.then (t.foldl (fun m e => m.then e.map) Mp.one) := by
    intro t
    induction t with
    | nil => intro m; exact (then_one m).symm
    | cons x t ih =>
      intro m
      rw [List.foldl_cons, List.foldl_cons, ih, ih (Mp.one.then x.map), one_then, then_assoc]
  unfold tmap
  rw [List.foldl_cons, key, one_then]
theorem exitR_app : ∀ {t : List El} {r r' : Rat × Rat}, exitR t r = some r' → r' = (tmap t).app r
  | [], r, r', h => by
    cases h
    exact (one_app r).symm
  | e :: t, r, r', h => by
    unfold exitR at h
    cases g : gone e r with
    | none =>
      rw [g] at h
      cases h
    | some q =>
      rw [g] at h
      rw [tmap_cons, then_app, ← gone_app g]
      exact exitR_app h
theorem npow_succ' (m : Mp) (k : Nat) : m.then (npow m k) = npow m (k + 1) := by
  have := npow_add m 1 k
  rw [npow_one, Nat.add_comm] at this
  exact this
abbrev N_passes : List Str := ["train", "ray", "most", "many"]
theorem sc_passes : FnScope N_passes ["train", "ray", "most"] (defScope (topS 69)) := ⟨rfl, rfl, rfl, by decide +kernel, rfl, by decide +kernel, by decide +kernel⟩
theorem ok_passes (T : Tc P w K mg base cs) : Good P w K mg base cs "passes" ["train", "ray", "most"] 11 F_passes := by
  obtain ⟨f, c, fd, D0, m0, t0⟩ := T.fn 53 _ rfl
  obtain ⟨f_exit_ray, d_exit_ray, m_exit_ray, k_exit_ray, b_exit_ray, G_exit_ray⟩ := ok_exit_ray T
  refine ⟨f, fd, m0, D0.kp, D0.funD.bindsN (fun _ _ _ _ _ _ us hl => match us, hl with | [_, _, _], _ => rfl), D0.ok sc_passes (fun vs H Q E h => pm_len len_passes h) (fun A outer s H vs Q E hr h => ⟨_, (pss_cons (ps_set (i := 3) sc_passes.nd rfl (.inl rfl) pe_int)
      (pss_cons (ps_while PassesOwn.never (pt_cmpR op_lt (pv 3) (pv 2) (nomark _)) (pss_cons (ps_set (i := 1) sc_passes.nd rfl (.inl rfl) (pe_call G_exit_ray (hr.mono (by decide)) rfl m_exit_ray k_exit_ray b_exit_ray .nil pass0 (pa_cons (pv 0) (pa_cons (pv 1) pa_nil))))
      (pss_cons (ps_if (pt_cmp (pc_isN (pv 1))) (pss_one (ps_ret (pv 3))) pss_nil)
      (pss_one (ps_aug (i := 3) sc_passes.nd rfl (.inl rfl) pe_int ip_add)))))
      (pss_one (ps_ret (pv 3))))), pm_body rfl ?_ h⟩)⟩
  intro ds R hF
  obtain ⟨t, r, n0, rfl, hs, hR⟩ := hF
  refine sd_set (x_int rfl) ?_
  try simp only [entG, setG, List.map_cons, List.map_nil, List.cons_append, List.nil_append, List.length_cons, List.length_nil, Nat.reduceAdd, Nat.reduceSub, List.replicate_succ, List.replicate_zero, List.set_cons_zero, List.set_cons_succ]
  refine s_seq (s_while (fun n Γ => ∃ k : Nat, k + n = n0 ∧ Γ = [.val (dT t), .val (dR ((npow (tmap t) k).app r)), .val (.int (n0 : Int)), .val (.int (k : Int))] ∧ passN t r n0 = k + passN t ((npow (tmap t) k).app r) n) n0 ⟨0, by omega, by rw [show npow (tmap t) 0 = Mp.one from rfl, one_app]; rfl, by rw [show npow (tmap t) 0 = Mp.one from rfl, one_app]; omega⟩ ?_)
  rintro n Γ' ⟨k, hk, rfl, hp⟩
  refine ⟨_, (td_test (xd_op od_B0 (x_var rfl rfl) (x_var rfl rfl) ⟨_, _, rfl, rfl, rfl⟩) rfl), fun ht => ?_, fun hf => ?_⟩
  · have hn : k < n0 := by have := of_decide_eq_true ht; omega
    obtain ⟨n, rfl⟩ : ∃ n', n = n' + 1 := ⟨n - 1, by omega⟩
    refine sd_set (xd_call (ad_cons (x_var (d := dT t) rfl rfl) (ad_cons (x_var (d := dR ((npow (tmap t) k).app r)) rfl rfl) ad_nil)) (sp_exit_ray (hs k hn) rfl)) ?_
    try simp only [entG, setG, List.map_cons, List.map_nil, List.cons_append, List.nil_append, List.length_cons, List.length_nil, Nat.reduceAdd, Nat.reduceSub, List.replicate_succ, List.replicate_zero, List.set_cons_zero, List.set_cons_succ]
    rw [passN_succ] at hp
    cases hx : exitR t ((npow (tmap t) k).app r) with
    | none =>
      rw [hx] at hp
      refine sd_when (td_B (xd_isN (x_var (d := .none) rfl rfl)) rfl) (fun _ => ?_) (fun h => by cases h)
      refine sd_ret (x_var rfl rfl) ?_
      rw [show passN t r n0 = k from hp] at hR
      exact hR
    | some r' =>
      rw [hx] at hp
      have er : r' = (npow (tmap t) (k + 1)).app r := by
        rw [exitR_app hx]
        exact (then_app _ _ _).symm
      refine sd_when (td_B (xd_isN (x_var (d := dR r') rfl rfl)) rfl) (fun h => by cases h) (fun _ => ?_)
      refine s_augI (i := 3) (a := (k : Int)) (b := 1) rfl (x_int rfl) ⟨n, by omega, k + 1, by omega, ?_, ?_⟩
      · rw [← er]
        rfl
      · rw [← er]
        have hp : passN t r n0 = k + (passN t r' n + 1) := hp
        omega
  · have hn : n = 0 := by have := of_decide_eq_false hf; omega
    subst hn
    have e : passN t r n0 = k := hp
    rw [e] at hR
    exact sd_ret (x_var rfl rfl) hR
/-- the half-planes of the rays that pass n times -/
def ppl (t : List El) (n : Nat) : List Pl := ((List.range n).map fun k => (hplsN t t.length).map (mapPl (npow (tmap t).inv k))).flatten
/-- what the passes ask for -/
structure PpOk (t : List El) (n : Nat) : Prop where
  tk : TOk t
  l : t.length ≤ 8
  nn : n ≤ 1000
  m : (tmap t).Sz 1000
  z : ∀ k, k ≤ 2 * n → (npow (tmap t).inv k).Sz 1000
  p : ∀ k, k ≤ n → (npow (tmap t).inv k).Sz 200
  o : ∀ k, k ≤ n → ∀ h ∈ hplsN t t.length, mapOk (npow (tmap t).inv k) h
theorem PpOk.mono {t : List El} {n k : Nat} (h : PpOk t n) (e : k ≤ n) : PpOk t k := ⟨h.tk, h.l, by have := h.nn; omega, h.m, fun j hj => h.z j (by omega), fun j hj => h.p j (by omega), fun j hj => h.o j (by omega)⟩
theorem ppl_succ (t : List El) (n : Nat) : ppl t (n + 1) = ppl t n ++ (hplsN t t.length).map (mapPl (npow (tmap t).inv n)) := by
  unfold ppl
  rw [List.range_succ, List.map_append, List.flatten_append, List.map_cons, List.map_nil, List.flatten_cons, List.flatten_nil, List.append_nil]
theorem ppl_len (t : List El) : ∀ n, (ppl t n).length = n * (hplsN t t.length).length
  | 0 => by rw [Nat.zero_mul]; rfl
  | n + 1 => by rw [ppl_succ, List.length_append, List.length_map, ppl_len t n, Nat.succ_mul]
def F_pass_planes (ds : List D) (R : D → Prop) : Prop := ∃ (t : List El) (n : Nat), ds = [dT t, .int (n : Int)] ∧ PpOk t n ∧ R (dPs (ppl t n))
theorem len_pass_planes : ∀ ds R, F_pass_planes ds R → ds.length = 2 := fun _ _ ⟨_, _, h, _⟩ => by rw [h]; rfl
theorem sp_pass_planes {t : List El} {n : Nat} {R : D → Prop} (h : PpOk t n) (k : R (dPs (ppl t n))) : F_pass_planes [dT t, .int (n : Int)] R := ⟨t, n, rfl, h, k⟩
theorem dPs_app (a b : List Pl) : a.map dP ++ b.map dP = (a ++ b).map dP := (List.map_append).symm
abbrev N_pass_planes : List Str := ["train", "many", "half_planes", "back", "found", "turn"]
theorem sc_pass_planes : FnScope N_pass_planes ["train", "many"] (defScope (topS 70)) := ⟨rfl, rfl, rfl, by decide +kernel, rfl, by decide +kernel, by decide +kernel⟩
theorem ok_pass_planes (T : Tc P w K mg base cs) : Good P w K mg base cs "pass_planes" ["train", "many"] 8 F_pass_planes := by
  obtain ⟨f, c, fd, D0, m0, t0⟩ := T.fn 54 _ rfl
  obtain ⟨f_map_half_planes, d_map_half_planes, m_map_half_planes, k_map_half_planes, b_map_half_planes, G_map_half_planes⟩ := ok_map_half_planes T
  obtain ⟨f_power_of, d_power_of, m_power_of, k_power_of, b_power_of, G_power_of⟩ := ok_power_of T
  obtain ⟨f_invert_map, d_invert_map, m_invert_map, k_invert_map, b_invert_map, G_invert_map⟩ := ok_invert_map T
  obtain ⟨f_ray_transfer, d_ray_transfer, m_ray_transfer, k_ray_transfer, b_ray_transfer, G_ray_transfer⟩ := ok_ray_transfer T
  obtain ⟨f_planes_of, d_planes_of, m_planes_of, k_planes_of, b_planes_of, G_planes_of⟩ := ok_planes_of T
  have z_range := T.fr "range" (by decide)
  refine ⟨f, fd, m0, D0.kp, D0.funD.bindsN (fun _ _ _ _ _ _ us hl => match us, hl with | [_, _], _ => rfl), D0.ok sc_pass_planes (fun vs H Q E h => pm_len len_pass_planes h) (fun A outer s H vs Q E hr h => ⟨_, (pss_cons (ps_set (i := 2) sc_pass_planes.nd rfl (.inl rfl) (pe_call G_planes_of (hr.mono (by decide)) rfl m_planes_of k_planes_of b_planes_of .nil pass0 (pa_cons (pv 0) pa_nil)))
      (pss_cons (ps_set (i := 3) sc_pass_planes.nd rfl (.inl rfl) (pe_call G_invert_map (hr.mono (by decide)) rfl m_invert_map k_invert_map b_invert_map .nil pass0 (pa_cons (pe_call G_ray_transfer (hr.mono (by decide)) rfl m_ray_transfer k_ray_transfer b_ray_transfer .nil pass0 (pa_cons (pv 0) pa_nil)) pa_nil)))
      (pss_cons (ps_set (i := 4) sc_pass_planes.nd rfl (.inl rfl) (pe_lst pa_nil))
      (pss_cons (ps_for PassesOwn.never rfl (pi_range1 rfl z_range (pa_cons (pv 1) pa_nil)) (pg_name (i := 5) sc_pass_planes.nd rfl (.inl rfl)) (pss_one (ps_aug (i := 4) sc_pass_planes.nd rfl (.inl rfl) (pe_call G_map_half_planes (hr.mono (by decide)) rfl m_map_half_planes k_map_half_planes b_map_half_planes .nil pass0 (pa_cons (pe_call G_power_of (hr.mono (by decide)) rfl m_power_of k_power_of b_power_of .nil pass0 (pa_cons (pv 3) (pa_cons (pv 5) pa_nil))) (pa_cons (pv 2) pa_nil))) iop_ext)))
      (pss_one (ps_ret (pv 4))))))), pm_body rfl ?_ h⟩)⟩
  intro ds R hF
  obtain ⟨t, n0, rfl, ok, hR⟩ := hF
  have hl16 : (hplsN t t.length).length ≤ 16 := by have := hplsN_len t t.length; have := ok.l; omega
  refine sd_set (xd_call (ad_cons (x_var rfl rfl) ad_nil) (sp_planes_of ok.tk rfl)) ?_
  try simp only [entG, setG, List.map_cons, List.map_nil, List.cons_append, List.nil_append, List.length_cons, List.length_nil, Nat.reduceAdd, Nat.reduceSub, List.replicate_succ, List.replicate_zero, List.set_cons_zero, List.set_cons_succ]
  refine sd_set (xd_call (ad_cons (xd_call (ad_cons (x_var rfl rfl) ad_nil) (sp_ray_transfer ok.tk.1 rfl)) ad_nil) (sp_invert_map ok.m rfl)) ?_
  try simp only [entG, setG, List.map_cons, List.map_nil, List.cons_append, List.nil_append, List.length_cons, List.length_nil, Nat.reduceAdd, Nat.reduceSub, List.replicate_succ, List.replicate_zero, List.set_cons_zero, List.set_cons_succ]
  refine s_seq (s_newL ad_nil (Nat.le_of_ble_eq_true rfl) ?_)
  try simp only [entG, setG, List.map_cons, List.map_nil, List.cons_append, List.nil_append, List.length_cons, List.length_nil, Nat.reduceAdd, Nat.reduceSub, List.replicate_succ, List.replicate_zero, List.set_cons_zero, List.set_cons_succ]
  refine s_seq (sd_for (ixd_rng1 (ad_cons (x_var rfl rfl) ad_nil) (by omega) (by have := ok.nn; omega)) tg_name (fun i Γ => ∃ z, Γ = [.val (dT t), .val (.int (n0 : Int)), .val (dPs (hplsN t t.length)), .val (dM (tmap t).inv), .own ((ppl t i).map dP), z] ∧ i ≤ n0) ⟨_, rfl, Nat.zero_le _⟩ ?_ ?_)
  · rintro i d Γ' hd ⟨z, rfl, hi⟩
    obtain ⟨hi2, rfl⟩ := rngD_get hd
    rw [show (0 : Int) + (i : Int) = (i : Int) from Int.zero_add _]
    have hi3 : i < n0 := by omega
    refine ⟨_, rfl, ?_⟩
    try simp only [entG, setG, List.map_cons, List.map_nil, List.cons_append, List.nil_append, List.length_cons, List.length_nil, Nat.reduceAdd, Nat.reduceSub, List.replicate_succ, List.replicate_zero, List.set_cons_zero, List.set_cons_succ]
    refine s_ext (i := 4) (es := ((hplsN t t.length).map (mapPl (npow (tmap t).inv i))).map dP) rfl (xd_call (ad_cons (xd_call (ad_cons (x_var (d := dM (tmap t).inv) rfl rfl) (ad_cons (x_var (d := .int (i : Int)) rfl rfl) ad_nil)) (sp_power_of (by have := ok.nn; omega) (fun k hk => ok.z k (by omega)) rfl)) (ad_cons (x_var (d := dPs (hplsN t t.length)) rfl rfl) ad_nil)) (sp_map_half_planes (ok.p i (by omega)) (by omega) (ok.o i (by omega)) rfl)) ?_ ⟨.val (.int (i : Int)), ?_, hi3⟩
    · rw [List.length_map, List.length_map, List.length_map, ppl_len]
      have h1 : i * (hplsN t t.length).length ≤ 1000 * 16 := Nat.mul_le_mul (by have := ok.nn; omega) hl16
      omega
    · rw [dPs_app, ← ppl_succ]
      rfl
  · rintro Γ' ⟨z, rfl, hi⟩
    rw [rngD_length]
    exact s_show (i := 4) rfl (sd_ret (x_var rfl rfl) hR)
/-- the proof that rays that pass n times pass for ever -/
def HN (t : List El) (n : Nat) : Prop := ∀ r, (∀ k ∈ ppl t n, k.has r) → ∀ k ∈ (hplsN t t.length).map (mapPl (npow (tmap t).inv n)), k.has r
/-- .. with short half-planes -/
structure HnOk (t : List El) (n : Nat) : Prop where
  ok : PpOk t n
  l : (hplsN t t.length).length ≤ 5
  n3 : n ≤ 3
  s : ∀ k, k ≤ n → ∀ h ∈ (hplsN t t.length).map (mapPl (npow (tmap t).inv k)), h.Sz 300
theorem ppl_mem {t : List El} {n : Nat} {h : Pl} (m : h ∈ ppl t n) : ∃ k, k < n ∧ h ∈ (hplsN t t.length).map (mapPl (npow (tmap t).inv k)) := by
  unfold ppl at m
  obtain ⟨l, hl, hh⟩ := List.mem_flatten.mp m
  obtain ⟨k, hk, rfl⟩ := List.mem_map.mp hl
  exact ⟨k, List.mem_range.mp hk, hh⟩
def F_holds_next (ds : List D) (R : D → Prop) : Prop := ∃ (t : List El) (n : Nat), ds = [dT t, .int (n : Int)] ∧ HnOk t n ∧ ∀ b : Bool, (b = true → HN t n) → R (.bool b)
theorem len_holds_next : ∀ ds R, F_holds_next ds R → ds.length = 2 := fun _ _ ⟨_, _, h, _⟩ => by rw [h]; rfl
abbrev N_holds_next : List Str := ["train", "many", "half_planes", "behind", "half_plane"]
theorem sc_holds_next : FnScope N_holds_next ["train", "many"] (defScope (topS 72)) := ⟨rfl, rfl, rfl, by decide +kernel, rfl, by decide +kernel, by decide +kernel⟩
theorem ok_holds_next (T : Tc P w K mg base cs) : Good P w K mg base cs "holds_next" ["train", "many"] 10 F_holds_next := by
  obtain ⟨f, c, fd, D0, m0, t0⟩ := T.fn 56 _ rfl
  obtain ⟨f_is_implied, d_is_implied, m_is_implied, k_is_implied, b_is_implied, G_is_implied⟩ := ok_is_implied T
  obtain ⟨f_map_half_planes, d_map_half_planes, m_map_half_planes, k_map_half_planes, b_map_half_planes, G_map_half_planes⟩ := ok_map_half_planes T
  obtain ⟨f_planes_of, d_planes_of, m_planes_of, k_planes_of, b_planes_of, G_planes_of⟩ := ok_planes_of T
  obtain ⟨f_power_of, d_power_of, m_power_of, k_power_of, b_power_of, G_power_of⟩ := ok_power_of T
  obtain ⟨f_invert_map, d_invert_map, m_invert_map, k_invert_map, b_invert_map, G_invert_map⟩ := ok_invert_map T
  obtain ⟨f_ray_transfer, d_ray_transfer, m_ray_transfer, k_ray_transfer, b_ray_transfer, G_ray_transfer⟩ := ok_ray_transfer T
  obtain ⟨f_is_empty, d_is_empty, m_is_empty, k_is_empty, b_is_empty, G_is_empty⟩ := ok_is_empty T
  obtain ⟨f_pass_planes, d_pass_planes, m_pass_planes, k_pass_planes, b_pass_planes, G_pass_planes⟩ := ok_pass_planes T
  have z_all := T.fr "all" (by decide)
  refine ⟨f, fd, m0, D0.kp, D0.funD.bindsN (fun _ _ _ _ _ _ us hl => match us, hl with | [_, _], _ => rfl), D0.ok sc_holds_next (fun vs H Q E h => pm_len len_holds_next h) (fun A outer s H vs Q E hr h => ⟨_, (pss_cons (ps_set (i := 2) sc_holds_next.nd rfl (.inr rfl) (pe_call G_pass_planes (hr.mono (by decide)) rfl m_pass_planes k_pass_planes b_pass_planes .nil pass0 (pa_cons (pv 0) (pa_cons (pv 1) pa_nil))))
      (pss_cons (ps_if (pt_val (pe_call G_is_empty (hr.mono (by decide)) rfl m_is_empty k_is_empty b_is_empty .nil pass0 (pa_cons (pv 2) pa_nil))) (pss_one (ps_ret pe_bl)) pss_nil)
      (pss_cons (ps_set (i := 3) sc_holds_next.nd rfl (.inl rfl) (pe_call G_map_half_planes (hr.mono (by decide)) rfl m_map_half_planes k_map_half_planes b_map_half_planes .nil pass0 (pa_cons (pe_call G_power_of (hr.mono (by decide)) rfl m_power_of k_power_of b_power_of .nil pass0 (pa_cons (pe_call G_invert_map (hr.mono (by decide)) rfl m_invert_map k_invert_map b_invert_map .nil pass0 (pa_cons (pe_call G_ray_transfer (hr.mono (by decide)) rfl m_ray_transfer k_ray_transfer b_ray_transfer .nil pass0 (pa_cons (pv 0) pa_nil)) pa_nil)) (pa_cons (pv 1) pa_nil))) (pa_cons (pe_call G_planes_of (hr.mono (by decide)) rfl m_planes_of k_planes_of b_planes_of .nil pass0 (pa_cons (pv 0) pa_nil)) pa_nil))))
      (pss_one (ps_ret (pe_callB (cr_all rfl) rfl z_all (by rfl) (pa_cons (pe_lc (own := [("half_plane", 4)]) rfl sc_holds_next.nd (pi_list (pv 3)) (blkOk_by (N := N_holds_next) (sc := defScope (topS 72)) (by decide +kernel)) (fun s H C cl fp => (pg_name (i := 4) sc_holds_next.nd rfl (.inl rfl) (.inr rfl))) (fun s H C cl fp => pts_nil) (fun s H C cl fp => (pe_call G_is_implied (hr.mono (by decide)) rfl m_is_implied k_is_implied b_is_implied .nil pass0 (pa_cons (pv 2) (pa_cons (pv 4) pa_nil))))) pa_nil))))))), pm_body rfl ?_ h⟩)⟩
  intro ds R hF
  obtain ⟨t, n, rfl, ok, hR⟩ := hF
  have hpl : (ppl t n).length ≤ 20 := by
    rw [ppl_len]
    have : n * (hplsN t t.length).length ≤ 3 * 5 := Nat.mul_le_mul ok.n3 ok.l
    omega
  have hps : ∀ h ∈ ppl t n, h.Sz 300 := fun h m => by
    obtain ⟨k, hk, hh⟩ := ppl_mem m
    exact ok.s k (by omega) h hh
  refine sd_set (xd_call (ad_cons (x_var rfl rfl) (ad_cons (x_var rfl rfl) ad_nil)) (sp_pass_planes ok.ok rfl)) ?_
  try simp only [entG, setG, List.map_cons, List.map_nil, List.cons_append, List.nil_append, List.length_cons, List.length_nil, Nat.reduceAdd, Nat.reduceSub, List.replicate_succ, List.replicate_zero, List.set_cons_zero, List.set_cons_succ]
  refine s_when (P := fun b => b = true → Cert (ppl t n)) (t_B (Ra := fun d => ∃ b : Bool, d = .bool b ∧ (b = true → Cert (ppl t n))) (xd_call (ad_cons (x_var (d := dPs (ppl t n)) rfl rfl) ad_nil) ⟨_, rfl, hpl, fun h m => (hps h m).mono (by decide), fun b hb => ⟨b, rfl, hb⟩⟩) fun d h => h) (fun hc => sd_ret (x_bl rfl) (hR true fun _ r hr => absurd hr ((hc rfl).empty r))) (fun _ => ?_)
  refine sd_set (xd_call (ad_cons (xd_call (ad_cons (xd_call (ad_cons (xd_call (ad_cons (x_var rfl rfl) ad_nil) (sp_ray_transfer ok.ok.tk.1 rfl)) ad_nil) (sp_invert_map ok.ok.m rfl)) (ad_cons (x_var rfl rfl) ad_nil)) (sp_power_of ok.ok.nn ok.ok.z rfl)) (ad_cons (xd_call (ad_cons (x_var rfl rfl) ad_nil) (sp_planes_of ok.ok.tk rfl)) ad_nil)) (sp_map_half_planes (ok.ok.p n (Nat.le_refl _)) (by have := ok.l; omega) (ok.ok.o n (Nat.le_refl _)) rfl)) ?_
  try simp only [entG, setG, List.map_cons, List.map_nil, List.cons_append, List.nil_append, List.length_cons, List.length_nil, Nat.reduceAdd, Nat.reduceSub, List.replicate_succ, List.replicate_zero, List.set_cons_zero, List.set_cons_succ]
  refine s_ret (x_cb cb_all (a_cons (Ra := fun d => ∃ bs : List Bool, d = .list (bs.map PyData.bool) ∧ (bs.all id = true → HN t n)) (Rl := fun ds => ∃ bs : List Bool, ds = [.list (bs.map PyData.bool)] ∧ (bs.all id = true → HN t n)) (x_lc (ixd_list (ds := ((hplsN t t.length).map (mapPl (npow (tmap t).inv n))).map dP) (x_var rfl rfl)) tg_name (by decide) fun ds e => ?_) (a_nil rfl : Ax K cs _ _ (Eq [])) fun d ds ⟨bs, e, h⟩ e2 => ⟨bs, by rw [e, ← e2], h⟩) fun ds ⟨bs, e, h⟩ => ⟨bs, e, hR _ h⟩)
  subst e
  have hlen : ((hplsN t t.length).map (mapPl (npow (tmap t).inv n))).length ≤ 5 := by rw [List.length_map]; exact ok.l
  refine ⟨by rw [List.length_map]; omega, fun pre acc => ∃ (bs : List Bool) (i : Nat), pre = (((hplsN t t.length).map (mapPl (npow (tmap t).inv n))).map dP).take i ∧ acc = bs.map PyData.bool ∧ (bs.all id = true → ∀ j, j < i → ∀ k, ((hplsN t t.length).map (mapPl (npow (tmap t).inv n)))[j]? = some k → ∀ r, (∀ h ∈ ppl t n, h.has r) → k.has r), ⟨[], 0, rfl, rfl, fun _ j hj => absurd hj (Nat.not_lt_zero j)⟩, fun i d acc hd ha => ?_, fun rs h => ?_⟩
  · obtain ⟨k, ek, rfl⟩ := gmapE hd
    have mk := List.mem_of_getElem? ek
    obtain ⟨bs, i', hp, rfl, hb⟩ := ha
    have hi : i < ((hplsN t t.length).map (mapPl (npow (tmap t).inv n))).length := (List.getElem?_eq_some_iff.mp ek).1
    have hle : i ≤ i' := by
      have := congrArg List.length hp
      rw [List.length_take, List.length_take, List.length_map] at this
      omega
    refine ⟨_, rfl, fun b => b = true, t_yes rfl, fun _ => (xd_call (R := fun d => ∃ b : Bool, d = .bool b ∧ (b = true → ∀ r, (∀ h ∈ ppl t n, h.has r) → k.has r)) (ad_cons (x_var (d := dPs (ppl t n)) rfl rfl) (ad_cons (x_var (d := dP k) rfl rfl) ad_nil)) ⟨_, k, rfl, hpl, hps, ok.s n (Nat.le_refl _) k mk, fun b hb => ⟨b, rfl, hb⟩⟩).mono fun x ⟨b, e, q⟩ => ⟨bs ++ [b], i + 1, rfl, by rw [e, List.map_append]; rfl, fun hall j hj k' hk' r hr => ?_⟩, fun h => by cases h⟩
    rw [List.all_append, Bool.and_eq_true] at hall
    by_cases ej : j = i
    · subst ej
      rw [ek] at hk'
      cases hk'
      refine q ?_ r hr
      have h2 := hall.2
      simpa using h2
    · exact hb hall.1 j (by omega) k' hk' r hr
  · obtain ⟨bs, i, hp, rfl, hb⟩ := h
    refine ⟨bs, rfl, fun hall r hr k hk => ?_⟩
    obtain ⟨j, hj, rfl⟩ := List.getElem_of_mem hk
    have hle : ((hplsN t t.length).map (mapPl (npow (tmap t).inv n))).length ≤ i := by
      have := congrArg List.length hp
      rw [List.length_take, List.length_map] at this
      omega
    exact hb hall j (by omega) _ (List.getElem?_eq_getElem hj) r hr
def F_settled (ds : List D) (R : D → Prop) : Prop := ∃ (t : List El) (n : Nat), ds = [dT t, .int (n : Int)] ∧ HnOk t n ∧ R .none ∧ ∀ k : Nat, k ≤ n → HN t k → R (.int (k : Int))
theorem len_settled : ∀ ds R, F_settled ds R → ds.length = 2 := fun _ _ ⟨_, _, h, _⟩ => by rw [h]; rfl
theorem HnOk.mono {t : List El} {n k : Nat} (h : HnOk t n) (e : k ≤ n) : HnOk t k := ⟨h.ok.mono e, h.l, by have := h.n3; omega, fun j hj => h.s j (by omega)⟩
abbrev N_settled : List Str := ["train", "most", "many"]
theorem sc_settled : FnScope N_settled ["train", "most"] (defScope (topS 73)) := ⟨rfl, rfl, rfl, by decide +kernel, rfl, by decide +kernel, by decide +kernel⟩
theorem ok_settled (T : Tc P w K mg base cs) : Good P w K mg base cs "settled" ["train", "most"] 11 F_settled := by
  obtain ⟨f, c, fd, D0, m0, t0⟩ := T.fn 57 _ rfl
  obtain ⟨f_holds_next, d_holds_next, m_holds_next, k_holds_next, b_holds_next, G_holds_next⟩ := ok_holds_next T
  have z_range := T.fr "range" (by decide)
  refine ⟨f, fd, m0, D0.kp, D0.funD.bindsN (fun _ _ _ _ _ _ us hl => match us, hl with | [_, _], _ => rfl), D0.ok sc_settled (fun vs H Q E h => pm_len len_settled h) (fun A outer s H vs Q E hr h => ⟨_, (pss_cons (ps_for PassesOwn.never rfl (pi_range1 rfl z_range (pa_cons (pe_op op_add (pv 1) pe_int) pa_nil)) (pg_name (i := 2) sc_settled.nd rfl (.inl rfl)) (pss_one (ps_if (pt_val (pe_call G_holds_next (hr.mono (by decide)) rfl m_holds_next k_holds_next b_holds_next .nil pass0 (pa_cons (pv 0) (pa_cons (pv 2) pa_nil)))) (pss_one (ps_ret (pv 2))) pss_nil)))
      (pss_one (ps_ret pe_non))), pm_body rfl ?_ h⟩)⟩
  intro ds R hF
  obtain ⟨t, n, rfl, ok, h0, hR⟩ := hF
  refine s_seq (sd_for (ixd_rng1 (ad_cons (xd_op od_I0 (x_var rfl rfl) (x_int rfl) ⟨_, _, rfl, rfl, rfl⟩) ad_nil) (by omega) (by have := ok.n3; omega)) tg_name (fun i Γ => ∃ z, Γ = [.val (dT t), .val (.int (n : Int)), z]) ⟨_, rfl⟩ ?_ ?_)
  · rintro i d Γ' hd ⟨z, rfl⟩
    obtain ⟨hi2, rfl⟩ := rngD_get hd
    rw [show (0 : Int) + (i : Int) = (i : Int) from Int.zero_add _]
    refine ⟨_, rfl, ?_⟩
    try simp only [entG, setG, List.map_cons, List.map_nil, List.cons_append, List.nil_append, List.length_cons, List.length_nil, Nat.reduceAdd, Nat.reduceSub, List.replicate_succ, List.replicate_zero, List.set_cons_zero, List.set_cons_succ]
    refine s_if (P := fun b => b = true → HN t i) (t_B (Ra := fun d => ∃ b : Bool, d = .bool b ∧ (b = true → HN t i)) (xd_call (ad_cons (x_var (d := dT t) rfl rfl) (ad_cons (x_var (d := .int (i : Int)) rfl rfl) ad_nil)) ⟨t, i, rfl, ok.mono (by omega), fun b hb => ⟨b, rfl, hb⟩⟩) fun d h => h) (fun hc => sd_ret (x_var rfl rfl) (hR i (by omega) (hc rfl))) (fun _ => s_next ⟨_, rfl⟩)
  · rintro Γ' ⟨z, rfl⟩
    exact sd_ret (x_non rfl) h0
def F_is_kept (ds : List D) (R : D → Prop) : Prop := ∃ t : List El, ds = [dT t] ∧ HnOk t 1 ∧ ∀ b : Bool, (b = true → HN t 1) → R (.bool b)
theorem len_is_kept : ∀ ds R, F_is_kept ds R → ds.length = 1 := fun _ _ ⟨_, h, _⟩ => by rw [h]; rfl
abbrev N_is_kept : List Str := ["train"]
theorem sc_is_kept : FnScope N_is_kept ["train"] (defScope (topS 74)) := ⟨rfl, rfl, rfl, by decide +kernel, rfl, by decide +kernel, by decide +kernel⟩
theorem ok_is_kept (T : Tc P w K mg base cs) : Good P w K mg base cs "is_kept" ["train"] 11 F_is_kept := by
  obtain ⟨f, c, fd, D0, m0, t0⟩ := T.fn 58 _ rfl
  obtain ⟨f_holds_next, d_holds_next, m_holds_next, k_holds_next, b_holds_next, G_holds_next⟩ := ok_holds_next T
  refine ⟨f, fd, m0, D0.kp, D0.funD.bindsN (fun _ _ _ _ _ _ us hl => match us, hl with | [_], _ => rfl), D0.ok sc_is_kept (fun vs H Q E h => pm_len len_is_kept h) (fun A outer s H vs Q E hr h => ⟨_, (pss_one (ps_ret (pe_call G_holds_next (hr.mono (by decide)) rfl m_holds_next k_holds_next b_holds_next .nil pass0 (pa_cons (pv 0) (pa_cons pe_int pa_nil))))), pm_body rfl ?_ h⟩)⟩
  intro ds R hF
  obtain ⟨t, rfl, ok, hR⟩ := hF
  exact s_ret (xd_call (ad_cons (x_var (d := dT t) rfl rfl) (ad_cons (x_int rfl) ad_nil)) ⟨t, 1, rfl, ok, hR⟩)
end Rt
set_option Elab.async false
set_option linter.all false
set_option maxRecDepth 100000
set_option maxHeartbeats 4000000
set_option exponentiation.threshold 100000
/-! The walk, part 9: corners. -/
namespace Rt
open PySem PySem.Spec PyProof.Rows L2 GxR Gx RZ
variable {P : Program} {w : World} {K : PySem.W.Frag} {mg : Str → Option Value} {base : Heap} {cs : List Addr}
theorem room65 {k : Nat} {A : Around} (r : Room (k + 1) A) : A.units + 65 < cLine := by have := r.un; omega
theorem Sz.ofDivInt {n : Nat} {a b : Int} (ha : a.natAbs < 2 ^ n) (hb : b.natAbs < 2 ^ n) (h0 : b ≠ 0) (h1 : 1 ≤ n) : Sz n (Rat.divInt a b) := by
  rw [Rat.divInt_eq_div, Rat.div_def, Rat.inv_def, Rat.num_intCast, Rat.den_intCast]
  rw [Rat.divInt_eq_div]
  have e : (a : Rat) * (((1 : Nat) : Int) : Rat) / (b : Rat) = (a : Rat) / (b : Rat) := by
    rw [show (((1 : Nat) : Int) : Rat) = 1 from rfl, Rat.mul_one]
  have e2 : (a : Rat) * ((((1 : Nat) : Int) : Rat) / (b : Rat)) = (a : Rat) / (b : Rat) := by
    rw [show (((1 : Nat) : Int) : Rat) = 1 from rfl, Rat.div_def, Rat.one_mul, Rat.div_def]
  rw [e2, ← Rat.divInt_eq_div]
  refine ⟨?_, ?_⟩
  · rw [← frac_num h0]
    have hd := Int.gcd_dvd_left a b
    have g0 : dvr a b ≠ 0 := dvr_ne h0
    have dd : dvr a b ∣ a := by
      unfold dvr
      split
      · exact Int.neg_dvd.mpr hd
      · exact hd
    obtain ⟨c, hc⟩ := dd
    have e3 : a.fdiv (dvr a b) = c := by
      conv => lhs; arg 1; rw [hc]
      exact Int.mul_fdiv_cancel_left _ g0
    rw [e3]
    have : a.natAbs = (dvr a b).natAbs * c.natAbs := by
      conv => lhs; rw [hc]
      exact Int.natAbs_mul _ _
    have h2 : 1 ≤ (dvr a b).natAbs := by omega
    have h3 : 1 * c.natAbs ≤ (dvr a b).natAbs * c.natAbs := Nat.mul_le_mul_right _ h2
    omega
  · have h2 : ((Rat.divInt a b).den : Int) = b.fdiv (dvr a b) := (frac_den h0).symm
    have hd := Int.gcd_dvd_right a b
    have g0 : dvr a b ≠ 0 := dvr_ne h0
    have dd : dvr a b ∣ b := by
      unfold dvr
      split
      · exact Int.neg_dvd.mpr hd
      · exact hd
    obtain ⟨c, hc⟩ := dd
    have e3 : b.fdiv (dvr a b) = c := by
      conv => lhs; arg 1; rw [hc]
      exact Int.mul_fdiv_cancel_left _ g0
    rw [e3] at h2
    have : b.natAbs = (dvr a b).natAbs * c.natAbs := by
      conv => lhs; rw [hc]
      exact Int.natAbs_mul _ _
    have h4 : 1 ≤ (dvr a b).natAbs := by omega
    have h3 : 1 * c.natAbs ≤ (dvr a b).natAbs * c.natAbs := Nat.mul_le_mul_right _ h4
    omega
/-- a ray of short numerators over one denominator -/
def RC (n : Nat) (r : Rat × Rat) : Prop := ∃ d x y : Int, d ≠ 0 ∧ d.natAbs < 2 ^ n ∧ x.natAbs < 2 ^ n ∧ y.natAbs < 2 ^ n ∧ r = (Rat.divInt x d, Rat.divInt y d)
theorem RC.sz {n : Nat} {r : Rat × Rat} (h : RC (n + 1) r) : RSz (n + 1) r := by
  obtain ⟨d, x, y, h0, hd, hx, hy, rfl⟩ := h
  exact ⟨Sz.ofDivInt hx hd h0 (by omega), Sz.ofDivInt hy hd h0 (by omega)⟩
def F_meeting (ds : List D) (R : D → Prop) : Prop := ∃ (h k : Pl) (n : Nat), ds = [dP h, dP k] ∧ n ≤ 300 ∧ h.Sz n ∧ k.Sz n ∧ R .none ∧ ∀ r, RC (2 * n + 1) r → R (dR r)
theorem len_meeting : ∀ ds R, F_meeting ds R → ds.length = 2 := fun _ _ ⟨_, _, _, h, _⟩ => by rw [h]; rfl
theorem cross_lt {n : Nat} {a b c d : Int} (ha : a.natAbs < 2 ^ n) (hb : b.natAbs < 2 ^ n) (hc : c.natAbs < 2 ^ n) (hd : d.natAbs < 2 ^ n) : (a * b - c * d).natAbs < 2 ^ (2 * n + 1) := by
  have x : (a * b).natAbs < 2 ^ (2 * n) := iabs_mul ha hb (by omega)
  have y : (c * d).natAbs < 2 ^ (2 * n) := iabs_mul hc hd (by omega)
  rw [Nat.pow_succ]
  omega
abbrev N_meeting : List Str := ["first", "second", "whole", "height", "slope"]
theorem sc_meeting : FnScope N_meeting ["first", "second"] (defScope (topS 76)) := ⟨rfl, rfl, rfl, by decide +kernel, rfl, by decide +kernel, by decide +kernel⟩
theorem ok_meeting (T : Tc P w K mg base cs) : Good P w K mg base cs "meeting" ["first", "second"] 3 F_meeting := by
  obtain ⟨f, c, fd, D0, m0, t0⟩ := T.fn 59 _ rfl
  obtain ⟨f_fraction, d_fraction, m_fraction, k_fraction, b_fraction, ⟨d1_fraction, v1_fraction, b1_fraction⟩, G_fraction⟩ := ok_fraction T
  obtain ⟨f_determinant, d_determinant, m_determinant, k_determinant, b_determinant, G_determinant⟩ := ok_determinant T
  refine ⟨f, fd, m0, D0.kp, D0.funD.bindsN (fun _ _ _ _ _ _ us hl => match us, hl with | [_, _], _ => rfl), D0.ok sc_meeting (fun vs H Q E h => pm_len len_meeting h) (fun A outer s H vs Q E hr h => ⟨_, (pss_cons (ps_set (i := 2) sc_meeting.nd rfl (.inl rfl) (pe_call G_determinant (hr.mono (by decide)) rfl m_determinant k_determinant b_determinant .nil pass0 (pa_cons (pv 0) (pa_cons (pv 1) pa_nil))))
      (pss_cons (ps_if (pt_cmpR op_eq (pv 2) pe_int (nomark _)) (pss_one (ps_ret pe_non)) pss_nil)
      (pss_cons (ps_set (i := 3) sc_meeting.nd rfl (.inl rfl) (pe_call G_fraction (hr.mono (by decide)) rfl m_fraction k_fraction b_fraction .nil pass0 (pa_cons (pe_op op_sub (pe_op op_mulW (pe_ix (r := rIxT K) L2.ix_tup (pv 0) pe_int (fun _ _ => rfl)) (pe_ix (r := rIxT K) L2.ix_tup (pv 1) pe_int (fun _ _ => rfl))) (pe_op op_mulW (pe_ix (r := rIxT K) L2.ix_tup (pv 1) pe_int (fun _ _ => rfl)) (pe_ix (r := rIxT K) L2.ix_tup (pv 0) pe_int (fun _ _ => rfl)))) (pa_cons (pv 2) pa_nil))))
      (pss_cons (ps_set (i := 4) sc_meeting.nd rfl (.inl rfl) (pe_call G_fraction (hr.mono (by decide)) rfl m_fraction k_fraction b_fraction .nil pass0 (pa_cons (pe_op op_sub (pe_op op_mulW (pe_ix (r := rIxT K) L2.ix_tup (pv 0) pe_int (fun _ _ => rfl)) (pe_ix (r := rIxT K) L2.ix_tup (pv 1) pe_int (fun _ _ => rfl))) (pe_op op_mulW (pe_ix (r := rIxT K) L2.ix_tup (pv 1) pe_int (fun _ _ => rfl)) (pe_ix (r := rIxT K) L2.ix_tup (pv 0) pe_int (fun _ _ => rfl)))) (pa_cons (pv 2) pa_nil))))
      (pss_one (ps_ret (pe_tup (pa_cons (pv 3) (pa_cons (pv 4) pa_nil))))))))), pm_body rfl ?_ h⟩)⟩
  intro ds R hF
  obtain ⟨h, k, n, rfl, hn, hh, hk, h0, hR⟩ := hF
  have hh1 : h.Sz 1000 := hh.mono (by omega)
  have hk1 : k.Sz 1000 := hk.mono (by omega)
  have hw : (pldet h k).natAbs < 2 ^ (2 * n + 1) := cross_lt hh.1 hk.2.1 hh.2.1 hk.1
  refine sd_set (xd_call (ad_cons (x_var rfl rfl) (ad_cons (x_var rfl rfl) ad_nil)) (sp_determinant hh1 hk1 rfl)) ?_
  try simp only [entG, setG, List.map_cons, List.map_nil, List.cons_append, List.nil_append, List.length_cons, List.length_nil, Nat.reduceAdd, Nat.reduceSub, List.replicate_succ, List.replicate_zero, List.set_cons_zero, List.set_cons_succ]
  refine sd_when (td_test (xd_op od_eqI (x_var rfl rfl) (x_int rfl) ⟨_, _, rfl, rfl, rfl⟩) rfl) (fun _ => sd_ret (x_non rfl) h0) (fun hc => ?_)
  have w0 : pldet h k ≠ 0 := of_decide_eq_false hc
  have s1 : (h.z * k.y - k.z * h.y).natAbs < 2 ^ (2 * n + 1) := cross_lt hh.2.2 hk.2.1 hk.2.2 hh.2.1
  have s2 : (h.x * k.z - k.x * h.z).natAbs < 2 ^ (2 * n + 1) := cross_lt hh.1 hk.2.2 hk.1 hh.2.2
  have big : ∀ {x : Int}, x.natAbs < 2 ^ (2 * n + 1) → x.natAbs < 2 ^ 8990 := fun hx => Nat.lt_of_lt_of_le hx (pow_le (by omega))
  refine sd_set (xd_call (ad_cons (xd_op od_I0 (xd_op od_I (xd_op od_ixT (x_var rfl rfl) (x_int rfl) ⟨_, _, _, rfl, rfl, rfl, rfl⟩) (xd_op od_ixT (x_var rfl rfl) (x_int rfl) ⟨_, _, _, rfl, rfl, rfl, rfl⟩) ⟨_, _, rfl, rfl, ?_, rfl⟩) (xd_op od_I (xd_op od_ixT (x_var rfl rfl) (x_int rfl) ⟨_, _, _, rfl, rfl, rfl, rfl⟩) (xd_op od_ixT (x_var rfl rfl) (x_int rfl) ⟨_, _, _, rfl, rfl, rfl, rfl⟩) ⟨_, _, rfl, rfl, ?_, rfl⟩) ⟨_, _, rfl, rfl, rfl⟩) (ad_cons (x_var rfl rfl) ad_nil)) ⟨_, _, rfl, w0, big hw, rfl⟩) ?_
  · exact m1000 hh1.2.2 hk1.2.1
  · exact m1000 hk1.2.2 hh1.2.1
  try simp only [entG, setG, List.map_cons, List.map_nil, List.cons_append, List.nil_append, List.length_cons, List.length_nil, Nat.reduceAdd, Nat.reduceSub, List.replicate_succ, List.replicate_zero, List.set_cons_zero, List.set_cons_succ]
  refine sd_set (xd_call (ad_cons (xd_op od_I0 (xd_op od_I (xd_op od_ixT (x_var rfl rfl) (x_int rfl) ⟨_, _, _, rfl, rfl, rfl, rfl⟩) (xd_op od_ixT (x_var rfl rfl) (x_int rfl) ⟨_, _, _, rfl, rfl, rfl, rfl⟩) ⟨_, _, rfl, rfl, ?_, rfl⟩) (xd_op od_I (xd_op od_ixT (x_var rfl rfl) (x_int rfl) ⟨_, _, _, rfl, rfl, rfl, rfl⟩) (xd_op od_ixT (x_var rfl rfl) (x_int rfl) ⟨_, _, _, rfl, rfl, rfl, rfl⟩) ⟨_, _, rfl, rfl, ?_, rfl⟩) ⟨_, _, rfl, rfl, rfl⟩) (ad_cons (x_var rfl rfl) ad_nil)) ⟨_, _, rfl, w0, big hw, rfl⟩) ?_
  · exact m1000 hh1.1 hk1.2.2
  · exact m1000 hk1.1 hh1.2.2
  try simp only [entG, setG, List.map_cons, List.map_nil, List.cons_append, List.nil_append, List.length_cons, List.length_nil, Nat.reduceAdd, Nat.reduceSub, List.replicate_succ, List.replicate_zero, List.set_cons_zero, List.set_cons_succ]
  exact sd_ret (xd_tup (ad_cons (x_var rfl rfl) (ad_cons (x_var rfl rfl) ad_nil)) (Nat.le_of_ble_eq_true rfl) rfl) (hR (_, _) ⟨_, _, _, w0, hw, s1, s2, rfl⟩)
def F_is_before (ds : List D) (R : D → Prop) : Prop := ∃ r s : Rat × Rat, ds = [dR r, dR s] ∧ RSz 1000 r ∧ RSz 1000 s ∧ ∀ b : Bool, R (.bool b)
theorem len_is_before : ∀ ds R, F_is_before ds R → ds.length = 2 := fun _ _ ⟨_, _, h, _⟩ => by rw [h]; rfl
abbrev N_is_before : List Str := ["first", "second", "found"]
theorem sc_is_before : FnScope N_is_before ["first", "second"] (defScope (topS 77)) := ⟨rfl, rfl, rfl, by decide +kernel, rfl, by decide +kernel, by decide +kernel⟩
theorem ok_is_before (T : Tc P w K mg base cs) : Good P w K mg base cs "is_before" ["first", "second"] 6 F_is_before := by
  obtain ⟨f, c, fd, D0, m0, t0⟩ := T.fn 60 _ rfl
  obtain ⟨f_compare, d_compare, m_compare, k_compare, b_compare, G_compare⟩ := ok_compare T
  refine ⟨f, fd, m0, D0.kp, D0.funD.bindsN (fun _ _ _ _ _ _ us hl => match us, hl with | [_, _], _ => rfl), D0.ok sc_is_before (fun vs H Q E h => pm_len len_is_before h) (fun A outer s H vs Q E hr h => ⟨_, (pss_cons (ps_set (i := 2) sc_is_before.nd rfl (.inl rfl) (pe_call G_compare (hr.mono (by decide)) rfl m_compare k_compare b_compare .nil pass0 (pa_cons (pe_ix (r := rIxT K) L2.ix_tup (pv 0) pe_int (fun _ _ => rfl)) (pa_cons (pe_ix (r := rIxT K) L2.ix_tup (pv 1) pe_int (fun _ _ => rfl)) pa_nil))))
      (pss_cons (ps_if (pt_cmpR op_eq (pv 2) pe_int (nomark _)) (pss_one (ps_set (i := 2) sc_is_before.nd rfl (.inl rfl) (pe_call G_compare (hr.mono (by decide)) rfl m_compare k_compare b_compare .nil pass0 (pa_cons (pe_ix (r := rIxT K) L2.ix_tup (pv 0) pe_int (fun _ _ => rfl)) (pa_cons (pe_ix (r := rIxT K) L2.ix_tup (pv 1) pe_int (fun _ _ => rfl)) pa_nil))))) pss_nil)
      (pss_one (ps_ret (pe_cmpR op_lt (pv 2) pe_int (nomark _)))))), pm_body rfl ?_ h⟩)⟩
  intro ds R hF
  obtain ⟨r, s, rfl, hr, hs, hR⟩ := hF
  refine sd_set (xd_call (ad_cons (xd_op od_ixT (x_var rfl rfl) (x_int rfl) ⟨_, _, _, rfl, rfl, rfl, rfl⟩) (ad_cons (xd_op od_ixT (x_var rfl rfl) (x_int rfl) ⟨_, _, _, rfl, rfl, rfl, rfl⟩) ad_nil)) (sp_compare (Sz.mono hr.1 (by decide : 1000 ≤ 4400)) (Sz.mono hs.1 (by decide : 1000 ≤ 4400)) rfl)) ?_
  try simp only [entG, setG, List.map_cons, List.map_nil, List.cons_append, List.nil_append, List.length_cons, List.length_nil, Nat.reduceAdd, Nat.reduceSub, List.replicate_succ, List.replicate_zero, List.set_cons_zero, List.set_cons_succ]
  refine sd_when (td_test (xd_op od_eqI (x_var rfl rfl) (x_int rfl) ⟨_, _, rfl, rfl, rfl⟩) rfl) (fun _ => ?_) (fun _ => ?_)
  · refine sd_asg (xd_call (ad_cons (xd_op od_ixT (x_var rfl rfl) (x_int rfl) ⟨_, _, _, rfl, rfl, rfl, rfl⟩) (ad_cons (xd_op od_ixT (x_var rfl rfl) (x_int rfl) ⟨_, _, _, rfl, rfl, rfl, rfl⟩) ad_nil)) (sp_compare (Sz.mono hr.2 (by decide : 1000 ≤ 4400)) (Sz.mono hs.2 (by decide : 1000 ≤ 4400)) rfl)) ?_
    try simp only [entG, setG, List.map_cons, List.map_nil, List.cons_append, List.nil_append, List.length_cons, List.length_nil, Nat.reduceAdd, Nat.reduceSub, List.replicate_succ, List.replicate_zero, List.set_cons_zero, List.set_cons_succ]
    exact sd_ret (xd_op od_B0 (x_var rfl rfl) (x_int rfl) ⟨_, _, rfl, rfl, rfl⟩) (hR _)
  · exact sd_ret (xd_op od_B0 (x_var rfl rfl) (x_int rfl) ⟨_, _, rfl, rfl, rfl⟩) (hR _)
/-! ### put_in_order -/
theorem canLayR : ∀ rs : List (Rat × Rat), PyData.canLayAll0 (rs.map dR) = true
  | [] => rfl
  | r :: rs => by
    rw [List.map_cons]
    unfold PyData.canLayAll0
    rw [canLayR rs, Bool.and_true]
    rfl
theorem depthR : ∀ rs : List (Rat × Rat), PyData.depthAll (rs.map dR) ≤ 3
  | [] => by
    rw [List.map_nil]
    decide
  | r :: rs => by
    rw [List.map_cons]
    have h := depthR rs
    unfold PyData.depthAll
    have e : PyData.depth (dR r) = 2 ∨ PyData.depth (dR r) ≤ 3 := .inr (Nat.le_of_ble_eq_true rfl)
    rcases e with e | e <;> omega
theorem sh_Rs (rs : List (Rat × Rat)) : SeqAt.shaped (dRs rs) = true := by
  unfold SeqAt.shaped dRs
  have h1 : PyData.canLay0 (.list (rs.map dR)) = true := by
    unfold PyData.canLay0
    exact canLayR rs
  have h2 : PyData.depth (.list (rs.map dR)) ≤ 64 := by
    unfold PyData.depth
    have := depthR rs
    omega
  rw [h1, decide_eq_true h2]
  rfl
def F_put_in_order (ds : List D) (R : D → Prop) : Prop := ∃ (rs : List (Rat × Rat)) (r : Rat × Rat), ds = [dRs rs, dR r] ∧ rs.length ≤ 1000 ∧ (∀ s ∈ rs, RSz 1000 s) ∧ RSz 1000 r ∧ ∀ ss : List (Rat × Rat), ss.length ≤ rs.length + 1 → (∀ s ∈ ss, s = r ∨ s ∈ rs) → R (dRs ss)
theorem len_put_in_order : ∀ ds R, F_put_in_order ds R → ds.length = 2 := fun _ _ ⟨_, _, h, _⟩ => by rw [h]; rfl
theorem cut_map {α : Type} (g : α → D) (xs : List α) (lo hi : Option Int) : ∃ ys : List α, cutD (xs.map g) lo hi = ys.map g ∧ (∀ y ∈ ys, y ∈ xs) := by
  refine ⟨(xs.drop (HT.sIx (xs.map g).length 0 lo)).take (HT.sIx (xs.map g).length (xs.map g).length hi - HT.sIx (xs.map g).length 0 lo), ?_, fun y hy => List.mem_of_mem_drop (List.mem_of_mem_take hy)⟩
  unfold cutD
  rw [← List.map_drop, ← List.map_take]
abbrev N_put_in_order : List Str := ["rays", "ray", "place", "one"]
theorem sc_put_in_order : FnScope N_put_in_order ["rays", "ray"] (defScope (topS 78)) := ⟨rfl, rfl, rfl, by decide +kernel, rfl, by decide +kernel, by decide +kernel⟩
theorem ok_put_in_order (T : Tc P w K mg base cs) : Good P w K mg base cs "put_in_order" ["rays", "ray"] 7 F_put_in_order := by
  obtain ⟨f, c, fd, D0, m0, t0⟩ := T.fn 61 _ rfl
  obtain ⟨f_is_before, d_is_before, m_is_before, k_is_before, b_is_before, G_is_before⟩ := ok_is_before T
  have z_len := T.fr "len" (by decide)
  refine ⟨f, fd, m0, D0.kp, D0.funD.bindsN (fun _ _ _ _ _ _ us hl => match us, hl with | [_, _], _ => rfl), D0.ok sc_put_in_order (fun vs H Q E h => pm_len len_put_in_order h) (fun A outer s H vs Q E hr h => ⟨_, (pss_cons (ps_if (pt_cmpR (op_inD (room65 hr)) (pv 1) (pv 0) rfl) (pss_one (ps_ret (pv 0))) pss_nil)
      (pss_cons (ps_set (i := 2) sc_put_in_order.nd rfl (.inl rfl) (pe_callB call_len_seq rfl z_len PySem.boot_len (pa_cons (pe_lc (own := [("one", 3)]) rfl sc_put_in_order.nd (pi_list (pv 0)) (blkOk_by (N := N_put_in_order) (sc := defScope (topS 78)) (by decide +kernel)) (fun s H C cl fp => (pg_name (i := 3) sc_put_in_order.nd rfl (.inl rfl) (.inr rfl))) (fun s H C cl fp => (pts_one (pt_val (pe_call G_is_before (hr.mono (by decide)) rfl m_is_before k_is_before b_is_before .nil pass0 (pa_cons (pv 3) (pa_cons (pv 1) pa_nil)))))) (fun s H C cl fp => (pv 3))) pa_nil)))
      (pss_one (ps_ret (pe_op op_catLL (pe_op op_catLL (pe_slice sl_list (pv 0) po_none (po_some (pv 2))) (pe_lst (pa_cons (pv 1) pa_nil))) (pe_slice sl_list (pv 0) (po_some (pv 2)) po_none)))))), pm_body rfl ?_ h⟩)⟩
  intro ds R hF
  obtain ⟨rs, r, rfl, hn, hrs, hr', hR⟩ := hF
  refine sd_when (td_test (xd_op od_inD (x_var (d := dR r) rfl rfl) (x_var (d := dRs rs) rfl rfl) ⟨_, rfl, sh_R r, sh_Rs rs, rfl⟩) rfl) (fun _ => sd_ret (x_var (d := dRs rs) rfl rfl) (hR rs (by omega) fun s hs => .inr hs)) (fun _ => ?_)
  refine s_set (Ra := fun d => ∃ n : Nat, d = .int (n : Int) ∧ n ≤ rs.length) (x_cb cb_len (a_cons (Ra := fun d => ∃ l : List D, d = .list l ∧ l.length ≤ rs.length) (Rl := fun ds => ∃ l : List D, ds = [.list l] ∧ l.length ≤ rs.length) (x_lc (ixd_list (ds := rs.map dR) (x_var rfl rfl)) tg_name (by decide) fun ds e => ?_) (a_nil rfl : Ax K cs _ _ (Eq [])) fun d ds ⟨l, e, h⟩ e2 => ⟨l, by rw [e, ← e2], h⟩) fun ds ⟨l, e, h⟩ => ⟨l, .inl e, l.length, rfl, h⟩) fun d hd => ?_
  · subst e
    refine ⟨by rw [List.length_map]; omega, fun pre acc => acc.length ≤ pre.length, Nat.le_refl _, fun i d acc hd ha => ?_, fun rs' h => ⟨rs', rfl, by have h : rs'.length ≤ (rs.map dR).length := h; rw [List.length_map] at h; exact h⟩⟩
    obtain ⟨s, es, rfl⟩ := gmapE hd
    have ms := List.mem_of_getElem? es
    have hln : ((rs.map dR).take (i + 1)).length = ((rs.map dR).take i).length + 1 := by rw [take_snoc hd, List.length_append]; rfl
    refine ⟨_, rfl, fun _ => True, t_B (Ra := fun d => ∃ b : Bool, d = .bool b ∧ True) (xd_call (ad_cons (x_var (d := dR s) rfl rfl) (ad_cons (x_var (d := dR r) rfl rfl) ad_nil)) ⟨s, r, rfl, hrs s ms, hr', fun b => ⟨b, rfl, trivial⟩⟩) (fun d h => h), fun _ => (show Xd K cs _ _ (dR s) from x_var rfl rfl).mono fun x _ => ?_, fun _ => by show acc.length ≤ _; have ha : acc.length ≤ _ := ha; omega⟩
    show (acc ++ [x]).length ≤ _
    have ha : acc.length ≤ _ := ha
    rw [List.length_append, hln]
    simp only [List.length_cons, List.length_nil]
    omega
  obtain ⟨n, rfl, hn2⟩ := hd
  try simp only [entG, setG, List.map_cons, List.map_nil, List.cons_append, List.nil_append, List.length_cons, List.length_nil, Nat.reduceAdd, Nat.reduceSub, List.replicate_succ, List.replicate_zero, List.set_cons_zero, List.set_cons_succ]
  refine s_ret (x_op od_catL (Ra := fun d => ∃ ys : List (Rat × Rat), d = .list (ys.map dR) ∧ ys.length ≤ n + 1 ∧ ∀ s ∈ ys, s = r ∨ s ∈ rs) (Rb := fun d => ∃ ys : List (Rat × Rat), d = .list (ys.map dR) ∧ ys.length ≤ rs.length - n ∧ ∀ s ∈ ys, s ∈ rs) (x_op od_catL (Ra := fun d => ∃ ys : List (Rat × Rat), d = .list (ys.map dR) ∧ ys.length ≤ n ∧ ∀ s ∈ ys, s ∈ rs) (Rb := Eq (.list [dR r])) (x_slice (Ra := Eq (dRs rs)) (x_var rfl rfl) (o_none (P := Eq none) rfl) (o_some (P := Eq (some (n : Int))) (Ra := Eq (.int (n : Int))) (x_var rfl rfl) fun d e => ⟨_, e.symm, rfl⟩) fun d lo hi e e1 e2 => ?_) (xd_lst (ad_cons (x_var (d := dR r) rfl rfl) ad_nil) (Nat.le_of_ble_eq_true rfl) rfl) fun d e h1 h2 => ?_) (x_slice (Ra := Eq (dRs rs)) (x_var rfl rfl) (o_some (P := Eq (some (n : Int))) (Ra := Eq (.int (n : Int))) (x_var rfl rfl) fun d e => ⟨_, e.symm, rfl⟩) (o_none (P := Eq none) rfl) fun d lo hi e e1 e2 => ?_) fun d e h1 h2 => ?_)
  · subst e e1 e2
    refine ⟨_, rfl, rs.take n, ?_, ?_, fun s hs => List.mem_of_mem_take hs⟩
    · unfold cutD
      rw [HT.sIx_none, HT.sIx_nat, List.length_map, Nat.min_eq_left hn2, Nat.sub_zero, List.drop_zero, List.map_take]
    · rw [List.length_take]
      omega
  · obtain ⟨ys, rfl, hl, hm⟩ := h1
    subst h2
    refine ⟨_, _, rfl, rfl, ?_, ys ++ [r], by rw [List.map_append]; rfl, ?_, fun s hs => ?_⟩
    · rw [List.length_map]
      simp only [List.length_cons, List.length_nil]
      omega
    · rw [List.length_append]
      simp only [List.length_cons, List.length_nil]
      omega
    · rcases List.mem_append.mp hs with z | z
      · exact .inr (hm s z)
      · exact .inl (List.mem_singleton.mp z)
  · subst e e1 e2
    refine ⟨_, rfl, rs.drop n, ?_, ?_, fun s hs => List.mem_of_mem_drop hs⟩
    · unfold cutD
      rw [HT.sIx_none, HT.sIx_nat, List.length_map, Nat.min_eq_left hn2, ← List.map_drop]
      refine congrArg PyData.list (List.take_of_length_le ?_)
      rw [List.length_map, List.length_drop]
      exact Nat.le_refl _
    · rw [List.length_drop]
      omega
  · obtain ⟨ys, rfl, hl, hm⟩ := h1
    obtain ⟨zs, rfl, hl2, hm2⟩ := h2
    refine ⟨_, _, rfl, rfl, ?_, ?_⟩
    · rw [List.length_map, List.length_map]
      omega
    · rw [← List.map_append]
      refine hR (ys ++ zs) (by rw [List.length_append]; omega) fun s hs => ?_
      rcases List.mem_append.mp hs with z | z
      · exact hm s z
      · exact .inr (hm2 s z)
def F_corners (ds : List D) (R : D → Prop) : Prop := ∃ (hs : List Pl) (n : Nat), ds = [dPs hs] ∧ n ≤ 300 ∧ hs.length ≤ 20 ∧ (∀ h ∈ hs, h.Sz n) ∧ ∀ rs : List (Rat × Rat), rs.length ≤ 1000 → (∀ r ∈ rs, RC (2 * n + 1) r) → R (dRs rs)
theorem len_corners : ∀ ds R, F_corners ds R → ds.length = 1 := fun _ _ ⟨_, _, h, _⟩ => by rw [h]; rfl
theorem RSz.mono {n k : Nat} {r : Rat × Rat} (h : RSz n r) (e : n ≤ k) : RSz k r := ⟨h.1.mono e, h.2.mono e⟩
abbrev N_corners : List Str := ["half_planes", "found", "place", "one", "other", "ray"]
theorem sc_corners : FnScope N_corners ["half_planes"] (defScope (topS 79)) := ⟨rfl, rfl, rfl, by decide +kernel, rfl, by decide +kernel, by decide +kernel⟩
theorem ok_corners (T : Tc P w K mg base cs) : Good P w K mg base cs "corners" ["half_planes"] 10 F_corners := by
  obtain ⟨f, c, fd, D0, m0, t0⟩ := T.fn 62 _ rfl
  obtain ⟨f_contains_ray, d_contains_ray, m_contains_ray, k_contains_ray, b_contains_ray, G_contains_ray⟩ := ok_contains_ray T
  obtain ⟨f_put_in_order, d_put_in_order, m_put_in_order, k_put_in_order, b_put_in_order, G_put_in_order⟩ := ok_put_in_order T
  obtain ⟨f_meeting, d_meeting, m_meeting, k_meeting, b_meeting, G_meeting⟩ := ok_meeting T
  have z_enumerate := T.fr "enumerate" (by decide)
  refine ⟨f, fd, m0, D0.kp, D0.funD.bindsN (fun _ _ _ _ _ _ us hl => match us, hl with | [_], _ => rfl), D0.ok sc_corners (fun vs H Q E h => pm_len len_corners h) (fun A outer s H vs Q E hr h => ⟨_, (pss_cons (ps_set (i := 1) sc_corners.nd rfl (.inl rfl) (pe_lst pa_nil))
      (pss_cons (ps_for PassesOwn.never rfl (pi_enum rfl z_enumerate (pa_cons (pv 0) pa_nil)) (pg_tup rfl (pgs_cons (pg_name (i := 2) sc_corners.nd rfl (.inl rfl)) (pgs_cons (pg_name (i := 3) sc_corners.nd rfl (.inl rfl)) pgs_nil))) (pss_one (ps_for PassesOwn.never rfl (pi_list (pe_slice sl_list (pv 0) (po_some (pe_op op_add (pv 2) pe_int)) po_none)) (pg_name (i := 4) sc_corners.nd rfl (.inl rfl)) (pss_cons (ps_set (i := 5) sc_corners.nd rfl (.inl rfl) (pe_call G_meeting (hr.mono (by decide)) rfl m_meeting k_meeting b_meeting .nil pass0 (pa_cons (pv 3) (pa_cons (pv 4) pa_nil))))
      (pss_one (ps_if (PW.pt (pw_and (pt_cmp (pc_notN (pv 5))) (pw_and1 (pt_val (pe_call G_contains_ray (hr.mono (by decide)) rfl m_contains_ray k_contains_ray b_contains_ray .nil pass0 (pa_cons (pv 0) (pa_cons (pv 5) pa_nil))))))) (pss_one (ps_set (i := 1) sc_corners.nd rfl (.inl rfl) (pe_call G_put_in_order (hr.mono (by decide)) rfl m_put_in_order k_put_in_order b_put_in_order .nil pass0 (pa_cons (pv 1) (pa_cons (pv 5) pa_nil))))) pss_nil))))))
      (pss_one (ps_ret (pv 1))))), pm_body rfl ?_ h⟩)⟩
  intro ds R hF
  obtain ⟨hs, n, rfl, hn3, hn, hh, hR⟩ := hF
  refine sd_set (xd_lst ad_nil (Nat.le_of_ble_eq_true rfl) rfl) ?_
  try simp only [entG, setG, List.map_cons, List.map_nil, List.cons_append, List.nil_append, List.length_cons, List.length_nil, Nat.reduceAdd, Nat.reduceSub, List.replicate_succ, List.replicate_zero, List.set_cons_zero, List.set_cons_succ]
  refine s_seq (sd_for (ixd_enum (ad_cons (x_var (d := dPs hs) rfl rfl) ad_nil)) (tg_tup (js := [2, 3]) rfl) (fun i Γ => ∃ (rs : List (Rat × Rat)) (z1 z2 z3 z4 : Sl), Γ = [.val (dPs hs), .val (dRs rs), z1, z2, z3, z4] ∧ i ≤ hs.length ∧ rs.length ≤ 20 * i ∧ ∀ r ∈ rs, RC (2 * n + 1) r) ⟨[], _, _, _, _, rfl, Nat.zero_le _, Nat.le_refl _, fun r h => by cases h⟩ ?_ ?_)
  · rintro i d Γ' hd ⟨rs, z1, z2, z3, z4, rfl, hi, hl, hb⟩
    obtain ⟨d1, hd1, rfl⟩ := enumD_get hd
    obtain ⟨h, eh, rfl⟩ := gmapE hd1
    have mh := List.mem_of_getElem? eh
    have hi2 : i < hs.length := (List.getElem?_eq_some_iff.mp eh).1
    refine ⟨_, rfl, ?_⟩
    try simp only [entG, setG, List.map_cons, List.map_nil, List.cons_append, List.nil_append, List.length_cons, List.length_nil, Nat.reduceAdd, Nat.reduceSub, List.replicate_succ, List.replicate_zero, List.set_cons_zero, List.set_cons_succ]
    refine s_for (Rl := fun es => es.length ≤ 20 ∧ ∀ d ∈ es, ∃ k ∈ hs, d = dP k) (ix_list (Ra := fun d => ∃ es, d = .list es ∧ es.length ≤ 20 ∧ ∀ d ∈ es, ∃ k ∈ hs, d = dP k) (x_slice (Ra := Eq (dPs hs)) (x_var rfl rfl) (o_some (P := fun _ => True) (xd_op od_I0 (x_var rfl rfl) (x_int rfl) ⟨_, _, rfl, rfl, rfl⟩) fun d e => ⟨_, e.symm, trivial⟩) (o_none (P := fun _ => True) trivial) fun d lo hi e _ _ => ⟨_, e.symm, _, rfl, ?_, fun x hx => ?_⟩) fun d h => h) tg_name fun es hes => ⟨fun m Γ => ∃ (rs : List (Rat × Rat)) (z3 z4 : Sl), Γ = [.val (dPs hs), .val (dRs rs), .val (.int (i : Int)), .val (dP h), z3, z4] ∧ m ≤ 20 ∧ rs.length ≤ 20 * i + m ∧ ∀ r ∈ rs, RC (2 * n + 1) r, ⟨rs, z3, z4, rfl, Nat.zero_le _, hl, hb⟩, ?_, ?_⟩
    · have := cutD_len (hs.map dP) lo hi
      rw [List.length_map] at this
      omega
    · obtain ⟨k, hk, e2⟩ := memMap (cutD_mem hx)
      exact ⟨k, hk, e2⟩
    · rintro m d Γ' hd ⟨rs, z3, z4, rfl, hm, hl, hb⟩
      obtain ⟨k, mk, rfl⟩ := hes.2 d (List.mem_of_getElem? hd)
      have hm2 : m < es.length := (List.getElem?_eq_some_iff.mp hd).1
      have hm3 := hes.1
      refine ⟨_, rfl, ?_⟩
      try simp only [entG, setG, List.map_cons, List.map_nil, List.cons_append, List.nil_append, List.length_cons, List.length_nil, Nat.reduceAdd, Nat.reduceSub, List.replicate_succ, List.replicate_zero, List.set_cons_zero, List.set_cons_succ]
      refine s_set (Ra := fun d => d = .none ∨ ∃ r, d = dR r ∧ RC (2 * n + 1) r) (xd_call (ad_cons (x_var (d := dP h) rfl rfl) (ad_cons (x_var (d := dP k) rfl rfl) ad_nil)) ⟨h, k, n, rfl, hn3, hh h mh, hh k mk, .inl rfl, fun r hr => .inr ⟨r, rfl, hr⟩⟩) fun d hd => ?_
      try simp only [entG, setG, List.map_cons, List.map_nil, List.cons_append, List.nil_append, List.length_cons, List.length_nil, Nat.reduceAdd, Nat.reduceSub, List.replicate_succ, List.replicate_zero, List.set_cons_zero, List.set_cons_succ]
      rcases hd with rfl | ⟨r, rfl, hr'⟩
      · exact sd_if (td_and (b := false) (td_B (xd_notN (x_var rfl rfl)) rfl) fun h => by cases h) (fun h => by cases h) (fun _ => s_next ⟨rs, _, _, rfl, by omega, by omega, hb⟩)
      · refine s_if (P := fun _ => True) (t_and (Pa := fun _ => True) (((td_B (xd_notN (x_var rfl rfl)) rfl) : Td K cs _ _ _).mono fun _ _ => trivial) (fun _ => t_B (Ra := fun d => ∃ b : Bool, d = .bool b ∧ True) (xd_call (ad_cons (x_var (d := dPs hs) rfl rfl) (ad_cons (x_var (d := dR r) rfl rfl) ad_nil)) ⟨hs, r, rfl, fun h m => (hh h m).mono (by omega), hr'.sz.mono (by omega), fun b => ⟨b, rfl, trivial⟩⟩) fun d h => h) fun _ => trivial) (fun _ => ?_) (fun _ => s_next ⟨rs, _, _, rfl, by omega, by omega, hb⟩)
        refine s_asg (Ra := fun d => ∃ ss : List (Rat × Rat), d = dRs ss ∧ ss.length ≤ rs.length + 1 ∧ ∀ s ∈ ss, s = r ∨ s ∈ rs) (xd_call (ad_cons (x_var (d := dRs rs) rfl rfl) (ad_cons (x_var (d := dR r) rfl rfl) ad_nil)) ⟨rs, r, rfl, by omega, fun s hs => (hb s hs).sz.mono (by omega), hr'.sz.mono (by omega), fun ss h1 h2 => ⟨ss, rfl, h1, h2⟩⟩) fun d ⟨ss, e, h1, h2⟩ => by
          subst e
          refine ⟨ss, .val (dP k), .val (dR r), rfl, by omega, by omega, fun s hs => ?_⟩
          rcases h2 s hs with rfl | z
          · exact hr'
          · exact hb s z
    · rintro Γ' ⟨rs, z3, z4, rfl, hm, hl, hb⟩
      exact ⟨rs, _, _, _, _, rfl, by omega, by have := hes.1; omega, hb⟩
  · rintro Γ' ⟨rs, z1, z2, z3, z4, rfl, hi, hl, hb⟩
    rw [enumD_length, List.length_map] at hl
    exact sd_ret (x_var rfl rfl) (hR rs (by omega) hb)
end Rt
set_option Elab.async false
set_option linter.all false
/-! Sequences e(k+2) = t e(k+1) - e(k) over the rationals. Plain Lean. -/
namespace Rt
theorem sq_nn (a : Rat) : 0 ≤ a * a := by
  rcases Rat.le_total (a := 0) (b := a) with h | h
  · exact Rat.mul_nonneg h h
  · have h2 : 0 ≤ -a := by grind
    have := Rat.mul_nonneg h2 h2
    grind
theorem arch (x : Rat) : ∃ n : Nat, x < (n : Rat) := by
  refine ⟨x.ceil.natAbs + 1, ?_⟩
  have h1 : x ≤ (x.ceil : Rat) := Rat.le_ceil
  have h2 : (x.ceil : Rat) ≤ ((x.ceil.natAbs : Int) : Rat) := Rat.intCast_le_intCast.mpr (by omega)
  rw [Rat.intCast_natCast] at h2
  rw [Rat.natCast_add]
  have : ((1 : Nat) : Rat) = 1 := rfl
  grind
theorem arch_mul {d : Rat} (hd : 0 < d) (x : Rat) : ∃ n : Nat, x < (n : Rat) * d := by
  obtain ⟨n, hn⟩ := arch (x / d)
  exact ⟨n, (Rat.div_lt_iff hd).mp hn⟩
theorem castS (n : Nat) : ((n + 1 : Nat) : Rat) = (n : Rat) + 1 := by rw [Rat.natCast_add]; rfl
/-- steps of at least d add up -/
theorem steps_up {f : Nat → Rat} {d : Rat} (h : ∀ k, d ≤ f (k + 1) - f k) : ∀ n : Nat, f 0 + (n : Rat) * d ≤ f n
  | 0 => by
    have : ((0 : Nat) : Rat) = 0 := rfl
    grind
  | n + 1 => by
    have ih := steps_up h n
    have := h n
    rw [castS]
    grind
theorem unbounded {f : Nat → Rat} {d b : Rat} (hd : 0 < d) (h : ∀ k, d ≤ f (k + 1) - f k) : ∃ n, b < f n := by
  obtain ⟨n, hn⟩ := arch_mul hd (b - f 0)
  have := steps_up h n
  exact ⟨n, by grind⟩
/-! ### small turns: f(k+2) = (2 - e) f(k+1) - f(k), 0 < e -/
section
variable {f : Nat → Rat} {e : Rat}
def Turn (f : Nat → Rat) (e : Rat) : Prop := ∀ k, f (k + 2) = (2 - e) * f (k + 1) - f k
theorem Turn.shift (h : Turn f e) (n : Nat) : Turn (fun k => f (n + k)) e := fun k => h (n + k)
theorem Turn.neg (h : Turn f e) : Turn (fun k => -f k) e := fun k => by
  have := h k
  show -f (k + 2) = (2 - e) * -f (k + 1) - -f k
  grind
/-- not positive for ever: nothing at all -/
theorem Turn.zero (he : 0 < e) (h : Turn f e) (hn : ∀ k, f k ≤ 0) : ∀ k, f (k + 1) = 0 := by
  -- differences do not fall
  have dd : ∀ k, f (k + 1) - f k ≤ f (k + 2) - f (k + 1) := fun k => by
    have h1 := h k
    have h2 : 0 ≤ e * -f (k + 1) := Rat.mul_nonneg (Rat.le_of_lt he) (by have := hn (k + 1); grind)
    grind
  have ddm : ∀ k n, f (k + 1) - f k ≤ f (k + n + 1) - f (k + n) := fun k n => by
    induction n with
    | zero => exact Rat.le_refl
    | succ n ih => exact Rat.le_trans ih (dd (k + n))
  -- none is positive
  have dn : ∀ k, f (k + 1) - f k ≤ 0 := fun k => by
    apply Rat.not_lt.mp
    intro hp
    obtain ⟨n, hb⟩ := unbounded (f := fun n => f (k + n)) (b := 0) hp fun n => ddm k n
    have := hn (k + n)
    grind
  intro k
  apply Rat.le_antisymm (hn _)
  apply Rat.not_lt.mp
  intro hlt
  -- the values stay below, so the differences rise for ever
  have mono : ∀ n, f (k + 1 + n) ≤ f (k + 1) := fun n => by
    induction n with
    | zero => exact Rat.le_refl
    | succ n ih =>
      have := dn (k + 1 + n)
      have e1 : k + 1 + (n + 1) = k + 1 + n + 1 := by omega
      rw [e1]
      grind
  have c : 0 < e * -f (k + 1) := Rat.mul_pos he (by grind)
  obtain ⟨n, hb⟩ := unbounded (f := fun n => f (k + 1 + n) - f (k + n)) (b := 0) c fun n => by
    have h1 := h (k + n)
    have h2 := mono n
    have h3 : 0 ≤ e * (f (k + 1) - f (k + 1 + n)) := Rat.mul_nonneg (Rat.le_of_lt he) (by grind)
    have e1 : k + 1 + (n + 1) = k + n + 2 := by omega
    have e2 : k + (n + 1) = k + n + 1 := by omega
    have e3 : k + 1 + n = k + n + 1 := by omega
    show e * -f (k + 1) ≤ f (k + 1 + (n + 1)) - f (k + (n + 1)) - (f (k + 1 + n) - f (k + n))
    rw [e1, e2]
    rw [e3] at h3 ⊢
    grind
  have := dn (k + n)
  have e3 : k + 1 + n = k + n + 1 := by omega
  rw [e3] at hb
  grind
/-- somewhere it is positive, and that from any place on -/
theorem Turn.pos (he : 0 < e) (h : Turn f e) (hz : f 0 ≠ 0 ∨ f 1 ≠ 0) (n : Nat) : ∃ k, n ≤ k ∧ 0 < f k := by
  apply Classical.byContradiction
  intro no
  have hn : ∀ k, f (n + k) ≤ 0 := fun k => Rat.not_lt.mp fun hp => no ⟨n + k, by omega, hp⟩
  have z := (h.shift n).zero he hn
  -- zero from there on, so zero from the start
  have back : ∀ m k, k + m = n + 1 → f k = 0 ∧ f (k + 1) = 0 := by
    intro m
    induction m with
    | zero =>
      intro k hk
      have e1 : k = n + 1 := by omega
      subst e1
      exact ⟨z 0, z 1⟩
    | succ m ih =>
      intro k hk
      have ⟨a, b⟩ := ih (k + 1) (by omega)
      have h1 := h k
      rw [show k + 1 + 1 = k + 2 from rfl] at b
      rw [a, b] at h1
      exact ⟨by grind, a⟩
  have ⟨a, b⟩ := back (n + 1) 0 (by omega)
  rcases hz with q | q
  · exact q a
  · exact q b
/-- a top: positive, and neither neighbour above it -/
theorem Turn.top (he : 0 < e) (h : Turn f e) (hz : f 0 ≠ 0 ∨ f 1 ≠ 0) : ∃ k, 0 < f (k + 1) ∧ f k ≤ f (k + 1) ∧ f (k + 2) ≤ f (k + 1) := by
  -- below zero somewhere, then above
  obtain ⟨i, _, hi⟩ := h.neg.pos he (by rcases hz with q | q; exact .inl (by grind); exact .inr (by grind)) 0
  have hi : f i < 0 := by grind
  obtain ⟨j0, hj0, hj0p⟩ := h.pos he hz i
  -- the first rise to a positive value
  have first : ∀ m, 0 < f (i + m) → ∃ k, f k ≤ 0 ∧ 0 < f (k + 1) := by
    intro m
    induction m with
    | zero => intro hp; grind
    | succ m ih =>
      intro hp
      by_cases q : 0 < f (i + m)
      · exact ih q
      · exact ⟨i + m, Rat.not_lt.mp q, hp⟩
  obtain ⟨k, hk, hkp⟩ := first (j0 - i) (by rw [show i + (j0 - i) = j0 by omega]; exact hj0p)
  -- from there it rises until a top
  apply Classical.byContradiction
  intro no
  have rise : ∀ n, f (k + n) < f (k + n + 1) ∧ f (k + 1) ≤ f (k + n + 1) := by
    intro n
    induction n with
    | zero => exact ⟨by show f k < f (k + 1); grind, Rat.le_refl⟩
    | succ n ih =>
      have hp : 0 < f (k + n + 1) := by grind
      have : ¬ f (k + n + 2) ≤ f (k + n + 1) := fun q => no ⟨k + n, hp, Rat.le_of_lt ih.1, q⟩
      have e1 : k + (n + 1) = k + n + 1 := by omega
      rw [e1]
      exact ⟨Rat.not_le.mp this, by have := Rat.not_le.mp this; have := ih.2; show f (k + 1) ≤ f (k + n + 2); grind⟩
  have c : 0 < e * f (k + 1) := Rat.mul_pos he hkp
  obtain ⟨n, hb⟩ := unbounded (f := fun n => f (k + n) - f (k + n + 1)) (b := 0) c fun n => by
    have h1 := h (k + n)
    have h2 := (rise n).2
    have h3 : 0 ≤ e * (f (k + n + 1) - f (k + 1)) := Rat.mul_nonneg (Rat.le_of_lt he) (by grind)
    show e * f (k + 1) ≤ f (k + (n + 1)) - f (k + (n + 1) + 1) - (f (k + n) - f (k + n + 1))
    rw [show k + (n + 1) = k + n + 1 by omega]
    grind
  have := (rise n).1
  grind
end
end Rt
set_option Elab.async false
set_option linter.all false
/-! Irrational turns come back near: the ellipse. Plain Lean. -/
namespace Rt
/-- the sequence x, y, t y - x, .. -/
def esq (t : Rat) : Nat → Rat → Rat → Rat
  | 0, x, _ => x
  | n + 1, x, y => esq t n y (t * y - x)
theorem esq_shift (t : Rat) : ∀ (k : Nat) (x y : Rat), t * esq t (k + 1) x y - esq t k x y = esq t (k + 2) x y
  | 0, _, _ => rfl
  | k + 1, x, y => esq_shift t k y (t * y - x)
def Rec (e : Nat → Rat) (t : Rat) : Prop := ∀ k, e (k + 2) = t * e (k + 1) - e k
theorem esq_rec (t x y : Rat) : Rec (fun k => esq t k x y) t := fun k => (esq_shift t k x y).symm
theorem rec_eq {e : Nat → Rat} {t : Rat} (h : Rec e t) : ∀ k, e k = esq t k (e 0) (e 1) := by
  have key : ∀ k, e k = esq t k (e 0) (e 1) ∧ e (k + 1) = esq t (k + 1) (e 0) (e 1) := by
    intro k
    induction k with
    | zero => exact ⟨rfl, rfl⟩
    | succ k ih =>
      refine ⟨ih.2, ?_⟩
      have := h k
      rw [show k + 1 + 1 = k + 2 from rfl, this, ih.1, ih.2, esq_shift]
  exact fun k => (key k).1
def tq (t : Rat) (m : Nat) : Rat := esq t m 2 t
def sq (t : Rat) (m : Nat) : Rat := esq t m 0 1
theorem tq_rec (t : Rat) : Rec (tq t) t := esq_rec t 2 t
theorem sq_rec (t : Rat) : Rec (sq t) t := esq_rec t 0 1
theorem tq_zero (t : Rat) : tq t 0 = 2 := rfl
theorem tq_one (t : Rat) : tq t 1 = t := rfl
theorem sq_zero (t : Rat) : sq t 0 = 0 := rfl
theorem sq_one (t : Rat) : sq t 1 = 1 := rfl
theorem jump {e : Nat → Rat} {t : Rat} (h : Rec e t) : ∀ m k, e (k + 2 * m) + e k = tq t m * e (k + m) := by
  have key : ∀ m, (∀ k, e (k + 2 * m) + e k = tq t m * e (k + m)) ∧ ∀ k, e (k + 2 * (m + 1)) + e k = tq t (m + 1) * e (k + (m + 1)) := by
    intro m
    induction m with
    | zero =>
      refine ⟨fun k => ?_, fun k => ?_⟩
      · rw [tq_zero]
        show e k + e k = 2 * e k
        grind
      · rw [show (0 : Nat) + 1 = 1 from rfl, tq_one]
        have := h k
        show e (k + 2) + e k = t * e (k + 1)
        grind
    | succ m ih =>
      refine ⟨ih.2, fun k => ?_⟩
      have a := ih.2 (k + 1)
      have b := ih.1 (k + 2)
      have c := h k
      have d := h (k + 2 * m + 2)
      have f := tq_rec t m
      rw [show k + 1 + 2 * (m + 1) = k + 2 * m + 3 by omega, show k + 1 + (m + 1) = k + m + 2 by omega] at a
      rw [show k + 2 + 2 * m = k + 2 * m + 2 by omega, show k + 2 + m = k + m + 2 by omega] at b
      rw [show k + 2 * (m + 1 + 1) = k + 2 * m + 4 by omega, show k + (m + 1 + 1) = k + m + 2 by omega, show m + 1 + 1 = m + 2 from rfl]
      rw [show k + 2 * m + 2 + 2 = k + 2 * m + 4 from rfl, show k + 2 * m + 2 + 1 = k + 2 * m + 3 from rfl] at d
      rw [f]
      grind
  exact fun m => (key m).1
theorem turn_sub {e : Nat → Rat} {t : Rat} (h : Rec e t) (m : Nat) : Turn (fun j => e (j * m)) (2 - tq t m) := fun k => by
  have := jump h m (k * m)
  show e ((k + 2) * m) = (2 - (2 - tq t m)) * e ((k + 1) * m) - e (k * m)
  rw [show (k + 2) * m = k * m + 2 * m by rw [Nat.add_mul], show (k + 1) * m = k * m + m by rw [Nat.add_mul, Nat.one_mul]]
  grind
/-- s before -/
def pq (t : Rat) (m : Nat) : Rat := esq t m (-1) 0
theorem sp_all (t : Rat) : ∀ m, (sq t (m + 1) = t * sq t m - pq t m ∧ pq t (m + 1) = sq t m) ∧ sq t m * sq t m - t * sq t m * pq t m + pq t m * pq t m = 1 ∧ tq t m = t * sq t m - 2 * pq t m := by
  have p : ∀ m, pq t (m + 1) = sq t m := by
    intro m
    show esq t m 0 (t * 0 - -1) = esq t m 0 1
    congr 1
    grind
  have s : ∀ m, sq t (m + 1) = t * sq t m - pq t m := by
    intro m
    cases m with
    | zero =>
      show (1 : Rat) = t * 0 - -1
      grind
    | succ m =>
      rw [p]
      exact sq_rec t m
  intro m
  refine ⟨⟨s m, p m⟩, ?_⟩
  induction m with
  | zero =>
    refine ⟨?_, ?_⟩
    · show (0 : Rat) * 0 - t * 0 * -1 + -1 * -1 = 1
      grind
    · show (2 : Rat) = t * 0 - 2 * -1
      grind
  | succ m ih =>
    have h1 := s m
    have h2 := p m
    refine ⟨?_, ?_⟩
    · rw [h1, h2]
      grind
    · cases m with
      | zero =>
        show t = t * 1 - 2 * 0
        grind
      | succ m =>
        have a := tq_rec t m
        have b := sq_rec t m
        have c := s m
        have d := p m
        rw [h2]
        have e1 : tq t (m + 1 + 1) = t * tq t (m + 1) - tq t m := a
        rw [e1, ih.2, d]
        have e2 : sq t (m + 1 + 1) = t * sq t (m + 1) - sq t m := b
        rw [e2]
        have f : tq t m = t * sq t m - 2 * pq t m := by
          cases m with
          | zero =>
            show (2 : Rat) = t * 0 - 2 * -1
            grind
          | succ m =>
            rw [p]
            -- tq is s after minus s before
            have key : ∀ n, tq t (n + 1) = t * sq t (n + 1) - 2 * sq t n ∧ tq t (n + 2) = t * sq t (n + 2) - 2 * sq t (n + 1) := by
              intro n
              induction n with
              | zero =>
                refine ⟨?_, ?_⟩
                · show t = t * 1 - 2 * 0
                  grind
                · show t * t - 2 = t * (t * 1 - 0) - 2 * 1
                  grind
              | succ n ih =>
                refine ⟨ih.2, ?_⟩
                have x1 := tq_rec t (n + 1)
                have x2 := sq_rec t (n + 1)
                have x3 := sq_rec t n
                rw [show n + 1 + 2 = n + 3 from rfl, show n + 1 + 1 = n + 2 from rfl] at x1 x2
                rw [show n + 1 + 2 = n + 3 from rfl, show n + 1 + 1 = n + 2 from rfl, x1, x2, ih.1, ih.2]
                grind
            exact (key m).1
        grind
/-- the turned point, and its length -/
theorem rot (t : Rat) (m : Nat) : 2 * tq t (m + 1) = t * tq t m - (4 - t * t) * sq t m ∧ 2 * sq t (m + 1) = tq t m + t * sq t m := by
  obtain ⟨⟨a, b⟩, c, d⟩ := sp_all t m
  obtain ⟨⟨a', b'⟩, c', d'⟩ := sp_all t (m + 1)
  rw [d', d, a, b]
  constructor <;> grind
theorem dot (t : Rat) (d : Nat) : ∀ i, tq t i * tq t (i + d) + (4 - t * t) * (sq t i * sq t (i + d)) = 2 * tq t d
  | 0 => by
    rw [tq_zero, sq_zero, Nat.zero_add]
    grind
  | i + 1 => by
    have ih := dot t d i
    obtain ⟨a, b⟩ := rot t i
    obtain ⟨a', b'⟩ := rot t (i + d)
    rw [show i + 1 + d = i + d + 1 by omega]
    have e1 : 4 * (tq t (i + 1) * tq t (i + d + 1)) = (t * tq t i - (4 - t * t) * sq t i) * (t * tq t (i + d) - (4 - t * t) * sq t (i + d)) := by rw [← a, ← a']; grind
    have e2 : 4 * (sq t (i + 1) * sq t (i + d + 1)) = (tq t i + t * sq t i) * (tq t (i + d) + t * sq t (i + d)) := by rw [← b, ← b']; grind
    grind
theorem len4 (t : Rat) (i : Nat) : tq t i * tq t i + (4 - t * t) * (sq t i * sq t i) = 4 := by
  have := dot t 0 i
  rw [tq_zero, Nat.add_zero] at this
  grind
theorem dist (t : Rat) (i d : Nat) : 4 * (2 - tq t d) = (tq t i - tq t (i + d)) * (tq t i - tq t (i + d)) + (4 - t * t) * ((sq t i - sq t (i + d)) * (sq t i - sq t (i + d))) := by
  have h1 := dot t d i
  have h2 := len4 t i
  have h3 := len4 t (i + d)
  grind
/-! ### pigeons -/
theorem pigeon : ∀ (n : Nat) (f : Nat → Nat), (∀ i, f i < n) → ∃ i j, i < j ∧ f i = f j
  | 0, f, h => absurd (h 0) (Nat.not_lt_zero _)
  | n + 1, f, h => by
    by_cases q : ∃ i, f i = n
    · obtain ⟨i, hi⟩ := q
      by_cases q2 : ∃ k, f (i + 1 + k) = n
      · obtain ⟨k, hk⟩ := q2
        exact ⟨i, i + 1 + k, by omega, by rw [hi, hk]⟩
      · obtain ⟨a, b, hab, e⟩ := pigeon n (fun k => f (i + 1 + k)) fun k => by
          have := h (i + 1 + k)
          have h2 : f (i + 1 + k) ≠ n := fun z => q2 ⟨k, z⟩
          show f (i + 1 + k) < n
          omega
        exact ⟨i + 1 + a, i + 1 + b, by omega, e⟩
    · exact pigeon n f fun i => by
        have := h i
        have h2 : f i ≠ n := fun z => q ⟨i, z⟩
        omega
theorem abs_le_of_sq {a b : Rat} (hb : 0 ≤ b) (h : a * a ≤ b * b) : a ≤ b ∧ -b ≤ a := by
  constructor
  · apply Rat.not_lt.mp
    intro q
    have : 0 < (a - b) * (a + b) := Rat.mul_pos (by grind) (by grind)
    grind
  · apply Rat.not_lt.mp
    intro q
    have : 0 < (-b - a) * (b - a) := Rat.mul_pos (by grind) (by grind)
    grind
theorem floor_near {x y : Rat} (h : x.floor = y.floor) : (x - y) * (x - y) ≤ 1 := by
  have a := Rat.floor_le x
  have b := Rat.lt_floor_add_one x
  have c := Rat.floor_le y
  have d := Rat.lt_floor_add_one y
  rw [h] at a b
  rw [Rat.intCast_add] at b d
  have one : ((1 : Int) : Rat) = 1 := rfl
  rw [one] at b d
  have p : 0 ≤ (1 - (x - y)) * (1 + (x - y)) := Rat.mul_nonneg (by grind) (by grind)
  grind
theorem floor_range {x : Rat} {n : Nat} (h1 : -(n : Rat) ≤ x) (h2 : x ≤ (n : Rat)) : -(n : Int) ≤ x.floor ∧ x.floor ≤ (n : Int) := by
  constructor
  · apply Rat.le_floor_iff.mpr
    rw [Rat.intCast_neg, Rat.intCast_natCast]
    exact h1
  · have a := Rat.floor_le x
    have b : (x.floor : Rat) ≤ ((n : Int) : Rat) := by rw [Rat.intCast_natCast]; exact Rat.le_trans a h2
    exact Rat.intCast_le_intCast.mp b
theorem near_fin {n D a b c d C : Rat} (hd : 4 * (2 - D) = (a - b) * (a - b) + C * ((c - d) * (c - d))) (n1 : (n * a - n * b) * (n * a - n * b) ≤ 1) (n3 : C * ((n * c - n * d) * (n * c - n * d)) ≤ C * 1) (hC : C ≤ 4) : (2 - D) * (n * n) ≤ 5 / 4 := by
  have e : 4 * ((2 - D) * (n * n)) = (n * a - n * b) * (n * a - n * b) + C * ((n * c - n * d) * (n * c - n * d)) := by
    have : 4 * ((2 - D) * (n * n)) = (4 * (2 - D)) * (n * n) := by grind
    rw [this, hd]
    grind
  grind
/-- turns by t come back as near as one likes -/
theorem near {t : Rat} (hC : (4 : Rat) ≤ 9 * (4 - t * t)) {N : Nat} (hN : 0 < N) : ∃ d, 0 < d ∧ (2 - tq t d) * ((N : Rat) * (N : Rat)) ≤ 5 / 4 := by
  have tb : ∀ i, -2 ≤ tq t i ∧ tq t i ≤ 2 := fun i => by
    have h := len4 t i
    have h2 := Rat.mul_nonneg (a := 4 - t * t) (b := sq t i * sq t i) (by grind) (sq_nn _)
    have := abs_le_of_sq (a := tq t i) (b := 2) (by decide) (by grind)
    exact ⟨this.2, this.1⟩
  have sb : ∀ i, -3 ≤ sq t i ∧ sq t i ≤ 3 := fun i => by
    have h := len4 t i
    have h2 := sq_nn (tq t i)
    have h3 : (4 : Rat) * (sq t i * sq t i) ≤ 9 * (4 - t * t) * (sq t i * sq t i) := Rat.mul_le_mul_of_nonneg_right hC (sq_nn _)
    have := abs_le_of_sq (a := sq t i) (b := 3) (by decide) (by grind)
    exact ⟨this.2, this.1⟩
  have Np : (0 : Rat) < (N : Rat) := Rat.natCast_pos.mpr hN
  have c2 : ((2 * N : Nat) : Rat) = 2 * (N : Rat) := by rw [Rat.natCast_mul]; rfl
  have c3 : ((3 * N : Nat) : Rat) = 3 * (N : Rat) := by rw [Rat.natCast_mul]; rfl
  have fa : ∀ i, -((2 * N : Nat) : Int) ≤ ((N : Rat) * tq t i).floor ∧ ((N : Rat) * tq t i).floor ≤ ((2 * N : Nat) : Int) := fun i => by
    have h1 := Rat.mul_le_mul_of_nonneg_left (tb i).1 (Rat.le_of_lt Np)
    have h2 := Rat.mul_le_mul_of_nonneg_left (tb i).2 (Rat.le_of_lt Np)
    exact floor_range (by rw [c2]; grind) (by rw [c2]; grind)
  have fb : ∀ i, -((3 * N : Nat) : Int) ≤ ((N : Rat) * sq t i).floor ∧ ((N : Rat) * sq t i).floor ≤ ((3 * N : Nat) : Int) := fun i => by
    have h1 := Rat.mul_le_mul_of_nonneg_left (sb i).1 (Rat.le_of_lt Np)
    have h2 := Rat.mul_le_mul_of_nonneg_left (sb i).2 (Rat.le_of_lt Np)
    exact floor_range (by rw [c3]; grind) (by rw [c3]; grind)
  obtain ⟨i, j, hij, e⟩ := pigeon ((4 * N + 1) * (6 * N + 1)) (fun i => (((N : Rat) * tq t i).floor + 2 * N).toNat * (6 * N + 1) + (((N : Rat) * sq t i).floor + 3 * N).toNat) fun i => by
    have a := fa i
    have b := fb i
    have h1 : (((N : Rat) * tq t i).floor + 2 * N).toNat ≤ 4 * N := by omega
    have h2 : (((N : Rat) * sq t i).floor + 3 * N).toNat ≤ 6 * N := by omega
    have h3 := Nat.mul_le_mul_right (6 * N + 1) h1
    show (((N : Rat) * tq t i).floor + 2 * N).toNat * (6 * N + 1) + (((N : Rat) * sq t i).floor + 3 * N).toNat < (4 * N + 1) * (6 * N + 1)
    rw [Nat.add_mul (4 * N) 1, Nat.one_mul]
    omega
  have e : (((N : Rat) * tq t i).floor + 2 * N).toNat * (6 * N + 1) + (((N : Rat) * sq t i).floor + 3 * N).toNat = (((N : Rat) * tq t j).floor + 2 * N).toNat * (6 * N + 1) + (((N : Rat) * sq t j).floor + 3 * N).toNat := e
  have ai := fa i
  have bi := fb i
  have aj := fa j
  have bj := fb j
  have r1 : (((N : Rat) * sq t i).floor + 3 * N).toNat < 6 * N + 1 := by omega
  have r2 : (((N : Rat) * sq t j).floor + 3 * N).toNat < 6 * N + 1 := by omega
  have q1 : (((N : Rat) * sq t i).floor + 3 * N).toNat = (((N : Rat) * sq t j).floor + 3 * N).toNat := by
    have := congrArg (· % (6 * N + 1)) e
    simp only [Nat.mul_add_mod_self_right, Nat.mod_eq_of_lt r1, Nat.mod_eq_of_lt r2] at this
    exact this
  have q2 : (((N : Rat) * tq t i).floor + 2 * N).toNat = (((N : Rat) * tq t j).floor + 2 * N).toNat := by
    rw [q1] at e
    have : (((N : Rat) * tq t i).floor + 2 * N).toNat * (6 * N + 1) = (((N : Rat) * tq t j).floor + 2 * N).toNat * (6 * N + 1) := by omega
    exact Nat.eq_of_mul_eq_mul_right (by omega) this
  have f1 : ((N : Rat) * tq t i).floor = ((N : Rat) * tq t j).floor := by omega
  have f2 : ((N : Rat) * sq t i).floor = ((N : Rat) * sq t j).floor := by omega
  have n1 := floor_near f1
  have n2 := floor_near f2
  refine ⟨j - i, by omega, ?_⟩
  have hd := dist t i (j - i)
  rw [show i + (j - i) = j by omega] at hd
  have t2 := sq_nn t
  have n3 : (4 - t * t) * (((N : Rat) * sq t i - (N : Rat) * sq t j) * ((N : Rat) * sq t i - (N : Rat) * sq t j)) ≤ (4 - t * t) * 1 := Rat.mul_le_mul_of_nonneg_left n2 (by grind)
  exact near_fin hd n1 n3 (by grind)
/-! ### no turn by t comes back -/
def zq (p A : Int) : Nat → Int
  | 0 => 2
  | 1 => p
  | m + 2 => p * zq p A (m + 1) - A * A * zq p A m
theorem zq_odd {p A : Int} (hp : p % 2 = 1) (hA : A % 2 = 0) : ∀ m, zq p A (m + 1) % 2 = 1
  | 0 => hp
  | m + 1 => by
    have ih := zq_odd hp hA m
    show (p * zq p A (m + 1) - A * A * zq p A m) % 2 = 1
    have h1 : (p * zq p A (m + 1)) % 2 = 1 := by rw [Int.mul_emod, hp, ih]; rfl
    have h2 : (A * A * zq p A m) % 2 = 0 := by rw [Int.mul_emod, Int.mul_emod A A, hA]; simp
    omega
theorem zq_tq {t : Rat} {p A : Int} (h : t * (A : Rat) = (p : Rat)) : ∀ m, tq t m * (A : Rat) ^ m = (zq p A m : Rat) := by
  have key : ∀ m, tq t m * (A : Rat) ^ m = (zq p A m : Rat) ∧ tq t (m + 1) * (A : Rat) ^ (m + 1) = (zq p A (m + 1) : Rat) := by
    intro m
    induction m with
    | zero =>
      refine ⟨?_, ?_⟩
      · rw [Rat.pow_zero, Rat.mul_one]
        rfl
      · rw [Rat.pow_succ, Rat.pow_zero, Rat.one_mul, tq_one]
        exact h
    | succ m ih =>
      refine ⟨ih.2, ?_⟩
      have e1 : tq t (m + 1 + 1) = t * tq t (m + 1) - tq t m := tq_rec t m
      have e2 : zq p A (m + 1 + 1) = p * zq p A (m + 1) - A * A * zq p A m := rfl
      rw [e1, e2, Rat.intCast_sub, Rat.intCast_mul, Rat.intCast_mul, Rat.intCast_mul, ← ih.1, ← ih.2, ← h, Rat.pow_succ, Rat.pow_succ]
      grind
  exact fun m => (key m).1
theorem tq_ne_two {t : Rat} {p A : Int} (h : t * (A : Rat) = (p : Rat)) (hp : p % 2 = 1) (hA : A % 2 = 0) (m : Nat) : tq t (m + 1) ≠ 2 := fun e => by
  have h1 := zq_tq h (m + 1)
  have h2 := zq_odd hp hA m
  rw [e, ← Rat.intCast_pow] at h1
  have h3 : ((2 * A ^ (m + 1) : Int) : Rat) = ((zq p A (m + 1) : Int) : Rat) := by rw [Rat.intCast_mul]; exact h1
  have h4 := Rat.intCast_inj.mp h3
  omega
theorem top_bound {Q S C δ F G E b : Rat} (dp : 0 < δ) (k1 : 0 < F) (k2 : E ≤ F) (k3 : G ≤ F) (k4 : G = (2 - δ) * F - E) (hb : F ≤ b) (fk : F * F - (2 - δ) * F * G + G * G = Q * S) (l4 : (2 - δ) * (2 - δ) + C * S = 4) (cp : 0 < C) : 0 < b ∧ Q * (4 - δ) ≤ (1 + δ) * (C * (b * b)) := by
  have bp : 0 < b := by grind
  refine ⟨bp, ?_⟩
  have g1 : 0 ≤ F - G := by grind
  have g2 : F - G ≤ δ * F := by grind
  have nn : 0 ≤ δ * F := Rat.mul_nonneg (Rat.le_of_lt dp) (Rat.le_of_lt k1)
  have g3 : (F - G) * (F - G) ≤ (δ * F) * (δ * F) := Rat.le_trans (Rat.mul_le_mul_of_nonneg_left g2 g1) (Rat.mul_le_mul_of_nonneg_right g2 nn)
  have g4 : δ * (F * G) ≤ δ * (F * F) := Rat.mul_le_mul_of_nonneg_left (Rat.mul_le_mul_of_nonneg_left k3 (Rat.le_of_lt k1)) (Rat.le_of_lt dp)
  have g5 : Q * S ≤ δ * ((1 + δ) * (F * F)) := by
    have e1 : Q * S = (F - G) * (F - G) + δ * (F * G) := by rw [← fk]; grind
    have e2 : δ * ((1 + δ) * (F * F)) = (δ * F) * (δ * F) + δ * (F * F) := by grind
    rw [e1, e2]
    grind
  have g6 : C * S = δ * (4 - δ) := by grind
  have g7 : F * F ≤ b * b := Rat.le_trans (Rat.mul_le_mul_of_nonneg_left hb (Rat.le_of_lt k1)) (Rat.mul_le_mul_of_nonneg_right hb (Rat.le_of_lt bp))
  have d1 : 0 ≤ 1 + δ := by grind
  have g8 : C * (Q * S) ≤ C * (δ * ((1 + δ) * (b * b))) :=
    Rat.mul_le_mul_of_nonneg_left (Rat.le_trans g5 (Rat.mul_le_mul_of_nonneg_left (Rat.mul_le_mul_of_nonneg_left g7 d1) (Rat.le_of_lt dp))) (Rat.le_of_lt cp)
  have g9 : δ * (Q * (4 - δ)) ≤ δ * ((1 + δ) * (C * (b * b))) := by
    have e1 : δ * (Q * (4 - δ)) = C * (Q * S) := by
      have : C * (Q * S) = Q * (C * S) := by grind
      rw [this, g6]
      grind
    have e2 : δ * ((1 + δ) * (C * (b * b))) = C * (δ * ((1 + δ) * (b * b))) := by grind
    rw [e1, e2]
    exact g8
  exact Rat.le_of_mul_le_mul_left g9 dp
theorem gap_close {Q W δ N : Rat} (N0 : 0 ≤ N) (h0 : 0 < δ) (cb : 0 ≤ W) (gp : 0 < 4 * Q - W) (hN : 2 * (Q + W) < N * (4 * Q - W)) (hnear : δ * ((N + 1) * (N + 1)) ≤ 5 / 4) (h1 : Q * (4 - δ) ≤ (1 + δ) * W) : False := by
  have n1 : δ * ((N + 1) * 1) ≤ δ * ((N + 1) * (N + 1)) := Rat.mul_le_mul_of_nonneg_left (Rat.mul_le_mul_of_nonneg_left (by grind) (by grind)) (Rat.le_of_lt h0)
  have a1 : δ * (N + 1) ≤ 5 / 4 := by grind
  have a2 : 4 * Q - W ≤ δ * (Q + W) := by grind
  have qp : 0 < Q + W := by grind
  have a3 : (N + 1) * (4 * Q - W) ≤ (N + 1) * (δ * (Q + W)) := Rat.mul_le_mul_of_nonneg_left a2 (by grind)
  have a4 : (δ * (N + 1)) * (Q + W) ≤ 5 / 4 * (Q + W) := Rat.mul_le_mul_of_nonneg_right a1 (Rat.le_of_lt qp)
  have a5 : (N + 1) * (4 * Q - W) = N * (4 * Q - W) + (4 * Q - W) := by grind
  have a6 : (N + 1) * (δ * (Q + W)) = (δ * (N + 1)) * (Q + W) := by grind
  rw [a5, a6] at a3
  grind
/-- below b for ever on an ellipse that is turned by t: the whole ellipse is -/
theorem ell_complete {e : Nat → Rat} {t b : Rat} {p A : Int} (hr : Rec e t) (hC : (4 : Rat) ≤ 9 * (4 - t * t)) (h : t * (A : Rat) = (p : Rat)) (hp : p % 2 = 1) (hA : A % 2 = 0) (hall : ∀ k, e k ≤ b) :
    0 ≤ b ∧ 4 * (e 0 * e 0 - t * e 0 * e 1 + e 1 * e 1) ≤ b * b * (4 - t * t) := by
  by_cases hz : e 0 = 0 ∧ e 1 = 0
  · have b0 := hall 0
    rw [hz.1] at b0
    refine ⟨b0, ?_⟩
    rw [hz.1, hz.2]
    have := Rat.mul_nonneg (sq_nn b) (show 0 ≤ 4 - t * t by grind)
    grind
  have s1 : ∀ m, (2 - tq t (m + 1)) ≠ 0 := fun m q => tq_ne_two h hp hA m (by grind)
  have le2 : ∀ m, tq t m ≤ 2 := fun m => by
    have h1 := len4 t m
    have h2 := Rat.mul_nonneg (a := 4 - t * t) (b := sq t m * sq t m) (by grind) (sq_nn _)
    exact (abs_le_of_sq (a := tq t m) (b := 2) (by decide) (by grind)).1
  -- from one near return
  have one : ∀ m, 0 < b ∧ (e 0 * e 0 - t * e 0 * e 1 + e 1 * e 1) * (4 - (2 - tq t (m + 1))) ≤ (1 + (2 - tq t (m + 1))) * ((4 - t * t) * (b * b)) := by
    intro m
    have dp : 0 < 2 - tq t (m + 1) := Rat.lt_of_le_of_ne (by have := le2 (m + 1); grind) (Ne.symm (s1 m))
    have tn := turn_sub hr (m + 1)
    -- e at m + 1 by the s sequence
    obtain ⟨_, c, d⟩ := sp_all t (m + 1)
    have em : e (m + 1) = sq t (m + 1) * e 1 - pq t (m + 1) * e 0 := by
      have lin : ∀ n, esq t n (e 0) (e 1) = sq t n * e 1 - pq t n * e 0 ∧ esq t (n + 1) (e 0) (e 1) = sq t (n + 1) * e 1 - pq t (n + 1) * e 0 := by
        intro n
        induction n with
        | zero =>
          refine ⟨?_, ?_⟩
          · show e 0 = 0 * e 1 - -1 * e 0
            grind
          · show e 1 = 1 * e 1 - 0 * e 0
            grind
        | succ n ih =>
          refine ⟨ih.2, ?_⟩
          rw [← esq_shift, ih.1, ih.2, show sq t (n + 1 + 1) = t * sq t (n + 1) - sq t n from sq_rec t n, show pq t (n + 1 + 1) = t * pq t (n + 1) - pq t n from esq_rec t (-1) 0 n]
          grind
      rw [rec_eq hr (m + 1)]
      exact (lin (m + 1)).1
    have cs : sq t (m + 1) ≠ 0 := fun q => s1 m (by
      have h1 := len4 t (m + 1)
      rw [q] at h1
      have h2 : (2 - tq t (m + 1)) * (2 + tq t (m + 1)) = 0 := by grind
      rcases Rat.mul_eq_zero.mp h2 with z | z
      · exact z
      · -- t_m = -2 : then p = +-1 with s = 0, and t_m = - 2 p
        exfalso
        have h3 := zq_tq h (m + 1)
        have h4 := zq_odd hp hA m
        have e1 : tq t (m + 1) = -2 := by grind
        rw [e1, ← Rat.intCast_pow] at h3
        have h5 : ((-2 * A ^ (m + 1) : Int) : Rat) = ((zq p A (m + 1) : Int) : Rat) := by rw [Rat.intCast_mul]; exact h3
        have h6 := Rat.intCast_inj.mp h5
        omega)
    obtain ⟨k, k1, k2, k3⟩ := tn.top dp (by
      apply Classical.byContradiction
      intro q
      have q0 : e (0 * (m + 1)) = 0 := Classical.byContradiction fun z => q (.inl z)
      have q1 : e (1 * (m + 1)) = 0 := Classical.byContradiction fun z => q (.inr z)
      rw [Nat.zero_mul] at q0
      rw [Nat.one_mul, em, q0] at q1
      have : sq t (m + 1) * e 1 = 0 := by grind
      rcases Rat.mul_eq_zero.mp this with z | z
      · exact cs z
      · exact hz ⟨q0, z⟩)
    -- the form along the turns is kept
    have form : ∀ k, e (k * (m + 1)) * e (k * (m + 1)) - tq t (m + 1) * e (k * (m + 1)) * e ((k + 1) * (m + 1)) + e ((k + 1) * (m + 1)) * e ((k + 1) * (m + 1)) = (e 0 * e 0 - t * e 0 * e 1 + e 1 * e 1) * (sq t (m + 1) * sq t (m + 1)) := by
      intro k
      induction k with
      | zero =>
        rw [Nat.zero_mul, show (0 + 1) * (m + 1) = m + 1 by omega, em, d]
        grind
      | succ k ih =>
        have h1 := tn k
        have h1 : e ((k + 2) * (m + 1)) = (2 - (2 - tq t (m + 1))) * e ((k + 1) * (m + 1)) - e (k * (m + 1)) := h1
        rw [show k + 1 + 1 = k + 2 from rfl, h1]
        grind
    have fk := form (k + 1)
    have k1 : 0 < e ((k + 1) * (m + 1)) := k1
    have k2 : e (k * (m + 1)) ≤ e ((k + 1) * (m + 1)) := k2
    have k3 : e ((k + 2) * (m + 1)) ≤ e ((k + 1) * (m + 1)) := k3
    have k4 : e ((k + 2) * (m + 1)) = (2 - (2 - tq t (m + 1))) * e ((k + 1) * (m + 1)) - e (k * (m + 1)) := tn k
    rw [show k + 1 + 1 = k + 2 from rfl] at fk
    have hb := hall ((k + 1) * (m + 1))
    have l4 := len4 t (m + 1)
    have ht : tq t (m + 1) = 2 - (2 - tq t (m + 1)) := by grind
    refine top_bound (S := sq t (m + 1) * sq t (m + 1)) dp k1 k2 k3 k4 hb ?_ ?_ (by grind)
    · rw [← ht]
      exact fk
    · rw [← ht]
      exact l4
  refine ⟨Rat.le_of_lt (one 0).1, ?_⟩
  apply Rat.not_lt.mp
  intro hlt
  have one' : ∀ m, (e 0 * e 0 - t * e 0 * e 1 + e 1 * e 1) * (4 - (2 - tq t (m + 1))) ≤ (1 + (2 - tq t (m + 1))) * ((4 - t * t) * (b * b)) := fun m => (one m).2
  have dpos : ∀ m, 0 < 2 - tq t (m + 1) := fun m => Rat.lt_of_le_of_ne (by have := le2 (m + 1); grind) (Ne.symm (s1 m))
  have cb : 0 ≤ (4 - t * t) * (b * b) := Rat.mul_nonneg (by grind) (sq_nn b)
  have gp : 0 < 4 * (e 0 * e 0 - t * e 0 * e 1 + e 1 * e 1) - (4 - t * t) * (b * b) := by grind
  obtain ⟨N, hN⟩ := arch_mul gp (2 * ((e 0 * e 0 - t * e 0 * e 1 + e 1 * e 1) + (4 - t * t) * (b * b)))
  obtain ⟨d, hd, hnear⟩ := near hC (Nat.succ_pos N)
  obtain ⟨m, rfl⟩ : ∃ m, d = m + 1 := ⟨d - 1, by omega⟩
  rw [show N.succ = N + 1 from rfl, castS] at hnear
  exact gap_close Rat.natCast_nonneg (dpos m) cb gp hN hnear (one' m)
end Rt
set_option Elab.async false
set_option linter.all false
/-! The other turns: below b for ever. Plain Lean. -/
namespace Rt
theorem form_kept {e : Nat → Rat} {t : Rat} (hr : Rec e t) : ∀ k, e k * e k - t * e k * e (k + 1) + e (k + 1) * e (k + 1) = e 0 * e 0 - t * e 0 * e 1 + e 1 * e 1
  | 0 => rfl
  | k + 1 => by
    have ih := form_kept hr k
    have h := hr k
    rw [show k + 1 + 1 = k + 2 from rfl, h, ← ih]
    grind
/-- the ellipse: all below b when its top is -/
theorem ell_sound {e : Nat → Rat} {t b : Rat} (hr : Rec e t) (hC : 0 < 4 - t * t) (hb : 0 ≤ b) (h : 4 * (e 0 * e 0 - t * e 0 * e 1 + e 1 * e 1) ≤ b * b * (4 - t * t)) (k : Nat) : e k ≤ b := by
  have hf := form_kept hr k
  rw [← hf] at h
  have s := sq_nn (2 * e (k + 1) - t * e k)
  have h1 : e k * e k * (4 - t * t) ≤ b * b * (4 - t * t) := by
    have : e k * e k * (4 - t * t) + (2 * e (k + 1) - t * e k) * (2 * e (k + 1) - t * e k) = 4 * (e k * e k - t * e k * e (k + 1) + e (k + 1) * e (k + 1)) := by grind
    grind
  have h2 : e k * e k ≤ b * b := Rat.le_of_mul_le_mul_right h1 hC
  exact (abs_le_of_sq hb h2).1
/-! ### cycles -/
theorem period {e : Nat → Rat} {n : Nat} (hn : 0 < n) (hp : ∀ k, e (k + n) = e k) {b : Rat} : (∀ k, e k ≤ b) ↔ ∀ k, k < n → e k ≤ b := by
  refine ⟨fun h k _ => h k, fun h k => ?_⟩
  have key : ∀ q r, e (r + q * n) = e r := by
    intro q
    induction q with
    | zero => intro r; rw [Nat.zero_mul, Nat.add_zero]
    | succ q ih =>
      intro r
      rw [Nat.succ_mul, ← Nat.add_assoc, hp, ih]
  have hk : k % n + k / n * n = k := by rw [Nat.mul_comm]; exact Nat.mod_add_div k n
  have := key (k / n) (k % n)
  rw [hk] at this
  rw [this]
  exact h _ (Nat.mod_lt _ hn)
theorem cyc3 {e : Nat → Rat} (hr : Rec e (-1)) (k : Nat) : e (k + 3) = e k := by
  have a := hr k
  have b := hr (k + 1)
  rw [show k + 1 + 2 = k + 3 from rfl, show k + 1 + 1 = k + 2 from rfl] at b
  grind
theorem cyc4 {e : Nat → Rat} (hr : Rec e 0) (k : Nat) : e (k + 4) = e k := by
  have a := hr k
  have b := hr (k + 2)
  rw [show k + 2 + 2 = k + 4 from rfl, show k + 2 + 1 = k + 3 from rfl] at b
  grind
theorem cyc6 {e : Nat → Rat} (hr : Rec e 1) (k : Nat) : e (k + 6) = e k := by
  have a := hr k
  have b := hr (k + 1)
  have c := hr (k + 2)
  have d := hr (k + 3)
  have f := hr (k + 4)
  rw [show k + 1 + 2 = k + 3 from rfl, show k + 1 + 1 = k + 2 from rfl] at b
  rw [show k + 2 + 2 = k + 4 from rfl, show k + 2 + 1 = k + 3 from rfl] at c
  rw [show k + 3 + 2 = k + 5 from rfl, show k + 3 + 1 = k + 4 from rfl] at d
  rw [show k + 4 + 2 = k + 6 from rfl, show k + 4 + 1 = k + 5 from rfl] at f
  grind
/-! ### t = -2 -/
theorem turn2 {e : Nat → Rat} {b : Rat} (hr : Rec e (-2)) : (∀ k, e k ≤ b) ↔ e 0 + e 1 = 0 ∧ e 0 ≤ b ∧ e 1 ≤ b := by
  -- sums of neighbours change their sign
  have ss : ∀ k, e (k + 2) + e (k + 1) = -(e (k + 1) + e k) := fun k => by have := hr k; grind
  have pr : ∀ k, e (2 * k + 2) - e (2 * k) = -2 * (e 0 + e 1) ∧ e (2 * k + 1) + e (2 * k) = e 0 + e 1 := by
    intro k
    induction k with
    | zero =>
      have := ss 0
      refine ⟨?_, ?_⟩
      · show e 2 - e 0 = _
        have : e 2 + e 1 = -(e 1 + e 0) := this
        grind
      · show e 1 + e 0 = _
        grind
    | succ k ih =>
      have a := ss (2 * k)
      have b := ss (2 * k + 1)
      have c := ss (2 * k + 2)
      rw [show 2 * k + 1 + 2 = 2 * k + 3 from rfl, show 2 * k + 1 + 1 = 2 * k + 2 from rfl] at b
      rw [show 2 * k + 2 + 2 = 2 * k + 4 from rfl, show 2 * k + 2 + 1 = 2 * k + 3 from rfl] at c
      rw [show 2 * (k + 1) + 2 = 2 * k + 4 by omega, show 2 * (k + 1) + 1 = 2 * k + 3 by omega, show 2 * (k + 1) = 2 * k + 2 by omega]
      have i1 := ih.1
      have i2 := ih.2
      constructor <;> grind
  constructor
  · intro h
    refine ⟨?_, h 0, h 1⟩
    apply Classical.byContradiction
    intro hz
    rcases Rat.le_total (a := e 0 + e 1) (b := 0) with q | q
    · have d : 0 < -2 * (e 0 + e 1) := by grind
      obtain ⟨n, hn⟩ := unbounded (f := fun k => e (2 * k)) (b := b) d fun k => by
        show _ ≤ e (2 * (k + 1)) - e (2 * k)
        rw [show 2 * (k + 1) = 2 * k + 2 by omega]
        rw [(pr k).1]
        exact Rat.le_refl
      have := h (2 * n)
      grind
    · have d : 0 < 2 * (e 0 + e 1) := by grind
      obtain ⟨n, hn⟩ := unbounded (f := fun k => e (2 * k + 1)) (b := b) d fun k => by
        show _ ≤ e (2 * (k + 1) + 1) - e (2 * k + 1)
        have a := pr k
        have c := pr (k + 1)
        rw [show 2 * (k + 1) = 2 * k + 2 by omega] at c ⊢
        have a1 := a.1
        have a2 := a.2
        have c2 := c.2
        grind
      have := h (2 * n + 1)
      grind
  · rintro ⟨h0, h1, h2⟩ k
    have key : ∀ k, (e k = e 0 ∧ e (k + 1) = e 1) ∨ (e k = e 1 ∧ e (k + 1) = e 0) := by
      intro k
      induction k with
      | zero => exact .inl ⟨rfl, rfl⟩
      | succ k ih =>
        have := ss k
        rcases ih with ⟨a, b⟩ | ⟨a, b⟩
        · exact .inr ⟨b, by show e (k + 2) = _; grind⟩
        · exact .inl ⟨b, by show e (k + 2) = _; grind⟩
    rcases key k with ⟨a, _⟩ | ⟨a, _⟩
    · rw [a]; exact h1
    · rw [a]; exact h2
/-! ### t = 2: parabolas -/
section
variable {u : Nat → Rat} {c : Rat}
def Par (u : Nat → Rat) (c : Rat) : Prop := ∀ k, u (k + 2) - u (k + 1) = u (k + 1) - u k + c
theorem Par.diff (h : Par u c) : ∀ k, u (k + 1) - u k = u 1 - u 0 + (k : Rat) * c
  | 0 => by
    have : ((0 : Nat) : Rat) = 0 := rfl
    rw [this]
    grind
  | k + 1 => by
    have ih := Par.diff h k
    have := h k
    rw [castS, show k + 1 + 1 = k + 2 from rfl]
    grind
theorem Par.up (h : Par u c) (hc : 0 < c) : ∃ k, 0 < u k := by
  obtain ⟨n, hn⟩ := arch_mul hc (1 - (u 1 - u 0))
  obtain ⟨m, hm⟩ := unbounded (f := fun k => u (n + k)) (b := 0) (d := 1) (by decide) fun k => by
    have h1 := h.diff (n + k)
    show 1 ≤ u (n + k + 1) - u (n + k)
    rw [h1, Rat.natCast_add]
    have : 0 ≤ (k : Rat) * c := Rat.mul_nonneg Rat.natCast_nonneg (Rat.le_of_lt hc)
    grind
  exact ⟨n + m, hm⟩
theorem tri (k : Nat) : 2 * (((((k : Int) * ((k : Int) - 1)) / 2 : Int)) : Rat) = (k : Rat) * ((k : Rat) - 1) := by
  have e : 2 * (((k : Int) * ((k : Int) - 1)) / 2) = (k : Int) * ((k : Int) - 1) := by
    have : ((k : Int) * ((k : Int) - 1)) % 2 = 0 := by
      rcases (show (k : Int) % 2 = 0 ∨ (k : Int) % 2 = 1 by omega) with h | h
      · rw [Int.mul_emod, h]; simp
      · have h2 : ((k : Int) - 1) % 2 = 0 := by omega
        rw [Int.mul_emod, h2]; simp
    omega
  have := congrArg (fun z : Int => (z : Rat)) e
  simp only [Rat.intCast_mul, Rat.intCast_sub, Rat.intCast_natCast] at this
  exact this
theorem Par.form (h : Par u c) : ∀ k : Nat, u k = u 0 + (k : Rat) * (u 1 - u 0) + (((((k : Int) * ((k : Int) - 1)) / 2 : Int)) : Rat) * c := by
  have two : ∀ k : Nat, 2 * u k = 2 * u 0 + 2 * (k : Rat) * (u 1 - u 0) + (k : Rat) * ((k : Rat) - 1) * c := by
    intro k
    induction k with
    | zero =>
      have : ((0 : Nat) : Rat) = 0 := rfl
      rw [this]
      grind
    | succ k ih =>
      have := h.diff k
      rw [castS]
      grind
  intro k
  have a := two k
  have b := tri k
  grind
/-- the decision at t = 2 -/
theorem par_iff (h : Par u c) : (∀ k, u k ≤ 0) ↔ ¬ (0 < c ∨ 0 < u 0) ∧ (c = 0 → u 1 - u 0 ≤ 0) ∧ (c ≠ 0 → 0 < u 1 - u 0 → u 0 + (((u 1 - u 0) / -c).ceil : Rat) * (u 1 - u 0) + ((((u 1 - u 0) / -c).ceil * (((u 1 - u 0) / -c).ceil - 1) / 2 : Int) : Rat) * c ≤ 0) := by
  constructor
  · intro hall
    refine ⟨fun hc => ?_, fun hc => ?_, fun hc hs => ?_⟩
    · rcases hc with hc | hc
      · obtain ⟨k, hk⟩ := h.up hc
        have := hall k
        grind
      · have := hall 0
        grind
    · apply Rat.not_lt.mp
      intro hs
      obtain ⟨n, hn⟩ := unbounded (f := u) (b := 0) hs fun k => by
        have := h.diff k
        rw [hc] at this
        grind
      have := hall n
      grind
    · have cn : c < 0 := by
        rcases Rat.le_total (a := c) (b := 0) with q | q
        · exact Rat.lt_of_le_of_ne q hc
        · exfalso
          have cp : 0 < c := Rat.lt_of_le_of_ne q (Ne.symm hc)
          obtain ⟨k, hk⟩ := h.up cp
          have := hall k
          grind
      have tp : 0 < (u 1 - u 0) / -c := (Rat.lt_div_iff (by grind)).mpr (by grind)
      have mp : 0 ≤ ((u 1 - u 0) / -c).ceil := by
        have : ((0 : Int) : Rat) < (((u 1 - u 0) / -c).ceil : Rat) := Rat.not_le.mp fun z => absurd (Rat.le_trans Rat.le_ceil z) (Rat.not_le.mpr tp)
        have := Rat.intCast_lt_intCast.mp this
        omega
      have hf := h.form ((u 1 - u 0) / -c).ceil.toNat
      have hall' := hall ((u 1 - u 0) / -c).ceil.toNat
      rw [← Rat.intCast_natCast, Int.toNat_of_nonneg mp] at hf
      rw [hf] at hall'
      exact hall'
  · rintro ⟨h1, h2, h3⟩
    have hc : c ≤ 0 := Rat.not_lt.mp fun q => h1 (.inl q)
    have hu : u 0 ≤ 0 := Rat.not_lt.mp fun q => h1 (.inr q)
    by_cases hs : 0 < u 1 - u 0
    · have cz : c ≠ 0 := fun z => by have := h2 z; grind
      have cn : c < 0 := Rat.lt_of_le_of_ne hc cz
      have h3 := h3 cz hs
      have tp : 0 < (u 1 - u 0) / -c := (Rat.lt_div_iff (by grind)).mpr (by grind)
      have tm := Rat.div_mul_cancel (a := u 1 - u 0) (b := -c) (by grind)
      have tc1 : (u 1 - u 0) / -c ≤ (((u 1 - u 0) / -c).ceil : Rat) := Rat.le_ceil
      have tc2 : ∀ y : Int, y < ((u 1 - u 0) / -c).ceil → (y : Rat) < (u 1 - u 0) / -c := fun y hy => Rat.lt_ceil_iff.mp hy
      generalize (u 1 - u 0) / -c = τ at *
      have mp : 0 ≤ τ.ceil := by
        have : ((0 : Int) : Rat) < (τ.ceil : Rat) := Rat.not_le.mp fun z => absurd (Rat.le_trans tc1 z) (Rat.not_le.mpr tp)
        have := Rat.intCast_lt_intCast.mp this
        omega
      have hf := h.form τ.ceil.toNat
      rw [← Rat.intCast_natCast, Int.toNat_of_nonneg mp] at hf
      rw [← hf] at h3
      generalize hM : τ.ceil = M at *
      -- rises up to M, falls behind it
      have rise : ∀ k : Nat, (k : Int) < M → u k ≤ u (k + 1) := fun k hk => by
        have a := tc2 k hk
        rw [Rat.intCast_natCast] at a
        have d := h.diff k
        have : 0 < (τ - (k : Rat)) * -c := Rat.mul_pos (by grind) (by grind)
        grind
      have fall : ∀ k : Nat, M ≤ (k : Int) → u (k + 1) ≤ u k := fun k hk => by
        have a : (M : Rat) ≤ ((k : Int) : Rat) := Rat.intCast_le_intCast.mpr hk
        rw [Rat.intCast_natCast] at a
        have d := h.diff k
        have : 0 ≤ ((k : Rat) - τ) * -c := Rat.mul_nonneg (by grind) (by grind)
        grind
      have up : ∀ n k : Nat, k + n = M.toNat → u k ≤ u M.toNat := by
        intro n
        induction n with
        | zero => intro k hk; rw [← hk]; exact Rat.le_refl
        | succ n ih =>
          intro k hk
          exact Rat.le_trans (rise k (by omega)) (ih (k + 1) (by omega))
      have down : ∀ n : Nat, u (M.toNat + n) ≤ u M.toNat := by
        intro n
        induction n with
        | zero => exact Rat.le_refl
        | succ n ih => exact Rat.le_trans (fall (M.toNat + n) (by omega)) ih
      intro k
      rcases Nat.le_total k M.toNat with q | q
      · exact Rat.le_trans (up (M.toNat - k) k (by omega)) h3
      · have := down (k - M.toNat)
        rw [show M.toNat + (k - M.toNat) = k by omega] at this
        exact Rat.le_trans this h3
    · have hs : u 1 - u 0 ≤ 0 := Rat.not_lt.mp hs
      intro k
      induction k with
      | zero => exact hu
      | succ k ih =>
        have d := h.diff k
        have : 0 ≤ (k : Rat) * -c := Rat.mul_nonneg Rat.natCast_nonneg (by grind)
        grind
end
end Rt
set_option Elab.async false
set_option linter.all false
/-! Growing turns, |t| >= 5/2. Plain Lean. -/
namespace Rt
theorem Rec.shift {e : Nat → Rat} {t : Rat} (h : Rec e t) (n : Nat) : Rec (fun k => e (n + k)) t := fun k => h (n + k)
theorem Rec.neg {e : Nat → Rat} {t : Rat} (h : Rec e t) : Rec (fun k => -e k) t := fun k => by
  have := h k
  show -e (k + 2) = t * -e (k + 1) - -e k
  grind
/-- rising once, it rises for ever -/
theorem grow_up {e : Nat → Rat} {t : Rat} (hr : Rec e t) (ht : 5 / 2 ≤ t) (h1 : 0 < e 1) (h0 : e 0 ≤ e 1) : (∀ n, e 1 ≤ e (n + 1) ∧ e n ≤ e (n + 1)) ∧ ∀ b, ∃ n, ∀ m, n ≤ m → b < e m := by
  have key : ∀ n, e 1 ≤ e (n + 1) ∧ e n ≤ e (n + 1) ∧ 1 / 2 * e 1 ≤ e (n + 2) - e (n + 1) := by
    have st : ∀ n, e 1 ≤ e (n + 1) → e n ≤ e (n + 1) → 1 / 2 * e 1 ≤ e (n + 2) - e (n + 1) := fun n a b => by
      have h := hr n
      have p : 0 ≤ (t - 5 / 2) * e (n + 1) := Rat.mul_nonneg (by grind) (by grind)
      grind
    intro n
    induction n with
    | zero => exact ⟨Rat.le_refl, h0, st 0 Rat.le_refl h0⟩
    | succ n ih =>
      obtain ⟨a, b, c⟩ := ih
      have a2 : e 1 ≤ e (n + 1 + 1) := by
        show e 1 ≤ e (n + 2)
        grind
      have b2 : e (n + 1) ≤ e (n + 1 + 1) := by
        show e (n + 1) ≤ e (n + 2)
        grind
      exact ⟨a2, b2, st (n + 1) a2 b2⟩
  refine ⟨fun n => ⟨(key n).1, (key n).2.1⟩, fun b => ?_⟩
  obtain ⟨n, hn⟩ := unbounded (f := fun n => e (n + 1)) (b := b) (d := 1 / 2 * e 1) (by grind) fun k => (key k).2.2
  refine ⟨n + 1, fun m hm => ?_⟩
  have mono : ∀ j, e (n + 1) ≤ e (n + 1 + j) := by
    intro j
    induction j with
    | zero => exact Rat.le_refl
    | succ j ih => exact Rat.le_trans ih (key (n + 1 + j)).2.1
  have := mono (m - (n + 1))
  rw [show n + 1 + (m - (n + 1)) = m by omega] at this
  have hn : b < e (n + 1) := hn
  grind
theorem grow_down {e : Nat → Rat} {t : Rat} (hr : Rec e t) (ht : 5 / 2 ≤ t) (h1 : e 1 < 0) (h0 : e 1 ≤ e 0) : (∀ n, e (n + 1) ≤ e 1 ∧ e (n + 1) ≤ e n) ∧ ∀ b, ∃ n, ∀ m, n ≤ m → e m < b := by
  obtain ⟨a, b⟩ := grow_up hr.neg ht (by grind) (by grind)
  refine ⟨fun n => ?_, fun c => ?_⟩
  · have := a n
    constructor <;> grind
  · obtain ⟨n, hn⟩ := b (-c)
    exact ⟨n, fun m hm => by have := hn m hm; grind⟩
def grow2 (x y : Rat) : Prop := (0 ≤ x ∧ x ≤ y) ∨ (x ≤ 0 ∧ y ≤ x)
def growB (t b : Rat) : Nat → Rat → Rat → Bool
  | 0, _, _ => false
  | n + 1, x, y => if x ≤ b then (if 0 ≤ x ∧ x ≤ y then false else if x ≤ 0 ∧ y ≤ x then true else growB t b n y (t * y - x)) else false
/-- here the loop ends -/
def growEnd (b x y : Rat) : Prop := b < x ∨ (0 ≤ x ∧ x ≤ y) ∨ (x ≤ 0 ∧ y ≤ x)
/-- the loop's answer -/
theorem grow_iff {t b : Rat} (ht : 5 / 2 ≤ t) : ∀ (n : Nat) (e : Nat → Rat), Rec e t → ¬ (e 0 = 0 ∧ e 1 = 0) → growEnd b (e n) (e (n + 1)) → (growB t b (n + 1) (e 0) (e 1) = true ↔ ∀ k, e k ≤ b) := by
  intro n
  induction n with
  | zero =>
    intro e hr hz hend
    unfold growB
    by_cases c0 : e 0 ≤ b
    · rw [if_pos c0]
      by_cases c1 : 0 ≤ e 0 ∧ e 0 ≤ e 1
      · rw [if_pos c1]
        refine ⟨(fun h => by cases h), fun h => ?_⟩
        have p : 0 < e 1 := Rat.lt_of_le_of_ne (by grind) (fun z => hz ⟨by grind, z.symm⟩)
        obtain ⟨n, hn⟩ := (grow_up hr ht p c1.2).2 b
        exact absurd (h n) (Rat.not_le.mpr (hn n (Nat.le_refl n)))
      · rw [if_neg c1]
        have c2 : e 0 ≤ 0 ∧ e 1 ≤ e 0 := by
          rcases hend with z | z | z
          · exact absurd c0 (Rat.not_le.mpr z)
          · exact absurd z c1
          · exact z
        rw [if_pos c2]
        have p : e 1 < 0 := Rat.lt_of_le_of_ne (by grind) (fun z => hz ⟨by grind, z⟩)
        obtain ⟨m, _⟩ := grow_down hr ht p c2.2
        refine ⟨fun _ k => ?_, fun _ => rfl⟩
        cases k with
        | zero => exact c0
        | succ k => have := (m k).1; grind
    · rw [if_neg c0]
      exact ⟨(fun h => by cases h), fun h => absurd (h 0) c0⟩
  | succ n ih =>
    intro e hr hz hend
    have ih := ih (fun k => e (k + 1)) (fun k => hr (k + 1)) (fun ⟨a, b⟩ => hz ⟨by have := hr 0; have a : e 1 = 0 := a; have b : e 2 = 0 := b; have : e 2 = t * e 1 - e 0 := this; rw [a, b] at this; grind, a⟩) hend
    have ih : growB t b (n + 1) (e 1) (e 2) = true ↔ ∀ k, e (k + 1) ≤ b := ih
    have h2 : e 2 = t * e 1 - e 0 := hr 0
    conv => lhs; unfold growB
    by_cases c0 : e 0 ≤ b
    · rw [if_pos c0]
      by_cases c1 : 0 ≤ e 0 ∧ e 0 ≤ e 1
      · rw [if_pos c1]
        refine ⟨(fun h => by cases h), fun h => ?_⟩
        have p : 0 < e 1 := Rat.lt_of_le_of_ne (by grind) (fun z => hz ⟨by grind, z.symm⟩)
        obtain ⟨n, hn⟩ := (grow_up hr ht p c1.2).2 b
        exact absurd (h n) (Rat.not_le.mpr (hn n (Nat.le_refl n)))
      · rw [if_neg c1]
        by_cases c2 : e 0 ≤ 0 ∧ e 1 ≤ e 0
        · rw [if_pos c2]
          have p : e 1 < 0 := Rat.lt_of_le_of_ne (by grind) (fun z => hz ⟨by grind, z⟩)
          obtain ⟨m, _⟩ := grow_down hr ht p c2.2
          refine ⟨fun _ k => ?_, fun _ => rfl⟩
          cases k with
          | zero => exact c0
          | succ k => have := (m k).1; grind
        · rw [if_neg c2, ← h2, ih]
          refine ⟨fun h k => ?_, fun h k => h (k + 1)⟩
          cases k with
          | zero => exact c0
          | succ k => exact h k
    · rw [if_neg c0]
      exact ⟨(fun h => by cases h), fun h => absurd (h 0) c0⟩
/-- not ending, it falls -/
theorem no_end {t x y z : Rat} (ht : 5 / 2 ≤ t) (h : z = t * y - x) (n1 : ¬ grow2 x y) (n2 : ¬ grow2 y z) : y * y < x * x := by
  apply Rat.not_le.mp
  intro q
  have fac : 0 ≤ (y - x) * (y + x) := by grind
  unfold grow2 at n1 n2
  rcases Rat.le_total (a := 0) (b := x) with hx | hx
  · rcases Rat.le_total (a := x) (b := y) with c | c
    · exact n1 (.inl ⟨hx, c⟩)
    · -- y < x, so y + x <= 0
      have c2 : y < x := Rat.lt_of_le_of_ne c (fun e => n1 (.inl ⟨hx, by rw [e]; exact Rat.le_refl⟩))
      have s : y + x ≤ 0 := by
        apply Rat.not_lt.mp
        intro p
        have : 0 < (x - y) * (y + x) := Rat.mul_pos (by grind) p
        grind
      have p : 0 ≤ (t - 1) * -y := Rat.mul_nonneg (by grind) (by grind)
      exact n2 (.inr ⟨by grind, by rw [h]; grind⟩)
  · rcases Rat.le_total (a := y) (b := x) with c | c
    · exact n1 (.inr ⟨hx, c⟩)
    · have c2 : x < y := Rat.lt_of_le_of_ne c (fun e => n1 (.inr ⟨hx, by rw [e]; exact Rat.le_refl⟩))
      have s : 0 ≤ y + x := by
        apply Rat.not_lt.mp
        intro p
        have : 0 < (y - x) * -(y + x) := Rat.mul_pos (by grind) (by grind)
        grind
      have p : 0 ≤ (t - 1) * y := Rat.mul_nonneg (by grind) (by grind)
      exact n2 (.inl ⟨by grind, by rw [h]; grind⟩)
theorem fall_step {t x y z : Rat} (ht : 5 / 2 ≤ t) (h : z = t * y - x) (h2 : z * z < y * y) : 2 * (y * y) ≤ x * x := by
  have e : x = t * y - z := by grind
  -- x^2 = (t y - z)^2 >= ((t-1) |y|)^2
  have key : (t - 1) * (t - 1) * (y * y) ≤ x * x := by
    rw [e]
    -- |z| <= |y|
    rcases Rat.le_total (a := 0) (b := y) with hy | hy
    · have b := abs_le_of_sq (a := z) (b := y) hy (Rat.le_of_lt h2)
      have c1 : (t - 1) * y ≤ t * y - z := by grind
      have c0 : 0 ≤ (t - 1) * y := Rat.mul_nonneg (by grind) hy
      have c2 := Rat.mul_le_mul_of_nonneg_left c1 c0
      have c3 := Rat.mul_le_mul_of_nonneg_right c1 (Rat.le_trans c0 c1)
      grind
    · have b := abs_le_of_sq (a := z) (b := -y) (by grind) (by grind)
      have c1 : (t - 1) * -y ≤ -(t * y - z) := by grind
      have c0 : 0 ≤ (t - 1) * -y := Rat.mul_nonneg (by grind) (by grind)
      have c2 := Rat.mul_le_mul_of_nonneg_left c1 c0
      have c3 := Rat.mul_le_mul_of_nonneg_right c1 (Rat.le_trans c0 c1)
      grind
  have c : 2 * (y * y) ≤ (t - 1) * (t - 1) * (y * y) := Rat.mul_le_mul_of_nonneg_right (by
    have : 0 ≤ (t - 5 / 2) * (t + 1 / 2) := Rat.mul_nonneg (by grind) (by grind)
    grind) (sq_nn y)
  exact Rat.le_trans c key
theorem form_le {t x y : Rat} (ht : 0 ≤ t) (h : y * y < x * x) : x * x - t * x * y + y * y ≤ (t + 2) * (x * x) ∧ -(x * x - t * x * y + y * y) ≤ (t + 2) * (x * x) := by
  have a := Rat.mul_nonneg ht (sq_nn (x + y))
  have b := Rat.mul_nonneg ht (sq_nn (x - y))
  have c : t * (y * y) ≤ t * (x * x) := Rat.mul_le_mul_of_nonneg_left (Rat.le_of_lt h) ht
  have d := sq_nn y
  constructor <;> grind
theorem t_nn {t : Rat} (h : 5 / 2 ≤ t) : 0 ≤ t := by grind
theorem t_nn2 {t : Rat} (h : 5 / 2 ≤ t) : 0 ≤ t + 2 := by grind
theorem term_fin {P E E0 Q T : Rat} (a : T * (P * E) ≤ T * E0) (b : P * Q ≤ P * (T * E)) (q : T * E0 < P * Q) : False := by
  have : P * (T * E) = T * (P * E) := by grind
  grind
/-- within n + 1 turns it grows, when the form is not too small -/
theorem grow_term {e : Nat → Rat} {t : Rat} (hr : Rec e t) (ht : 5 / 2 ≤ t) {n : Nat} (hq : (t + 2) * (e 0 * e 0) < (2 : Rat) ^ n * (e 0 * e 0 - t * e 0 * e 1 + e 1 * e 1) ∨ (t + 2) * (e 0 * e 0) < (2 : Rat) ^ n * -(e 0 * e 0 - t * e 0 * e 1 + e 1 * e 1)) : ∃ k, k ≤ n + 2 ∧ grow2 (e k) (e (k + 1)) := by
  apply Classical.byContradiction
  intro no
  have nog : ∀ k, k ≤ n + 2 → ¬ grow2 (e k) (e (k + 1)) := fun k hk g => no ⟨k, hk, g⟩
  have fall : ∀ k, k ≤ n + 1 → e (k + 1) * e (k + 1) < e k * e k := fun k hk => no_end ht (hr k) (nog k (by omega)) (nog (k + 1) (by omega))
  have dec : ∀ k, k ≤ n → (2 : Rat) ^ k * (e k * e k) ≤ e 0 * e 0 := by
    intro k
    induction k with
    | zero =>
      intro _
      rw [Rat.pow_zero]
      grind
    | succ k ih =>
      intro hk
      have a := ih (by omega)
      have b := fall_step ht (hr k) (fall (k + 1) (by omega))
      have p : (0 : Rat) ≤ (2 : Rat) ^ k := Rat.pow_nonneg (by decide)
      have c := Rat.mul_le_mul_of_nonneg_left b p
      rw [Rat.pow_succ]
      grind
  have fk := form_kept hr n
  have fl := form_le (t_nn ht) (fall n (by omega))
  rw [fk] at fl
  have p : (0 : Rat) ≤ (2 : Rat) ^ n := Rat.pow_nonneg (by decide)
  have d := Rat.mul_le_mul_of_nonneg_left (dec n (Nat.le_refl n)) (t_nn2 ht)
  rcases hq with q | q
  · exact term_fin d (Rat.mul_le_mul_of_nonneg_left fl.1 p) q
  · exact term_fin d (Rat.mul_le_mul_of_nonneg_left fl.2 p) q
end Rt
set_option Elab.async false
set_option linter.all false
/-! Growing turns: lines, and turns of the other sign. Plain Lean. -/
namespace Rt
def alt (e : Nat → Rat) : Nat → Rat := fun k => if k % 2 = 0 then e k else -e k
theorem alt_even {e : Nat → Rat} {k : Nat} (h : k % 2 = 0) : alt e k = e k := if_pos h
theorem alt_odd {e : Nat → Rat} {k : Nat} (h : k % 2 = 1) : alt e k = -e k := if_neg (by omega)
theorem alt_rec {e : Nat → Rat} {t : Rat} (hr : Rec e t) : Rec (alt e) (-t) := fun k => by
  have h := hr k
  rcases Nat.mod_two_eq_zero_or_one k with q | q
  · rw [alt_even (k := k + 2) (by omega), alt_odd (k := k + 1) (by omega), alt_even q]
    grind
  · rw [alt_odd (k := k + 2) (by omega), alt_even (k := k + 1) (by omega), alt_odd q]
    grind
theorem back_zero {e : Nat → Rat} {t : Rat} (hr : Rec e t) : ∀ k, e k = 0 → e (k + 1) = 0 → e 0 = 0 ∧ e 1 = 0
  | 0, a, b => ⟨a, b⟩
  | k + 1, a, b => back_zero hr k (by have := hr k; rw [show k + 2 = k + 1 + 1 from rfl, a, b] at this; grind) a
theorem grow_far {w : Nat → Rat} {t : Rat} (hr : Rec w t) (ht : 5 / 2 ≤ t) (hz : ¬ (w 0 = 0 ∧ w 1 = 0)) {k : Nat} (g : grow2 (w k) (w (k + 1))) : (∀ b, ∃ n, ∀ m, n ≤ m → b < w m) ∨ ∀ b, ∃ n, ∀ m, n ≤ m → w m < b := by
  have nz : ¬ (w k = 0 ∧ w (k + 1) = 0) := fun ⟨a, b⟩ => hz (back_zero hr k a b)
  rcases g with ⟨a, b⟩ | ⟨a, b⟩
  · have p : 0 < w (k + 1) := Rat.lt_of_le_of_ne (Rat.le_trans a b) (fun z => nz ⟨by grind, z.symm⟩)
    refine .inl fun c => ?_
    obtain ⟨n, hn⟩ := (grow_up (hr.shift k) ht p b).2 c
    refine ⟨k + n, fun m hm => ?_⟩
    have := hn (m - k) (by omega)
    have e : k + (m - k) = m := by omega
    show c < w m
    rw [← e]
    exact this
  · have p : w (k + 1) < 0 := Rat.lt_of_le_of_ne (Rat.le_trans b a) (fun z => nz ⟨by grind, z⟩)
    refine .inr fun c => ?_
    obtain ⟨n, hn⟩ := (grow_down (hr.shift k) ht p b).2 c
    refine ⟨k + n, fun m hm => ?_⟩
    have := hn (m - k) (by omega)
    have e : k + (m - k) = m := by omega
    show w m < c
    rw [← e]
    exact this
/-- t <= -5/2, growing: not below any bound -/
theorem neg_unb {e : Nat → Rat} {t : Rat} (hr : Rec e t) (ht : t ≤ -(5 / 2)) (hz : ¬ (e 0 = 0 ∧ e 1 = 0)) {k : Nat} (g : grow2 (alt e k) (alt e (k + 1))) (b : Rat) : ∃ n, b < e n := by
  have z : ¬ (alt e 0 = 0 ∧ alt e 1 = 0) := fun ⟨a, c⟩ => hz ⟨by rw [← alt_even (e := e) (k := 0) rfl]; exact a, by rw [alt_odd (k := 1) rfl] at c; grind⟩
  rcases grow_far (alt_rec hr) (by grind) z g with h | h
  · obtain ⟨n, hn⟩ := h b
    have := hn (2 * n) (by omega)
    rw [alt_even (by omega)] at this
    exact ⟨_, this⟩
  · obtain ⟨n, hn⟩ := h (-b)
    have := hn (2 * n + 1) (by omega)
    rw [alt_odd (by omega)] at this
    exact ⟨2 * n + 1, by grind⟩
theorem pow_arch {a c : Rat} (hc : 0 < c) : ∃ n : Nat, a < (2 : Rat) ^ n * c := by
  obtain ⟨n, hn⟩ := arch_mul hc a
  refine ⟨n, ?_⟩
  have key : ∀ n : Nat, (n : Rat) ≤ (2 : Rat) ^ n := by
    intro n
    induction n with
    | zero =>
      rw [Rat.pow_zero]
      show (0 : Rat) ≤ 1
      decide
    | succ n ih =>
      have one : (1 : Rat) ≤ (2 : Rat) ^ n := by
        clear ih
        induction n with
        | zero => rw [Rat.pow_zero]; exact Rat.le_refl
        | succ n ih => rw [Rat.pow_succ]; grind
      rw [castS, Rat.pow_succ]
      grind
  have := Rat.mul_le_mul_of_nonneg_right (key n) (Rat.le_of_lt hc)
  grind
/-- t <= -5/2 with a form that is not 0: not below any bound -/
theorem neg_form {e : Nat → Rat} {t : Rat} (hr : Rec e t) (ht : t ≤ -(5 / 2)) (hq : e 0 * e 0 - t * e 0 * e 1 + e 1 * e 1 ≠ 0) (b : Rat) : ∃ n, b < e n := by
  have hz : ¬ (e 0 = 0 ∧ e 1 = 0) := fun ⟨a, c⟩ => hq (by rw [a, c]; grind)
  have e0 : alt e 0 = e 0 := alt_even rfl
  have e1 : alt e 1 = -e 1 := alt_odd rfl
  have f : alt e 0 * alt e 0 - (-t) * alt e 0 * alt e 1 + alt e 1 * alt e 1 = e 0 * e 0 - t * e 0 * e 1 + e 1 * e 1 := by rw [e0, e1]; grind
  have h5 : 5 / 2 ≤ -t := by grind
  rcases Rat.le_total (a := 0) (b := e 0 * e 0 - t * e 0 * e 1 + e 1 * e 1) with q | q
  · have p : 0 < e 0 * e 0 - t * e 0 * e 1 + e 1 * e 1 := Rat.lt_of_le_of_ne q (Ne.symm hq)
    obtain ⟨n, hn⟩ := pow_arch (a := (-t + 2) * (alt e 0 * alt e 0)) p
    obtain ⟨k, _, g⟩ := grow_term (alt_rec hr) h5 (.inl (by rw [f]; exact hn))
    exact neg_unb hr ht hz g b
  · have p : 0 < -(e 0 * e 0 - t * e 0 * e 1 + e 1 * e 1) := by
      have : e 0 * e 0 - t * e 0 * e 1 + e 1 * e 1 < 0 := Rat.lt_of_le_of_ne q hq
      grind
    obtain ⟨n, hn⟩ := pow_arch (a := (-t + 2) * (alt e 0 * alt e 0)) p
    obtain ⟨k, _, g⟩ := grow_term (alt_rec hr) h5 (.inr (by rw [f]; exact hn))
    exact neg_unb hr ht hz g b
/-! ### on a line -/
theorem line_ratio {e : Nat → Rat} {t : Rat} (hr : Rec e t) (hq : e 0 * e 0 - t * e 0 * e 1 + e 1 * e 1 = 0) (hx : e 0 ≠ 0) : ∀ k, e k * e 1 = e (k + 1) * e 0 ∧ e (k + 2) * (e 0 * e 0) = e k * (e 1 * e 1) := by
  have st : ∀ k, e k * e 1 = e (k + 1) * e 0 → e (k + 2) * (e 0 * e 0) = e k * (e 1 * e 1) := fun k h => by
    have r := hr k
    have : e (k + 2) * (e 0 * e 0) = t * (e (k + 1) * e 0) * e 0 - e k * (e 0 * e 0) := by rw [r]; grind
    rw [this, ← h]
    grind
  intro k
  induction k with
  | zero => exact ⟨by show e 0 * e 1 = e 1 * e 0; grind, st 0 (by show e 0 * e 1 = e 1 * e 0; grind)⟩
  | succ k ih =>
    have n : e (k + 1) * e 1 = e (k + 2) * e 0 := by
      have a : (e (k + 1) * e 1 - e (k + 2) * e 0) * e 0 = 0 := by
        have h1 := ih.1
        have h2 := ih.2
        have : (e (k + 1) * e 1 - e (k + 2) * e 0) * e 0 = (e (k + 1) * e 0) * e 1 - e (k + 2) * (e 0 * e 0) := by grind
        rw [this, ← h1, h2]
        grind
      rcases Rat.mul_eq_zero.mp a with z | z
      · grind
      · exact absurd z hx
    exact ⟨n, st (k + 1) n⟩
theorem line_iff {e : Nat → Rat} {t b : Rat} (hr : Rec e t) (ht : 5 / 2 ≤ t ∨ t ≤ -(5 / 2)) (hq : e 0 * e 0 - t * e 0 * e 1 + e 1 * e 1 = 0) : (∀ k, e k ≤ b) ↔ (e 0 ≤ b ∧ e 1 ≤ b) ∧ (e 0 * e 0 < e 1 * e 1 → e 0 < 0 ∧ e 1 < 0) ∧ (¬ e 0 * e 0 < e 1 * e 1 → 0 ≤ b) := by
  by_cases hx : e 0 = 0
  · have hy : e 1 = 0 := by
      rw [hx] at hq
      have : e 1 * e 1 = 0 := by grind
      rcases Rat.mul_eq_zero.mp this with z | z <;> exact z
    have all0 : ∀ k, e k = 0 ∧ e (k + 1) = 0 := by
      intro k
      induction k with
      | zero => exact ⟨hx, hy⟩
      | succ k ih => exact ⟨ih.2, by have := hr k; rw [ih.1, ih.2] at this; show e (k + 2) = 0; grind⟩
    rw [hx, hy]
    constructor
    · intro h
      have h0 := h 0
      rw [hx] at h0
      exact ⟨⟨h0, h0⟩, fun q => absurd q (Rat.lt_irrefl), fun _ => h0⟩
    · rintro ⟨⟨h, _⟩, _⟩ k
      rw [(all0 k).1]
      exact h
  have hy : e 1 ≠ 0 := fun z => by
    rw [z] at hq
    have : e 0 * e 0 = 0 := by grind
    rcases Rat.mul_eq_zero.mp this with q | q <;> exact hx q
  have rat := line_ratio hr hq hx
  have xp : 0 < e 0 * e 0 := Rat.lt_of_le_of_ne (sq_nn _) (fun z => by rcases Rat.mul_eq_zero.mp z.symm with q | q <;> exact hx q)
  have yp : 0 < e 1 * e 1 := Rat.lt_of_le_of_ne (sq_nn _) (fun z => by rcases Rat.mul_eq_zero.mp z.symm with q | q <;> exact hy q)
  have hz : ¬ (e 0 = 0 ∧ e 1 = 0) := fun z => hx z.1
  by_cases hg : e 0 * e 0 < e 1 * e 1
  · -- it grows
    have fac : 0 < (e 1 - e 0) * (e 1 + e 0) := by grind
    have txy : t * (e 0 * e 1) = e 0 * e 0 + e 1 * e 1 := by grind
    constructor
    · intro h
      refine ⟨⟨h 0, h 1⟩, fun _ => ?_, fun q => absurd hg q⟩
      rcases ht with ht | ht
      · -- the same sign
        have sp : 0 < e 0 * e 1 := by
          apply Rat.not_le.mp
          intro q
          have : 0 ≤ t * -(e 0 * e 1) := Rat.mul_nonneg (t_nn ht) (by grind)
          grind
        rcases Rat.le_total (a := 0) (b := e 0) with s | s
        · exfalso
          have x0 : 0 < e 0 := Rat.lt_of_le_of_ne s (Ne.symm hx)
          have y0 : 0 < e 1 := by
            apply Rat.not_le.mp
            intro q
            have : 0 ≤ e 0 * -(e 1) := Rat.mul_nonneg s (by grind)
            grind
          have le : e 0 ≤ e 1 := by
            apply Rat.not_lt.mp
            intro q
            have : 0 < (e 0 - e 1) * (e 1 + e 0) := Rat.mul_pos (by grind) (by grind)
            grind
          obtain ⟨n, hn⟩ := (grow_up hr ht y0 le).2 b
          exact absurd (h n) (Rat.not_le.mpr (hn n (Nat.le_refl n)))
        · have x0 : e 0 < 0 := Rat.lt_of_le_of_ne s hx
          refine ⟨x0, ?_⟩
          apply Rat.not_le.mp
          intro q
          have : 0 ≤ -(e 0) * e 1 := Rat.mul_nonneg (by grind) q
          grind
      · -- other signs: not below b
        exfalso
        have sn : e 0 * e 1 < 0 := by
          apply Rat.not_le.mp
          intro q
          have : 0 ≤ -t * (e 0 * e 1) := Rat.mul_nonneg (by grind) q
          grind
        have g : grow2 (alt e 0) (alt e (0 + 1)) := by
          rw [alt_even (e := e) (k := 0) rfl, alt_odd (e := e) (k := 0 + 1) rfl]
          rcases Rat.le_total (a := 0) (b := e 0) with s | s
          · refine .inl ⟨s, ?_⟩
            apply Rat.not_lt.mp
            intro q
            have q : -e 1 < e 0 := q
            have y0 : e 1 < 0 := by
              apply Rat.not_le.mp
              intro z
              have := Rat.mul_nonneg s z
              grind
            have : 0 < (e 0 + e 1) * (e 0 - e 1) := Rat.mul_pos (by grind) (by grind)
            grind
          · refine .inr ⟨s, ?_⟩
            apply Rat.not_lt.mp
            intro q
            have q : e 0 < -e 1 := q
            have y0 : 0 < e 1 := by
              apply Rat.not_le.mp
              intro z
              have : 0 ≤ -(e 0) * -(e 1) := Rat.mul_nonneg (by grind) (by grind)
              grind
            have : 0 < (-(e 0) - e 1) * (e 1 - e 0) := Rat.mul_pos (by grind) (by grind)
            grind
        obtain ⟨n, hn⟩ := neg_unb hr ht hz g b
        exact absurd (h n) (Rat.not_le.mpr hn)
    · rintro ⟨⟨h0, h1⟩, h2, _⟩ k
      obtain ⟨x0, y0⟩ := h2 hg
      have ht : 5 / 2 ≤ t := by
        rcases ht with z | z
        · exact z
        · exfalso
          have p : 0 < -(e 0) * -(e 1) := Rat.mul_pos (by grind) (by grind)
          have : 0 ≤ -t * (-(e 0) * -(e 1)) := Rat.mul_nonneg (by grind) (Rat.le_of_lt p)
          grind
      have le : e 1 ≤ e 0 := by
        apply Rat.not_lt.mp
        intro q
        have : 0 < (e 1 - e 0) * -(e 1 + e 0) := Rat.mul_pos (by grind) (by grind)
        grind
      have m := (grow_down hr ht y0 le).1
      cases k with
      | zero => exact h0
      | succ k => have := (m k).1; grind
  · -- it falls
    have hle : e 1 * e 1 ≤ e 0 * e 0 := Rat.not_lt.mp hg
    have hlt : e 1 * e 1 < e 0 * e 0 := Rat.lt_of_le_of_ne hle (fun z => by
      have : (e 1 - e 0) * (e 1 + e 0) = 0 := by grind
      rcases Rat.mul_eq_zero.mp this with q | q
      · have q : e 1 = e 0 := by grind
        rw [q] at hq
        have : (2 - t) * (e 0 * e 0) = 0 := by grind
        rcases Rat.mul_eq_zero.mp this with r | r
        · rcases ht with s | s <;> grind
        · grind
      · have q : e 1 = -e 0 := by grind
        rw [q] at hq
        have : (2 + t) * (e 0 * e 0) = 0 := by grind
        rcases Rat.mul_eq_zero.mp this with r | r
        · rcases ht with s | s <;> grind
        · grind)
    constructor
    · intro h
      refine ⟨⟨h 0, h 1⟩, fun q => absurd q hg, fun _ => ?_⟩
      apply Rat.not_lt.mp
      intro hb
      -- the even places rise by a step at least
      have d : 0 < -b * (e 0 * e 0 - e 1 * e 1) := Rat.mul_pos (by grind) (by grind)
      obtain ⟨n, hn⟩ := unbounded (f := fun k => e (2 * k) * (e 0 * e 0)) (b := 0) d fun k => by
        have r := (rat (2 * k)).2
        have hk := h (2 * k)
        show _ ≤ e (2 * (k + 1)) * (e 0 * e 0) - e (2 * k) * (e 0 * e 0)
        rw [show 2 * (k + 1) = 2 * k + 2 by omega, r]
        have : 0 ≤ (b - e (2 * k)) * (e 0 * e 0 - e 1 * e 1) := Rat.mul_nonneg (by grind) (by grind)
        grind
      have hn : 0 < e (2 * n) * (e 0 * e 0) := hn
      have hk := h (2 * n)
      have : 0 ≤ -(e (2 * n)) * (e 0 * e 0) := Rat.mul_nonneg (by grind) (sq_nn _)
      grind
    · rintro ⟨⟨h0, h1⟩, _, h3⟩
      have hb := h3 hg
      have key : ∀ k, e k ≤ b ∧ e (k + 1) ≤ b := by
        intro k
        induction k with
        | zero => exact ⟨h0, h1⟩
        | succ k ih =>
          refine ⟨ih.2, ?_⟩
          show e (k + 2) ≤ b
          have r := (rat k).2
          apply Rat.le_of_mul_le_mul_right (c := e 0 * e 0) _ xp
          rw [r]
          rcases Rat.le_total (a := 0) (b := e k) with s | s
          · have a := Rat.mul_le_mul_of_nonneg_left hle s
            have c := Rat.mul_le_mul_of_nonneg_right ih.1 (sq_nn (e 0))
            exact Rat.le_trans a c
          · have a : 0 ≤ -(e k) * (e 1 * e 1) := Rat.mul_nonneg (by grind) (sq_nn _)
            have c : 0 ≤ b * (e 0 * e 0) := Rat.mul_nonneg hb (sq_nn _)
            grind
      exact fun k => (key k).1
end Rt
set_option Elab.async false
set_option linter.all false
set_option maxRecDepth 100000
set_option maxHeartbeats 4000000
set_option exponentiation.threshold 100000
/-! The walk, part 10: the decision below a bound for ever. -/
namespace Rt
open PySem PySem.Spec PyProof.Rows L2 GxR Gx RZ
variable {P : Program} {w : World} {K : PySem.W.Frag} {mg : Str → Option Value} {base : Heap} {cs : List Addr}
/-! ### trace 2 -/
def polyB (u v w : Rat) : Bool :=
  if 0 < w - v - (v - u) ∨ 0 < u then false else
  if w - v - (v - u) = 0 then decide (v - u ≤ 0) else
  if v - u ≤ 0 then true else
  decide (u + (((v - u) / -(w - v - (v - u))).ceil : Rat) * (v - u) + ((((v - u) / -(w - v - (v - u))).ceil * (((v - u) / -(w - v - (v - u))).ceil - 1) / 2 : Int) : Rat) * (w - v - (v - u)) ≤ 0)
def F_polynomial_holds (ds : List D) (R : D → Prop) : Prop := ∃ u v w : Rat, ds = [dQ u, dQ v, dQ w] ∧ Sz 170 u ∧ Sz 170 v ∧ Sz 170 w ∧ R (.bool (polyB u v w))
theorem len_polynomial_holds : ∀ ds R, F_polynomial_holds ds R → ds.length = 3 := fun _ _ ⟨_, _, _, h, _⟩ => by rw [h]; rfl
theorem ceil_num (q : Rat) : -((-q.num).fdiv (q.den : Int)) = q.ceil := by
  rw [Rat.ceil_eq_neg_floor_neg, Rat.floor_def, Rat.neg_num, Rat.neg_den, Int.fdiv_eq_ediv_of_nonneg _ (by omega)]
theorem ceil_lt {n : Nat} {q : Rat} (h : Sz n q) : q.ceil.natAbs < 2 ^ (n + 1) := by
  rw [← ceil_num, Int.fdiv_eq_ediv_of_nonneg _ (by omega), Int.natAbs_neg]
  have h1 := h.1
  have hd : (0 : Int) < q.den := by have := q.den_pos; omega
  have a := Int.ediv_mul_le (-q.num) (Int.ne_of_gt hd)
  have b := Int.lt_ediv_add_one_mul_self (-q.num) hd
  have c : ((-q.num) / (q.den : Int)).natAbs ≤ (-q.num).natAbs + 1 := by
    have h3 := Int.natAbs_ediv_le_natAbs (-q.num) (q.den : Int)
    omega
  rw [Int.natAbs_neg] at c
  rw [Nat.pow_succ]
  have : 0 < 2 ^ n := Nat.two_pow_pos n
  omega
abbrev N_polynomial_holds : List Str := ["first", "second", "third", "step", "bend", "turns", "many", "change", "curve"]
theorem sc_polynomial_holds : FnScope N_polynomial_holds ["first", "second", "third"] (defScope (topS 51)) := ⟨rfl, rfl, rfl, by decide +kernel, rfl, by decide +kernel, by decide +kernel⟩
theorem ok_polynomial_holds (T : Tc P w K mg base cs) : Good P w K mg base cs "polynomial_holds" ["first", "second", "third"] 5 F_polynomial_holds := by
  obtain ⟨f, c, fd, D0, m0, t0⟩ := T.fn 37 _ rfl
  obtain ⟨f_sign, d_sign, m_sign, k_sign, b_sign, G_sign⟩ := ok_sign T
  obtain ⟨f_add, d_add, m_add, k_add, b_add, G_add⟩ := ok_add T
  obtain ⟨f_multiply, d_multiply, m_multiply, k_multiply, b_multiply, G_multiply⟩ := ok_multiply T
  obtain ⟨f_fraction, d_fraction, m_fraction, k_fraction, b_fraction, ⟨d1_fraction, v1_fraction, b1_fraction⟩, G_fraction⟩ := ok_fraction T
  obtain ⟨f_divide, d_divide, m_divide, k_divide, b_divide, G_divide⟩ := ok_divide T
  obtain ⟨f_negative, d_negative, m_negative, k_negative, b_negative, G_negative⟩ := ok_negative T
  obtain ⟨f_subtract, d_subtract, m_subtract, k_subtract, b_subtract, G_subtract⟩ := ok_subtract T
  refine ⟨f, fd, m0, D0.kp, D0.funD.bindsN (fun _ _ _ _ _ _ us hl => match us, hl with | [_, _, _], _ => rfl), D0.ok sc_polynomial_holds (fun vs H Q E h => pm_len len_polynomial_holds h) (fun A outer s H vs Q E hr h => ⟨_, (pss_cons (ps_set (i := 3) sc_polynomial_holds.nd rfl (.inl rfl) (pe_call G_subtract (hr.mono (by decide)) rfl m_subtract k_subtract b_subtract .nil pass0 (pa_cons (pv 1) (pa_cons (pv 0) pa_nil))))
      (pss_cons (ps_set (i := 4) sc_polynomial_holds.nd rfl (.inl rfl) (pe_call G_subtract (hr.mono (by decide)) rfl m_subtract k_subtract b_subtract .nil pass0 (pa_cons (pe_call G_subtract (hr.mono (by decide)) rfl m_subtract k_subtract b_subtract .nil pass0 (pa_cons (pv 2) (pa_cons (pv 1) pa_nil))) (pa_cons (pv 3) pa_nil))))
      (pss_cons (ps_if (PW.pt (pw_or (pt_cmpR op_gt (pe_call G_sign (hr.mono (by decide)) rfl m_sign k_sign b_sign .nil pass0 (pa_cons (pv 4) pa_nil)) pe_int (nomark _)) (pw_or1 (pt_cmpR op_gt (pe_call G_sign (hr.mono (by decide)) rfl m_sign k_sign b_sign .nil pass0 (pa_cons (pv 0) pa_nil)) pe_int (nomark _))))) (pss_one (ps_ret pe_bl)) pss_nil)
      (pss_cons (ps_if (pt_cmpR op_eq (pe_call G_sign (hr.mono (by decide)) rfl m_sign k_sign b_sign .nil pass0 (pa_cons (pv 4) pa_nil)) pe_int (nomark _)) (pss_one (ps_ret (pe_cmpR op_le (pe_call G_sign (hr.mono (by decide)) rfl m_sign k_sign b_sign .nil pass0 (pa_cons (pv 3) pa_nil)) pe_int (nomark _)))) pss_nil)
      (pss_cons (ps_if (pt_cmpR op_le (pe_call G_sign (hr.mono (by decide)) rfl m_sign k_sign b_sign .nil pass0 (pa_cons (pv 3) pa_nil)) pe_int (nomark _)) (pss_one (ps_ret pe_bl)) pss_nil)
      (pss_cons (ps_set (i := 5) sc_polynomial_holds.nd rfl (.inl rfl) (pe_call G_divide (hr.mono (by decide)) rfl m_divide k_divide b_divide .nil pass0 (pa_cons (pv 3) (pa_cons (pe_call G_negative (hr.mono (by decide)) rfl m_negative k_negative b_negative .nil pass0 (pa_cons (pv 4) pa_nil)) pa_nil))))
      (pss_cons (ps_set (i := 6) sc_polynomial_holds.nd rfl (.inl rfl) (pe_un un_neg (pe_op op_fdivZ (pe_un un_neg (pe_ix (r := rIxT K) L2.ix_tup (pv 5) pe_int (fun _ _ => rfl))) (pe_ix (r := rIxT K) L2.ix_tup (pv 5) pe_int (fun _ _ => rfl)))))
      (pss_cons (ps_set (i := 7) sc_polynomial_holds.nd rfl (.inl rfl) (pe_call G_multiply (hr.mono (by decide)) rfl m_multiply k_multiply b_multiply .nil pass0 (pa_cons (pe_call G_fraction (hr.mono (by decide)) rfl m_fraction k_fraction b1_fraction v1_fraction pass0 (pa_cons (pv 6) pa_nil)) (pa_cons (pv 3) pa_nil))))
      (pss_cons (ps_set (i := 8) sc_polynomial_holds.nd rfl (.inl rfl) (pe_call G_multiply (hr.mono (by decide)) rfl m_multiply k_multiply b_multiply .nil pass0 (pa_cons (pe_call G_fraction (hr.mono (by decide)) rfl m_fraction k_fraction b1_fraction v1_fraction pass0 (pa_cons (pe_op op_fdivZ (pe_op op_mulW (pv 6) (pe_op op_sub (pv 6) pe_int)) pe_int) pa_nil)) (pa_cons (pv 4) pa_nil))))
      (pss_one (ps_ret (pe_cmpR op_le (pe_call G_sign (hr.mono (by decide)) rfl m_sign k_sign b_sign .nil pass0 (pa_cons (pe_call G_add (hr.mono (by decide)) rfl m_add k_add b_add .nil pass0 (pa_cons (pe_call G_add (hr.mono (by decide)) rfl m_add k_add b_add .nil pass0 (pa_cons (pv 0) (pa_cons (pv 7) pa_nil))) (pa_cons (pv 8) pa_nil))) pa_nil)) pe_int (nomark _))))))))))))), pm_body rfl ?_ h⟩)⟩
  intro ds R hF
  obtain ⟨u, v, w, rfl, hu, hv, hw, hR⟩ := hF
  have hb : Sz 683 (w - v - (v - u)) := Sz.sub (Sz.sub hw hv) (Sz.sub hv hu)
  unfold polyB at hR
  refine sd_set (xd_call (ad_cons (x_var rfl rfl) (ad_cons (x_var rfl rfl) ad_nil)) (sp_subtract (Sz.mono hv (by decide : 170 ≤ 4400)) (Sz.mono hu (by decide : 170 ≤ 4400)) rfl)) ?_
  try simp only [entG, setG, List.map_cons, List.map_nil, List.cons_append, List.nil_append, List.length_cons, List.length_nil, Nat.reduceAdd, Nat.reduceSub, List.replicate_succ, List.replicate_zero, List.set_cons_zero, List.set_cons_succ]
  refine sd_set (d := dQ (w - v - (v - u))) (xd_call (ad_cons (xd_call (ad_cons (x_var rfl rfl) (ad_cons (x_var rfl rfl) ad_nil)) (sp_subtract (hw.mono (by decide)) (hv.mono (by decide)) rfl)) (ad_cons (x_var rfl rfl) ad_nil)) (sp_subtract (Sz.mono (Sz.sub hw hv) (by decide)) (Sz.mono (Sz.sub hv hu) (by decide)) rfl)) ?_
  try simp only [entG, setG, List.map_cons, List.map_nil, List.cons_append, List.nil_append, List.length_cons, List.length_nil, Nat.reduceAdd, Nat.reduceSub, List.replicate_succ, List.replicate_zero, List.set_cons_zero, List.set_cons_succ]
  generalize hB : w - v - (v - u) = bend at hb hR ⊢
  generalize hS : v - u = step at hR ⊢
  have hs : Sz 341 step := hS ▸ Sz.sub hv hu
  refine sd_when (td_or (td_test (xd_op od_B0 (xd_call (ad_cons (x_var rfl rfl) ad_nil) (sp_sign rfl)) (x_int rfl) ⟨_, _, rfl, rfl, rfl⟩) rfl) (fun _ => (td_test (xd_op od_B0 (xd_call (ad_cons (x_var rfl rfl) ad_nil) (sp_sign rfl)) (x_int rfl) ⟨_, _, rfl, rfl, rfl⟩) rfl))) (fun hc => ?_) (fun hc => ?_)
  · simp only [Bool.or_eq_true, decide_eq_true_eq, sg_pos] at hc
    rw [if_pos hc] at hR
    exact sd_ret (x_bl rfl) hR
  simp only [Bool.or_eq_false_iff, decide_eq_false_iff_not, sg_pos] at hc
  rw [if_neg (fun z => z.elim hc.1 hc.2)] at hR
  refine sd_when (td_test (xd_op od_eqI (xd_call (ad_cons (x_var rfl rfl) ad_nil) (sp_sign rfl)) (x_int rfl) ⟨_, _, rfl, rfl, rfl⟩) rfl) (fun hc2 => ?_) (fun hc2 => ?_)
  · rw [if_pos (sg_eq.mp (of_decide_eq_true hc2))] at hR
    exact sd_ret (Xd.to (xd_op od_B0 (xd_call (ad_cons (x_var rfl rfl) ad_nil) (sp_sign rfl)) (x_int rfl) ⟨_, _, rfl, rfl, rfl⟩) (by rw [decide_eq_decide.mpr sg_le])) hR
  have b0 : bend ≠ 0 := fun z => of_decide_eq_false hc2 (sg_eq.mpr z)
  rw [if_neg b0] at hR
  refine sd_when (td_test (xd_op od_B0 (xd_call (ad_cons (x_var rfl rfl) ad_nil) (sp_sign rfl)) (x_int rfl) ⟨_, _, rfl, rfl, rfl⟩) rfl) (fun hc3 => ?_) (fun hc3 => ?_)
  · rw [if_pos (sg_le.mp (of_decide_eq_true hc3))] at hR
    exact sd_ret (x_bl rfl) hR
  rw [if_neg (fun z => of_decide_eq_false hc3 (sg_le.mpr z))] at hR
  have nb0 : -bend ≠ 0 := fun z => b0 (by grind)
  have ht : Sz 1024 (step / -bend) := Sz.div hs hb.neg
  refine sd_set (xd_call (ad_cons (x_var rfl rfl) (ad_cons (xd_call (ad_cons (x_var rfl rfl) ad_nil) (sp_negative rfl)) ad_nil)) (sp_divide (hs.mono (by decide)) (hb.neg.mono (by decide)) nb0 rfl)) ?_
  try simp only [entG, setG, List.map_cons, List.map_nil, List.cons_append, List.nil_append, List.length_cons, List.length_nil, Nat.reduceAdd, Nat.reduceSub, List.replicate_succ, List.replicate_zero, List.set_cons_zero, List.set_cons_succ]
  generalize step / -bend = turns at ht hR ⊢
  refine sd_set (d := .int turns.ceil) (Xd.to (xd_neg (xd_op od_I (xd_neg (xd_op od_ixT (x_var rfl rfl) (x_int rfl) ⟨_, _, _, rfl, rfl, rfl, rfl⟩)) (xd_op od_ixT (x_var rfl rfl) (x_int rfl) ⟨_, _, _, rfl, rfl, rfl, rfl⟩) ⟨_, _, rfl, rfl, ?_, rfl⟩)) (by rw [ceil_num])) ?_
  · exact ⟨denI_ne turns, log_lt (den_lt ht) (by decide) (by decide)⟩
  try simp only [entG, setG, List.map_cons, List.map_nil, List.cons_append, List.nil_append, List.length_cons, List.length_nil, Nat.reduceAdd, Nat.reduceSub, List.replicate_succ, List.replicate_zero, List.set_cons_zero, List.set_cons_succ]
  have hm := ceil_lt ht
  have hm2 : (turns.ceil - 1).natAbs < 2 ^ 1026 := by
    rw [show (2 : Nat) ^ 1026 = 2 ^ 1025 * 2 from Nat.pow_succ 2 1025]
    have : 1 ≤ 2 ^ 1025 := Nat.one_le_two_pow
    omega
  have hq : (turns.ceil * (turns.ceil - 1) / 2).natAbs < 2 ^ 2051 := by
    have h1 := iabs_mul hm hm2 (rfl : 1025 + 1026 = 2051)
    have h2 := Int.natAbs_ediv_le_natAbs (turns.ceil * (turns.ceil - 1)) 2
    exact Nat.lt_of_le_of_lt h2 h1
  generalize hM : turns.ceil = many at hm hm2 hq hR ⊢
  refine sd_set (xd_call (ad_cons (xd_callD (ad_cons (x_var rfl rfl) ad_nil) (fun _ => .cons (.int _) .nil) (sp_fraction1 rfl)) (ad_cons (x_var rfl rfl) ad_nil)) (sp_multiply (Sz.mono (Sz.int hm (by decide)) (by decide : 1025 ≤ 4400)) (Sz.mono hs (by decide : 341 ≤ 4400)) rfl)) ?_
  try simp only [entG, setG, List.map_cons, List.map_nil, List.cons_append, List.nil_append, List.length_cons, List.length_nil, Nat.reduceAdd, Nat.reduceSub, List.replicate_succ, List.replicate_zero, List.set_cons_zero, List.set_cons_succ]
  have hch : Sz 1366 ((many : Rat) * step) := (Sz.int hm (by decide)).mul hs
  have hcu : Sz 2734 (((many * (many - 1) / 2 : Int) : Rat) * bend) := (Sz.int hq (by decide)).mul hb
  refine sd_set (d := dQ (((many * (many - 1) / 2 : Int) : Rat) * bend)) (xd_call (ad_cons (xd_callD (ad_cons (xd_op od_I (xd_op od_I (x_var rfl rfl) (xd_op od_I0 (x_var rfl rfl) (x_int rfl) ⟨_, _, rfl, rfl, rfl⟩) ⟨_, _, rfl, rfl, wmul hm hm2 (by decide) (by decide) (by decide), rfl⟩) (x_int rfl) ⟨_, _, rfl, rfl, ⟨by decide, by decide⟩, rfl⟩) ad_nil) (fun _ => .cons (.int _) .nil) (sp_fraction1 rfl)) (ad_cons (x_var rfl rfl) ad_nil)) (by
    rw [Int.fdiv_eq_ediv_of_nonneg _ (by decide)]
    exact sp_multiply (Sz.mono (Sz.int hq (by decide)) (by decide)) (hb.mono (by decide)) rfl)) ?_
  try simp only [entG, setG, List.map_cons, List.map_nil, List.cons_append, List.nil_append, List.length_cons, List.length_nil, Nat.reduceAdd, Nat.reduceSub, List.replicate_succ, List.replicate_zero, List.set_cons_zero, List.set_cons_succ]
  exact sd_ret (Xd.to (xd_op od_B0 (xd_call (ad_cons (xd_call (ad_cons (xd_call (ad_cons (x_var rfl rfl) (ad_cons (x_var rfl rfl) ad_nil)) (sp_add (Sz.mono hu (by decide : 170 ≤ 4400)) (Sz.mono hch (by decide : 1366 ≤ 4400)) rfl)) (ad_cons (x_var rfl rfl) ad_nil)) (sp_add (Sz.mono (Sz.add hu hch) (by decide : 1537 ≤ 4400)) (Sz.mono hcu (by decide : 2734 ≤ 4400)) rfl)) ad_nil) (sp_sign rfl)) (x_int rfl) ⟨_, _, rfl, rfl, rfl⟩) (by rw [decide_eq_decide.mpr sg_le])) hR
/-! ### the form -/
def formQ (x y t : Rat) : Rat := x * x - t * x * y + y * y
def F_form_of (ds : List D) (R : D → Prop) : Prop := ∃ x y t : Rat, ds = [dQ x, dQ y, dQ t] ∧ Sz 400 x ∧ Sz 400 y ∧ Sz 400 t ∧ R (dQ (formQ x y t))
theorem len_form_of : ∀ ds R, F_form_of ds R → ds.length = 3 := fun _ _ ⟨_, _, _, h, _⟩ => by rw [h]; rfl
theorem sp_form_of {x y t : Rat} {R : D → Prop} (hx : Sz 400 x) (hy : Sz 400 y) (ht : Sz 400 t) (k : R (dQ (formQ x y t))) : F_form_of [dQ x, dQ y, dQ t] R := ⟨x, y, t, rfl, hx, hy, ht, k⟩
theorem form_Sz {x y t : Rat} (hx : Sz 400 x) (hy : Sz 400 y) (ht : Sz 400 t) : Sz 2803 (formQ x y t) := Sz.mono (Sz.add (Sz.sub (Sz.mul hx hx) (Sz.mul (Sz.mul ht hx) hy)) (Sz.mul hy hy)) (by decide)
abbrev N_form_of : List Str := ["one", "other", "trace", "mixed"]
theorem sc_form_of : FnScope N_form_of ["one", "other", "trace"] (defScope (topS 52)) := ⟨rfl, rfl, rfl, by decide +kernel, rfl, by decide +kernel, by decide +kernel⟩
theorem ok_form_of (T : Tc P w K mg base cs) : Good P w K mg base cs "form_of" ["one", "other", "trace"] 5 F_form_of := by
  obtain ⟨f, c, fd, D0, m0, t0⟩ := T.fn 38 _ rfl
  obtain ⟨f_add, d_add, m_add, k_add, b_add, G_add⟩ := ok_add T
  obtain ⟨f_multiply, d_multiply, m_multiply, k_multiply, b_multiply, G_multiply⟩ := ok_multiply T
  obtain ⟨f_subtract, d_subtract, m_subtract, k_subtract, b_subtract, G_subtract⟩ := ok_subtract T
  refine ⟨f, fd, m0, D0.kp, D0.funD.bindsN (fun _ _ _ _ _ _ us hl => match us, hl with | [_, _, _], _ => rfl), D0.ok sc_form_of (fun vs H Q E h => pm_len len_form_of h) (fun A outer s H vs Q E hr h => ⟨_, (pss_cons (ps_set (i := 3) sc_form_of.nd rfl (.inl rfl) (pe_call G_multiply (hr.mono (by decide)) rfl m_multiply k_multiply b_multiply .nil pass0 (pa_cons (pe_call G_multiply (hr.mono (by decide)) rfl m_multiply k_multiply b_multiply .nil pass0 (pa_cons (pv 2) (pa_cons (pv 0) pa_nil))) (pa_cons (pv 1) pa_nil))))
      (pss_one (ps_ret (pe_call G_add (hr.mono (by decide)) rfl m_add k_add b_add .nil pass0 (pa_cons (pe_call G_subtract (hr.mono (by decide)) rfl m_subtract k_subtract b_subtract .nil pass0 (pa_cons (pe_call G_multiply (hr.mono (by decide)) rfl m_multiply k_multiply b_multiply .nil pass0 (pa_cons (pv 0) (pa_cons (pv 0) pa_nil))) (pa_cons (pv 3) pa_nil))) (pa_cons (pe_call G_multiply (hr.mono (by decide)) rfl m_multiply k_multiply b_multiply .nil pass0 (pa_cons (pv 1) (pa_cons (pv 1) pa_nil))) pa_nil)))))), pm_body rfl ?_ h⟩)⟩
  intro ds R hF
  obtain ⟨x, y, t, rfl, hx, hy, ht, hR⟩ := hF
  refine sd_set (d := dQ (t * x * y)) (xd_call (ad_cons (xd_call (ad_cons (x_var rfl rfl) (ad_cons (x_var rfl rfl) ad_nil)) (sp_multiply (ht.mono (by decide)) (hx.mono (by decide)) rfl)) (ad_cons (x_var rfl rfl) ad_nil)) (sp_multiply (Sz.mono (Sz.mul ht hx) (by decide)) (hy.mono (by decide)) rfl)) ?_
  try simp only [entG, setG, List.map_cons, List.map_nil, List.cons_append, List.nil_append, List.length_cons, List.length_nil, Nat.reduceAdd, Nat.reduceSub, List.replicate_succ, List.replicate_zero, List.set_cons_zero, List.set_cons_succ]
  exact sd_ret (xd_call (ad_cons (xd_call (ad_cons (xd_call (ad_cons (x_var rfl rfl) (ad_cons (x_var rfl rfl) ad_nil)) (sp_multiply (Sz.mono hx (by decide : 400 ≤ 4400)) (Sz.mono hx (by decide : 400 ≤ 4400)) rfl)) (ad_cons (x_var rfl rfl) ad_nil)) (sp_subtract (Sz.mono (Sz.mul hx hx) (by decide : 800 ≤ 4400)) (Sz.mono (Sz.mul (Sz.mul ht hx) hy) (by decide : 1200 ≤ 4400)) rfl)) (ad_cons (xd_call (ad_cons (x_var rfl rfl) (ad_cons (x_var rfl rfl) ad_nil)) (sp_multiply (Sz.mono hy (by decide : 400 ≤ 4400)) (Sz.mono hy (by decide : 400 ≤ 4400)) rfl)) ad_nil)) (sp_add (Sz.mono (Sz.sub (Sz.mul hx hx) (Sz.mul (Sz.mul ht hx) hy)) (by decide : 2001 ≤ 4400)) (Sz.mono (Sz.mul hy hy) (by decide : 800 ≤ 4400)) rfl)) hR
def cycB (n : Nat) (x y t b : Rat) : Bool := (List.range n).all fun k => decide (esq t k x y ≤ b)
def F_cycle_holds (ds : List D) (R : D → Prop) : Prop := ∃ (x y t b : Rat) (n : Nat), ds = [dQ x, dQ y, dQ t, dQ b] ∧ cycAt t.num t.den = some (n : Int) ∧ n ≤ 100 ∧ Sz 400 t ∧ Sz 400 b ∧ (∀ k, Sz 1000 (esq t k x y)) ∧ R (.bool (cycB n x y t b))
theorem len_cycle_holds : ∀ ds R, F_cycle_holds ds R → ds.length = 4 := fun _ _ ⟨_, _, _, _, _, h, _⟩ => by rw [h]; rfl
abbrev N_cycle_holds : List Str := ["one", "other", "trace", "bound", "turn"]
theorem sc_cycle_holds : FnScope N_cycle_holds ["one", "other", "trace", "bound"] (defScope (topS 53)) := ⟨rfl, rfl, rfl, by decide +kernel, rfl, by decide +kernel, by decide +kernel⟩
theorem ok_cycle_holds (T : Tc P w K mg base cs) : Good P w K mg base cs "cycle_holds" ["one", "other", "trace", "bound"] 7 F_cycle_holds := by
  obtain ⟨f, c, fd, D0, m0, t0⟩ := T.fn 39 _ rfl
  obtain ⟨f_subtract, d_subtract, m_subtract, k_subtract, b_subtract, G_subtract⟩ := ok_subtract T
  obtain ⟨f_multiply, d_multiply, m_multiply, k_multiply, b_multiply, G_multiply⟩ := ok_multiply T
  obtain ⟨f_is_less, d_is_less, m_is_less, k_is_less, b_is_less, G_is_less⟩ := ok_is_less T
  have z_range := T.fr "range" (by decide)
  obtain ⟨a_CYCLES, m_CYCLES, q_CYCLES⟩ := T.cyc
  refine ⟨f, fd, m0, D0.kp, D0.funD.bindsN (fun _ _ _ _ _ _ us hl => match us, hl with | [_, _, _, _], _ => rfl), D0.ok sc_cycle_holds (fun vs H Q E h => pm_len len_cycle_holds h) (fun A outer s H vs Q E hr h => ⟨_, (pss_cons (ps_for PassesOwn.never rfl (pi_range1 rfl z_range (pa_cons (pe_ix (ix_cyc q_CYCLES (hu_of hr)) (pe_glob (v := .ref a_CYCLES) rfl m_CYCLES rfl) (pv 2) (fun _ _ => rfl)) pa_nil)) (pg_name (i := 4) sc_cycle_holds.nd rfl (.inl rfl)) (pss_cons (ps_if (pt_val (pe_call G_is_less (hr.mono (by decide)) rfl m_is_less k_is_less b_is_less .nil pass0 (pa_cons (pv 3) (pa_cons (pv 0) pa_nil)))) (pss_one (ps_ret pe_bl)) pss_nil)
      (pss_one (ps_par (i := 0) (j := 1) rfl sc_cycle_holds.nd rfl rfl (by decide) rfl rfl (pa_cons (pv 1) (pa_cons (pe_call G_subtract (hr.mono (by decide)) rfl m_subtract k_subtract b_subtract .nil pass0 (pa_cons (pe_call G_multiply (hr.mono (by decide)) rfl m_multiply k_multiply b_multiply .nil pass0 (pa_cons (pv 2) (pa_cons (pv 1) pa_nil))) (pa_cons (pv 0) pa_nil))) pa_nil)) rfl))))
      (pss_one (ps_ret pe_bl))), pm_body rfl ?_ h⟩)⟩
  intro ds R hF
  obtain ⟨x, y, t, b, n, rfl, hcy, hn, ht, hb, hs, hR⟩ := hF
  refine s_seq (sd_for (ixd_rng1 (j := (n : Int)) (ad_cons (x_cycAt (x_var (d := dQ t) rfl rfl) hcy) ad_nil) (by omega) (by omega)) tg_name (fun i Γ => ∃ z, Γ = [.val (dQ (esq t i x y)), .val (dQ (esq t (i + 1) x y)), .val (dQ t), .val (dQ b), z] ∧ ∀ k, k < i → esq t k x y ≤ b) ⟨_, rfl, fun k h => absurd h (Nat.not_lt_zero k)⟩ ?_ ?_)
  · rintro i d Γ' hd ⟨z, rfl, hall⟩
    obtain ⟨hi, rfl⟩ := rngD_get hd
    refine ⟨_, rfl, ?_⟩
    try simp only [entG, setG, List.map_cons, List.map_nil, List.cons_append, List.nil_append, List.length_cons, List.length_nil, Nat.reduceAdd, Nat.reduceSub, List.replicate_succ, List.replicate_zero, List.set_cons_zero, List.set_cons_succ]
    refine sd_when (td_B (xd_call (ad_cons (x_var (d := dQ b) rfl rfl) (ad_cons (x_var (d := dQ (esq t i x y)) rfl rfl) ad_nil)) (sp_is_less (hb.mono (by decide)) ((hs i).mono (by decide)) rfl)) rfl) (fun hc => ?_) (fun hc => ?_)
    · have hlt := of_decide_eq_true hc
      have e : cycB n x y t b = false := by
        unfold cycB
        rw [List.all_eq_false]
        refine ⟨i, List.mem_range.mpr (by omega), ?_⟩
        rw [decide_eq_true_eq, Rat.not_le]
        exact hlt
      rw [e] at hR
      exact sd_ret (x_bl rfl) hR
    · have hle : esq t i x y ≤ b := Rat.not_lt.mp (of_decide_eq_false hc)
      refine s_par (d := dQ (esq t (i + 1) x y)) (e := dQ (esq t (i + 2) x y)) (ad_cons (x_var (d := dQ (esq t (i + 1) x y)) rfl rfl) (ad_cons (xd_call (ad_cons (xd_call (ad_cons (x_var (d := dQ t) rfl rfl) (ad_cons (x_var (d := dQ (esq t (i + 1) x y)) rfl rfl) ad_nil)) (sp_multiply (ht.mono (by decide)) ((hs _).mono (by decide)) rfl)) (ad_cons (x_var (d := dQ (esq t i x y)) rfl rfl) ad_nil)) (sp_subtract (Sz.mono (Sz.mul ht (hs (i + 1))) (by decide)) ((hs i).mono (by decide)) (by rw [esq_shift]))) ad_nil)) ⟨_, rfl, fun k hk => ?_⟩
      by_cases e : k = i
      · subst e
        exact hle
      · exact hall k (by omega)
  · rintro Γ' ⟨z, rfl, hall⟩
    rw [rngD_length] at hall
    have e : cycB n x y t b = true := by
      unfold cycB
      rw [List.all_eq_true]
      intro k hk
      rw [decide_eq_true_eq]
      exact hall k (by have := List.mem_range.mp hk; omega)
    rw [e] at hR
    exact sd_ret (x_bl rfl) hR
def ellB (x y t b : Rat) : Bool := if b < 0 then false else decide (4 * formQ x y t ≤ b * b * (4 - t * t))
def F_ellipse_holds (ds : List D) (R : D → Prop) : Prop := ∃ x y t b : Rat, ds = [dQ x, dQ y, dQ t, dQ b] ∧ Sz 400 x ∧ Sz 400 y ∧ Sz 400 t ∧ Sz 400 b ∧ R (.bool (ellB x y t b))
theorem len_ellipse_holds : ∀ ds R, F_ellipse_holds ds R → ds.length = 4 := fun _ _ ⟨_, _, _, _, h, _⟩ => by rw [h]; rfl
abbrev N_ellipse_holds : List Str := ["one", "other", "trace", "bound", "widest"]
theorem sc_ellipse_holds : FnScope N_ellipse_holds ["one", "other", "trace", "bound"] (defScope (topS 54)) := ⟨rfl, rfl, rfl, by decide +kernel, rfl, by decide +kernel, by decide +kernel⟩
theorem ok_ellipse_holds (T : Tc P w K mg base cs) : Good P w K mg base cs "ellipse_holds" ["one", "other", "trace", "bound"] 7 F_ellipse_holds := by
  obtain ⟨f, c, fd, D0, m0, t0⟩ := T.fn 40 _ rfl
  obtain ⟨f_is_at_most, d_is_at_most, m_is_at_most, k_is_at_most, b_is_at_most, G_is_at_most⟩ := ok_is_at_most T
  obtain ⟨f_multiply, d_multiply, m_multiply, k_multiply, b_multiply, G_multiply⟩ := ok_multiply T
  obtain ⟨f_subtract, d_subtract, m_subtract, k_subtract, b_subtract, G_subtract⟩ := ok_subtract T
  obtain ⟨f_fraction, d_fraction, m_fraction, k_fraction, b_fraction, ⟨d1_fraction, v1_fraction, b1_fraction⟩, G_fraction⟩ := ok_fraction T
  obtain ⟨f_form_of, d_form_of, m_form_of, k_form_of, b_form_of, G_form_of⟩ := ok_form_of T
  obtain ⟨f_sign, d_sign, m_sign, k_sign, b_sign, G_sign⟩ := ok_sign T
  refine ⟨f, fd, m0, D0.kp, D0.funD.bindsN (fun _ _ _ _ _ _ us hl => match us, hl with | [_, _, _, _], _ => rfl), D0.ok sc_ellipse_holds (fun vs H Q E h => pm_len len_ellipse_holds h) (fun A outer s H vs Q E hr h => ⟨_, (pss_cons (ps_if (pt_cmpR op_lt (pe_call G_sign (hr.mono (by decide)) rfl m_sign k_sign b_sign .nil pass0 (pa_cons (pv 3) pa_nil)) pe_int (nomark _)) (pss_one (ps_ret pe_bl)) pss_nil)
      (pss_cons (ps_set (i := 4) sc_ellipse_holds.nd rfl (.inl rfl) (pe_call G_multiply (hr.mono (by decide)) rfl m_multiply k_multiply b_multiply .nil pass0 (pa_cons (pe_call G_fraction (hr.mono (by decide)) rfl m_fraction k_fraction b1_fraction v1_fraction pass0 (pa_cons pe_int pa_nil)) (pa_cons (pe_call G_form_of (hr.mono (by decide)) rfl m_form_of k_form_of b_form_of .nil pass0 (pa_cons (pv 0) (pa_cons (pv 1) (pa_cons (pv 2) pa_nil)))) pa_nil))))
      (pss_one (ps_ret (pe_call G_is_at_most (hr.mono (by decide)) rfl m_is_at_most k_is_at_most b_is_at_most .nil pass0 (pa_cons (pv 4) (pa_cons (pe_call G_multiply (hr.mono (by decide)) rfl m_multiply k_multiply b_multiply .nil pass0 (pa_cons (pe_call G_multiply (hr.mono (by decide)) rfl m_multiply k_multiply b_multiply .nil pass0 (pa_cons (pv 3) (pa_cons (pv 3) pa_nil))) (pa_cons (pe_call G_subtract (hr.mono (by decide)) rfl m_subtract k_subtract b_subtract .nil pass0 (pa_cons (pe_call G_fraction (hr.mono (by decide)) rfl m_fraction k_fraction b1_fraction v1_fraction pass0 (pa_cons pe_int pa_nil)) (pa_cons (pe_call G_multiply (hr.mono (by decide)) rfl m_multiply k_multiply b_multiply .nil pass0 (pa_cons (pv 2) (pa_cons (pv 2) pa_nil))) pa_nil))) pa_nil))) pa_nil))))))), pm_body rfl ?_ h⟩)⟩
  intro ds R hF
  obtain ⟨x, y, t, b, rfl, hx, hy, ht, hb, hR⟩ := hF
  unfold ellB at hR
  refine sd_when (td_test (xd_op od_B0 (xd_call (ad_cons (x_var rfl rfl) ad_nil) (sp_sign rfl)) (x_int rfl) ⟨_, _, rfl, rfl, rfl⟩) rfl) (fun hc => ?_) (fun hc => ?_)
  · rw [if_pos (sg_neg.mp (of_decide_eq_true hc))] at hR
    exact sd_ret (x_bl rfl) hR
  rw [if_neg (fun z => of_decide_eq_false hc (sg_neg.mpr z))] at hR
  refine sd_set (xd_call (ad_cons (xd_callD (ad_cons (x_int rfl) ad_nil) (fun _ => .cons (.int _) .nil) (sp_fraction1 rfl)) (ad_cons (xd_call (ad_cons (x_var rfl rfl) (ad_cons (x_var rfl rfl) (ad_cons (x_var rfl rfl) ad_nil))) (sp_form_of hx hy ht rfl)) ad_nil)) (sp_multiply (Sz.mono (Sz.int (n := 3) (i := 4) (by decide) (by decide)) (by decide : 3 ≤ 4400)) (Sz.mono (form_Sz hx hy ht) (by decide : 2803 ≤ 4400)) rfl)) ?_
  try simp only [entG, setG, List.map_cons, List.map_nil, List.cons_append, List.nil_append, List.length_cons, List.length_nil, Nat.reduceAdd, Nat.reduceSub, List.replicate_succ, List.replicate_zero, List.set_cons_zero, List.set_cons_succ]
  have hw : Sz 2806 (((4 : Int) : Rat) * formQ x y t) := Sz.mul (Sz.int (i := 4) (by decide) (by decide)) (form_Sz hx hy ht)
  exact sd_ret (xd_call (ad_cons (x_var rfl rfl) (ad_cons (xd_call (ad_cons (xd_call (ad_cons (x_var rfl rfl) (ad_cons (x_var rfl rfl) ad_nil)) (sp_multiply (Sz.mono hb (by decide : 400 ≤ 4400)) (Sz.mono hb (by decide : 400 ≤ 4400)) rfl)) (ad_cons (xd_call (ad_cons (xd_callD (ad_cons (x_int rfl) ad_nil) (fun _ => .cons (.int _) .nil) (sp_fraction1 rfl)) (ad_cons (xd_call (ad_cons (x_var rfl rfl) (ad_cons (x_var rfl rfl) ad_nil)) (sp_multiply (Sz.mono ht (by decide : 400 ≤ 4400)) (Sz.mono ht (by decide : 400 ≤ 4400)) rfl)) ad_nil)) (sp_subtract (Sz.mono (Sz.int (n := 3) (i := 4) (by decide) (by decide)) (by decide : 3 ≤ 4400)) (Sz.mono (Sz.mul ht ht) (by decide : 800 ≤ 4400)) rfl)) ad_nil)) (sp_multiply (Sz.mono (Sz.mul hb hb) (by decide : 800 ≤ 4400)) (Sz.mono (Sz.sub (Sz.int (n := 3) (i := 4) (by decide) (by decide)) (Sz.mul ht ht)) (by decide : 804 ≤ 4400)) rfl)) ad_nil)) (sp_is_at_most (Sz.mono hw (by decide : 2806 ≤ 4400)) (Sz.mono (Sz.mul (Sz.mul hb hb) (Sz.sub (Sz.int (n := 3) (i := 4) (by decide) (by decide)) (Sz.mul ht ht))) (by decide : 1604 ≤ 4400)) rfl)) hR
def turnB (x y b : Rat) : Bool := if x + y ≠ 0 then false else decide (x ≤ b) && decide (y ≤ b)
def F_turning_holds (ds : List D) (R : D → Prop) : Prop := ∃ x y b : Rat, ds = [dQ x, dQ y, dQ b] ∧ Sz 400 x ∧ Sz 400 y ∧ Sz 400 b ∧ R (.bool (turnB x y b))
theorem len_turning_holds : ∀ ds R, F_turning_holds ds R → ds.length = 3 := fun _ _ ⟨_, _, _, h, _⟩ => by rw [h]; rfl
abbrev N_turning_holds : List Str := ["one", "other", "bound"]
theorem sc_turning_holds : FnScope N_turning_holds ["one", "other", "bound"] (defScope (topS 55)) := ⟨rfl, rfl, rfl, by decide +kernel, rfl, by decide +kernel, by decide +kernel⟩
theorem ok_turning_holds (T : Tc P w K mg base cs) : Good P w K mg base cs "turning_holds" ["one", "other", "bound"] 7 F_turning_holds := by
  obtain ⟨f, c, fd, D0, m0, t0⟩ := T.fn 41 _ rfl
  obtain ⟨f_is_at_most, d_is_at_most, m_is_at_most, k_is_at_most, b_is_at_most, G_is_at_most⟩ := ok_is_at_most T
  obtain ⟨f_add, d_add, m_add, k_add, b_add, G_add⟩ := ok_add T
  obtain ⟨a_ZERO, m_ZERO, q_ZERO⟩ := T.zero
  refine ⟨f, fd, m0, D0.kp, D0.funD.bindsN (fun _ _ _ _ _ _ us hl => match us, hl with | [_, _, _], _ => rfl), D0.ok sc_turning_holds (fun vs H Q E h => pm_len len_turning_holds h) (fun A outer s H vs Q E hr h => ⟨_, (pss_cons (ps_if (pt_cmpR (op_neD hr.units) (pe_call G_add (hr.mono (by decide)) rfl m_add k_add b_add .nil pass0 (pa_cons (pv 0) (pa_cons (pv 1) pa_nil))) (pe_glob (v := .ref a_ZERO) rfl m_ZERO rfl) (nomark _)) (pss_one (ps_ret pe_bl)) pss_nil)
      (pss_one (ps_ret (pe_and (pe_call G_is_at_most (hr.mono (by decide)) rfl m_is_at_most k_is_at_most b_is_at_most .nil pass0 (pa_cons (pv 0) (pa_cons (pv 2) pa_nil))) (pe_one (pe_call G_is_at_most (hr.mono (by decide)) rfl m_is_at_most k_is_at_most b_is_at_most .nil pass0 (pa_cons (pv 1) (pa_cons (pv 2) pa_nil)))))))), pm_body rfl ?_ h⟩)⟩
  intro ds R hF
  obtain ⟨x, y, b, rfl, hx, hy, hb, hR⟩ := hF
  unfold turnB at hR
  refine sd_when (td_test (xd_op od_neD (xd_call (ad_cons (x_var rfl rfl) (ad_cons (x_var rfl rfl) ad_nil)) (sp_add (Sz.mono hx (by decide : 400 ≤ 4400)) (Sz.mono hy (by decide : 400 ≤ 4400)) rfl)) (x_con q_ZERO rfl) ⟨rfl, rfl, rfl⟩) rfl) (fun hc => ?_) (fun hc => ?_)
  · rw [eqv_Q, Bool.not_eq_true', decide_eq_false_iff_not] at hc
    rw [if_pos hc] at hR
    exact sd_ret (x_bl rfl) hR
  rw [eqv_Q, Bool.not_eq_false', decide_eq_true_eq] at hc
  rw [if_neg (fun z => z hc)] at hR
  exact sd_ret (xd_andV (xd_call (ad_cons (x_var rfl rfl) (ad_cons (x_var rfl rfl) ad_nil)) (sp_is_at_most (Sz.mono hx (by decide : 400 ≤ 4400)) (Sz.mono hb (by decide : 400 ≤ 4400)) rfl)) (fun _ => (xd_call (ad_cons (x_var rfl rfl) (ad_cons (x_var rfl rfl) ad_nil)) (sp_is_at_most (Sz.mono hy (by decide : 400 ≤ 4400)) (Sz.mono hb (by decide : 400 ≤ 4400)) rfl)))) hR
def lineB (x y b : Rat) : Bool := if ¬ x ≤ b ∨ ¬ y ≤ b then false else if x * x < y * y then decide (x < 0) && decide (y < 0) else decide (0 ≤ b)
def F_line_holds (ds : List D) (R : D → Prop) : Prop := ∃ x y b : Rat, ds = [dQ x, dQ y, dQ b] ∧ Sz 400 x ∧ Sz 400 y ∧ Sz 400 b ∧ R (.bool (lineB x y b))
theorem len_line_holds : ∀ ds R, F_line_holds ds R → ds.length = 3 := fun _ _ ⟨_, _, _, h, _⟩ => by rw [h]; rfl
abbrev N_line_holds : List Str := ["one", "other", "bound"]
theorem sc_line_holds : FnScope N_line_holds ["one", "other", "bound"] (defScope (topS 56)) := ⟨rfl, rfl, rfl, by decide +kernel, rfl, by decide +kernel, by decide +kernel⟩
theorem ok_line_holds (T : Tc P w K mg base cs) : Good P w K mg base cs "line_holds" ["one", "other", "bound"] 7 F_line_holds := by
  obtain ⟨f, c, fd, D0, m0, t0⟩ := T.fn 42 _ rfl
  obtain ⟨f_sign, d_sign, m_sign, k_sign, b_sign, G_sign⟩ := ok_sign T
  obtain ⟨f_is_less, d_is_less, m_is_less, k_is_less, b_is_less, G_is_less⟩ := ok_is_less T
  obtain ⟨f_multiply, d_multiply, m_multiply, k_multiply, b_multiply, G_multiply⟩ := ok_multiply T
  obtain ⟨f_is_at_most, d_is_at_most, m_is_at_most, k_is_at_most, b_is_at_most, G_is_at_most⟩ := ok_is_at_most T
  refine ⟨f, fd, m0, D0.kp, D0.funD.bindsN (fun _ _ _ _ _ _ us hl => match us, hl with | [_, _, _], _ => rfl), D0.ok sc_line_holds (fun vs H Q E h => pm_len len_line_holds h) (fun A outer s H vs Q E hr h => ⟨_, (pss_cons (ps_if (PW.pt (pw_or (pt_not (pt_val (pe_call G_is_at_most (hr.mono (by decide)) rfl m_is_at_most k_is_at_most b_is_at_most .nil pass0 (pa_cons (pv 0) (pa_cons (pv 2) pa_nil))))) (pw_or1 (pt_not (pt_val (pe_call G_is_at_most (hr.mono (by decide)) rfl m_is_at_most k_is_at_most b_is_at_most .nil pass0 (pa_cons (pv 1) (pa_cons (pv 2) pa_nil)))))))) (pss_one (ps_ret pe_bl)) pss_nil)
      (pss_cons (ps_if (pt_val (pe_call G_is_less (hr.mono (by decide)) rfl m_is_less k_is_less b_is_less .nil pass0 (pa_cons (pe_call G_multiply (hr.mono (by decide)) rfl m_multiply k_multiply b_multiply .nil pass0 (pa_cons (pv 0) (pa_cons (pv 0) pa_nil))) (pa_cons (pe_call G_multiply (hr.mono (by decide)) rfl m_multiply k_multiply b_multiply .nil pass0 (pa_cons (pv 1) (pa_cons (pv 1) pa_nil))) pa_nil)))) (pss_one (ps_ret (pe_and (pe_cmpR op_lt (pe_call G_sign (hr.mono (by decide)) rfl m_sign k_sign b_sign .nil pass0 (pa_cons (pv 0) pa_nil)) pe_int (nomark _)) (pe_one (pe_cmpR op_lt (pe_call G_sign (hr.mono (by decide)) rfl m_sign k_sign b_sign .nil pass0 (pa_cons (pv 1) pa_nil)) pe_int (nomark _)))))) pss_nil)
      (pss_one (ps_ret (pe_cmpR op_ge (pe_call G_sign (hr.mono (by decide)) rfl m_sign k_sign b_sign .nil pass0 (pa_cons (pv 2) pa_nil)) pe_int (nomark _)))))), pm_body rfl ?_ h⟩)⟩
  intro ds R hF
  obtain ⟨x, y, b, rfl, hx, hy, hb, hR⟩ := hF
  unfold lineB at hR
  refine sd_when (td_or (td_not (td_B (xd_call (ad_cons (x_var rfl rfl) (ad_cons (x_var rfl rfl) ad_nil)) (sp_is_at_most (Sz.mono hx (by decide : 400 ≤ 4400)) (Sz.mono hb (by decide : 400 ≤ 4400)) rfl)) rfl)) (fun _ => (td_not (td_B (xd_call (ad_cons (x_var rfl rfl) (ad_cons (x_var rfl rfl) ad_nil)) (sp_is_at_most (Sz.mono hy (by decide : 400 ≤ 4400)) (Sz.mono hb (by decide : 400 ≤ 4400)) rfl)) rfl)))) (fun hc => ?_) (fun hc => ?_)
  · simp only [Bool.or_eq_true, Bool.not_eq_true', decide_eq_false_iff_not] at hc
    rw [if_pos hc] at hR
    exact sd_ret (x_bl rfl) hR
  simp only [Bool.or_eq_false_iff, Bool.not_eq_false', decide_eq_true_eq] at hc
  rw [if_neg (fun z => z.elim (fun k => k hc.1) fun k => k hc.2)] at hR
  refine sd_when (td_B (xd_call (ad_cons (xd_call (ad_cons (x_var rfl rfl) (ad_cons (x_var rfl rfl) ad_nil)) (sp_multiply (Sz.mono hx (by decide : 400 ≤ 4400)) (Sz.mono hx (by decide : 400 ≤ 4400)) rfl)) (ad_cons (xd_call (ad_cons (x_var rfl rfl) (ad_cons (x_var rfl rfl) ad_nil)) (sp_multiply (Sz.mono hy (by decide : 400 ≤ 4400)) (Sz.mono hy (by decide : 400 ≤ 4400)) rfl)) ad_nil)) (sp_is_less (Sz.mono (Sz.mul hx hx) (by decide : 800 ≤ 4400)) (Sz.mono (Sz.mul hy hy) (by decide : 800 ≤ 4400)) rfl)) rfl) (fun hc => ?_) (fun hc => ?_)
  · rw [if_pos (of_decide_eq_true hc)] at hR
    refine sd_ret (Xd.to (xd_andV (xd_op od_B0 (xd_call (ad_cons (x_var rfl rfl) ad_nil) (sp_sign rfl)) (x_int rfl) ⟨_, _, rfl, rfl, rfl⟩) (fun _ => (xd_op od_B0 (xd_call (ad_cons (x_var rfl rfl) ad_nil) (sp_sign rfl)) (x_int rfl) ⟨_, _, rfl, rfl, rfl⟩))) ?_) hR
    rw [decide_eq_decide.mpr sg_neg, decide_eq_decide.mpr sg_neg]
  · rw [if_neg (of_decide_eq_false hc)] at hR
    exact sd_ret (Xd.to (xd_op od_B0 (xd_call (ad_cons (x_var rfl rfl) ad_nil) (sp_sign rfl)) (x_int rfl) ⟨_, _, rfl, rfl, rfl⟩) (by rw [decide_eq_decide.mpr sg_ge])) hR
def F_growing_holds (ds : List D) (R : D → Prop) : Prop := ∃ (x y t b : Rat) (n : Nat), ds = [dQ x, dQ y, dQ t, dQ b] ∧ Sz 100 t ∧ Sz 400 b ∧ growEnd b (esq t n x y) (esq t (n + 1) x y) ∧ (∀ k, k ≤ n + 1 → Sz 4300 (esq t k x y)) ∧ R (.bool (growB t b (n + 1) x y))
theorem len_growing_holds : ∀ ds R, F_growing_holds ds R → ds.length = 4 := fun _ _ ⟨_, _, _, _, _, h, _⟩ => by rw [h]; rfl
abbrev N_growing_holds : List Str := ["one", "other", "trace", "bound"]
theorem sc_growing_holds : FnScope N_growing_holds ["one", "other", "trace", "bound"] (defScope (topS 57)) := ⟨rfl, rfl, rfl, by decide +kernel, rfl, by decide +kernel, by decide +kernel⟩
theorem ok_growing_holds (T : Tc P w K mg base cs) : Good P w K mg base cs "growing_holds" ["one", "other", "trace", "bound"] 7 F_growing_holds := by
  obtain ⟨f, c, fd, D0, m0, t0⟩ := T.fn 43 _ rfl
  obtain ⟨f_is_at_most, d_is_at_most, m_is_at_most, k_is_at_most, b_is_at_most, G_is_at_most⟩ := ok_is_at_most T
  obtain ⟨f_subtract, d_subtract, m_subtract, k_subtract, b_subtract, G_subtract⟩ := ok_subtract T
  obtain ⟨f_multiply, d_multiply, m_multiply, k_multiply, b_multiply, G_multiply⟩ := ok_multiply T
  obtain ⟨f_sign, d_sign, m_sign, k_sign, b_sign, G_sign⟩ := ok_sign T
  refine ⟨f, fd, m0, D0.kp, D0.funD.bindsN (fun _ _ _ _ _ _ us hl => match us, hl with | [_, _, _, _], _ => rfl), D0.ok sc_growing_holds (fun vs H Q E h => pm_len len_growing_holds h) (fun A outer s H vs Q E hr h => ⟨_, (pss_cons (ps_while PassesOwn.never (pt_val (pe_call G_is_at_most (hr.mono (by decide)) rfl m_is_at_most k_is_at_most b_is_at_most .nil pass0 (pa_cons (pv 0) (pa_cons (pv 3) pa_nil)))) (pss_cons (ps_if (PW.pt (pw_and (pt_cmpR op_ge (pe_call G_sign (hr.mono (by decide)) rfl m_sign k_sign b_sign .nil pass0 (pa_cons (pv 0) pa_nil)) pe_int (nomark _)) (pw_and1 (pt_val (pe_call G_is_at_most (hr.mono (by decide)) rfl m_is_at_most k_is_at_most b_is_at_most .nil pass0 (pa_cons (pv 0) (pa_cons (pv 1) pa_nil))))))) (pss_one (ps_ret pe_bl)) pss_nil)
      (pss_cons (ps_if (PW.pt (pw_and (pt_cmpR op_le (pe_call G_sign (hr.mono (by decide)) rfl m_sign k_sign b_sign .nil pass0 (pa_cons (pv 0) pa_nil)) pe_int (nomark _)) (pw_and1 (pt_val (pe_call G_is_at_most (hr.mono (by decide)) rfl m_is_at_most k_is_at_most b_is_at_most .nil pass0 (pa_cons (pv 1) (pa_cons (pv 0) pa_nil))))))) (pss_one (ps_ret pe_bl)) pss_nil)
      (pss_one (ps_par (i := 0) (j := 1) rfl sc_growing_holds.nd rfl rfl (by decide) rfl rfl (pa_cons (pv 1) (pa_cons (pe_call G_subtract (hr.mono (by decide)) rfl m_subtract k_subtract b_subtract .nil pass0 (pa_cons (pe_call G_multiply (hr.mono (by decide)) rfl m_multiply k_multiply b_multiply .nil pass0 (pa_cons (pv 2) (pa_cons (pv 1) pa_nil))) (pa_cons (pv 0) pa_nil))) pa_nil)) rfl)))))
      (pss_one (ps_ret pe_bl))), pm_body rfl ?_ h⟩)⟩
  intro ds R hF
  obtain ⟨x, y, t, b, n, rfl, ht, hb, hend, hs, hR⟩ := hF
  have hs2 : ∀ k, k ≤ n + 1 → Sz 4400 (esq t k x y) := fun k hk => (hs k hk).mono (by decide)
  have h0 : Sz 4400 0 := Sz.zero (by decide)
  refine s_seq (s_while (fun m Γ => ∃ k, k + m = n ∧ Γ = [.val (dQ (esq t k x y)), .val (dQ (esq t (k + 1) x y)), .val (dQ t), .val (dQ b)] ∧ growB t b (n + 1) x y = growB t b (m + 1) (esq t k x y) (esq t (k + 1) x y)) n ⟨0, by omega, rfl, rfl⟩ ?_)
  rintro m Γ' ⟨k, hk, rfl, hg⟩
  rw [hg] at hR
  refine ⟨_, td_B (xd_call (ad_cons (x_var (d := dQ (esq t k x y)) rfl rfl) (ad_cons (x_var (d := dQ b) rfl rfl) ad_nil)) (sp_is_at_most (hs2 k (by omega)) (hb.mono (by decide)) rfl)) rfl, fun hc => ?_, fun hc => ?_⟩
  · have hle := of_decide_eq_true hc
    unfold growB at hR
    rw [if_pos hle] at hR
    refine sd_when (td_and (td_test (xd_op od_B0 (xd_call (ad_cons (x_var (d := dQ (esq t k x y)) rfl rfl) ad_nil) (sp_sign rfl)) (x_int rfl) ⟨_, _, rfl, rfl, rfl⟩) rfl) fun _ => td_B (xd_call (ad_cons (x_var (d := dQ (esq t k x y)) rfl rfl) (ad_cons (x_var (d := dQ (esq t (k + 1) x y)) rfl rfl) ad_nil)) (sp_is_at_most (hs2 k (by omega)) (hs2 (k + 1) (by omega)) rfl)) rfl) (fun h1 => ?_) (fun h1 => ?_)
    · simp only [Bool.and_eq_true, decide_eq_true_eq, sg_ge] at h1
      rw [if_pos h1] at hR
      exact sd_ret (x_bl rfl) hR
    simp only [Bool.and_eq_false_iff, decide_eq_false_iff_not, sg_ge] at h1
    have n1 : ¬ (0 ≤ esq t k x y ∧ esq t k x y ≤ esq t (k + 1) x y) := fun z => h1.elim (fun q => q z.1) fun q => q z.2
    rw [if_neg n1] at hR
    refine sd_when (td_and (td_test (xd_op od_B0 (xd_call (ad_cons (x_var (d := dQ (esq t k x y)) rfl rfl) ad_nil) (sp_sign rfl)) (x_int rfl) ⟨_, _, rfl, rfl, rfl⟩) rfl) fun _ => td_B (xd_call (ad_cons (x_var (d := dQ (esq t (k + 1) x y)) rfl rfl) (ad_cons (x_var (d := dQ (esq t k x y)) rfl rfl) ad_nil)) (sp_is_at_most (hs2 (k + 1) (by omega)) (hs2 k (by omega)) rfl)) rfl) (fun h2 => ?_) (fun h2 => ?_)
    · simp only [Bool.and_eq_true, decide_eq_true_eq, sg_le] at h2
      rw [if_pos h2] at hR
      exact sd_ret (x_bl rfl) hR
    simp only [Bool.and_eq_false_iff, decide_eq_false_iff_not, sg_le] at h2
    have n2 : ¬ (esq t k x y ≤ 0 ∧ esq t (k + 1) x y ≤ esq t k x y) := fun z => h2.elim (fun q => q z.1) fun q => q z.2
    rw [if_neg n2] at hR
    have hm : 0 < m := by
      apply Nat.pos_of_ne_zero
      intro z
      have ek : k = n := by omega
      subst ek
      rcases hend with e | e | e
      · exact absurd hle (Rat.not_le.mpr e)
      · exact n1 e
      · exact n2 e
    obtain ⟨m, rfl⟩ : ∃ m', m = m' + 1 := ⟨m - 1, by omega⟩
    refine s_par (d := dQ (esq t (k + 1) x y)) (e := dQ (esq t (k + 2) x y)) (ad_cons (x_var (d := dQ (esq t (k + 1) x y)) rfl rfl) (ad_cons (xd_call (ad_cons (xd_call (ad_cons (x_var (d := dQ t) rfl rfl) (ad_cons (x_var (d := dQ (esq t (k + 1) x y)) rfl rfl) ad_nil)) (sp_multiply (ht.mono (by decide)) (hs2 _ (by omega)) rfl)) (ad_cons (x_var (d := dQ (esq t k x y)) rfl rfl) ad_nil)) (sp_subtract (Sz.mono (Sz.mul ht (hs (k + 1) (by omega))) (by decide)) (hs2 k (by omega)) (by rw [esq_shift]))) ad_nil)) ⟨m, by omega, k + 1, by omega, rfl, ?_⟩
    rw [hg]
    conv => lhs; unfold growB
    rw [if_pos hle, if_neg n1, if_neg n2, esq_shift]
  · have hgt := of_decide_eq_false hc
    unfold growB at hR
    rw [if_neg hgt] at hR
    exact sd_ret (x_bl rfl) hR
end Rt
set_option Elab.async false
set_option linter.all false
set_option maxRecDepth 100000
set_option maxHeartbeats 4000000
set_option exponentiation.threshold 100000
/-! The walk, part 11: stays. -/
namespace Rt
open PySem PySem.Spec PyProof.Rows L2 GxR Gx RZ
section
variable {K : PySem.W.Frag} {cs : List Addr} {Γ : Gm} {R : D → Prop} {te : TE}
theorem xd_mapF {α : Type} (f g : α → D) (xs : List α) {wi : TI} {tg : TG} {js vs : List Nat} {ft : D → Option (List D)} (hi : Ix K cs wi Γ (Eq (xs.map f))) (hg : Tg K tg js ft) (hv : ∀ j ∈ js, j ∈ vs) (hl : xs.length ≤ 90000)
    (h : ∀ a ∈ xs, ∃ es, ft (f a) = some es ∧ Xd K cs te (setG (clr Γ vs) js es) (g a)) (k : R (.list (xs.map g))) : Ex K cs (tLc wi tg tYes te vs) Γ R := by
  refine x_lc hi hg hv fun ds e => ?_
  subst e
  refine ⟨by rw [List.length_map]; exact hl, fun pre acc => acc = (xs.take pre.length).map g, rfl, fun i d acc hd ha => ?_, fun rs e => ?_⟩
  · obtain ⟨a, ea, rfl⟩ := gmapE hd
    obtain ⟨es, e1, e2⟩ := h a (List.mem_of_getElem? ea)
    have hi2 : i < xs.length := (List.getElem?_eq_some_iff.mp ea).1
    refine ⟨es, e1, fun b => b = true, t_yes rfl, fun _ => e2.mono fun z ez => ?_, fun hb => by cases hb⟩
    have l1 : ((xs.map f).take i).length = i := by rw [List.length_take, List.length_map]; omega
    have l2 : ((xs.map f).take (i + 1)).length = i + 1 := by rw [List.length_take, List.length_map]; omega
    have ha : acc = (xs.take ((xs.map f).take i).length).map g := ha
    show acc ++ [z] = (xs.take ((xs.map f).take (i + 1)).length).map g
    rw [ha, l1, l2, take_snoc ea, List.map_append, ← ez]
    rfl
  · have e : rs = (xs.take (xs.map f).length).map g := e
    rw [List.length_map, List.take_length] at e
    rw [e]
    exact k
end
variable {P : Program} {w : World} {K : PySem.W.Frag} {mg : Str → Option Value} {base : Heap} {cs : List Addr}
def midQ (u v w t : Rat) : Rat := (w - t * v + u) / (2 - t)
def belowB (n : Nat) (u v w t : Rat) : Bool :=
  if t = 2 then polyB u v w else
  if t = -1 then cycB 3 (u - midQ u v w t) (v - midQ u v w t) t (-midQ u v w t) else
  if t = 0 then cycB 4 (u - midQ u v w t) (v - midQ u v w t) t (-midQ u v w t) else
  if t = 1 then cycB 6 (u - midQ u v w t) (v - midQ u v w t) t (-midQ u v w t) else
  if t = -2 then turnB (u - midQ u v w t) (v - midQ u v w t) (-midQ u v w t) else
  if t * t < 4 then ellB (u - midQ u v w t) (v - midQ u v w t) t (-midQ u v w t) else
  if formQ (u - midQ u v w t) (v - midQ u v w t) t = 0 then lineB (u - midQ u v w t) (v - midQ u v w t) (-midQ u v w t) else
  if t < 0 then false else growB t (-midQ u v w t) (n + 1) (u - midQ u v w t) (v - midQ u v w t)
structure SbOk (n : Nat) (u v w t : Rat) : Prop where
  su : Sz 170 u
  sv : Sz 170 v
  sw : Sz 170 w
  st : Sz 10 t
  sm : t ≠ 2 → Sz 400 (midQ u v w t) ∧ Sz 400 (u - midQ u v w t) ∧ Sz 400 (v - midQ u v w t)
  sc : t = -1 ∨ t = 0 ∨ t = 1 → ∀ k, Sz 1000 (esq t k (u - midQ u v w t) (v - midQ u v w t))
  sg : t ≠ 2 → ¬ t * t < 4 → formQ (u - midQ u v w t) (v - midQ u v w t) t ≠ 0 → ¬ t < 0 → growEnd (-midQ u v w t) (esq t n (u - midQ u v w t) (v - midQ u v w t)) (esq t (n + 1) (u - midQ u v w t) (v - midQ u v w t)) ∧ ∀ k, k ≤ n + 1 → Sz 4300 (esq t k (u - midQ u v w t) (v - midQ u v w t))
def F_stays_below (ds : List D) (R : D → Prop) : Prop := ∃ (n : Nat) (u v w t : Rat), ds = [dQ u, dQ v, dQ w, dQ t] ∧ SbOk n u v w t ∧ R (.bool (belowB n u v w t))
theorem len_stays_below : ∀ ds R, F_stays_below ds R → ds.length = 4 := fun _ _ ⟨_, _, _, _, _, h, _⟩ => by rw [h]; rfl
theorem den_one {t : Rat} {i : Int} (h1 : t.num = i) (h2 : t.den = 1) : t = (i : Rat) := Rat.ext (by rw [h1, Rat.num_intCast]) (by rw [h2, Rat.den_intCast])
theorem cyc_cases {t : Rat} (h : cycHas t.num t.den = true) : (t = -1 ∧ cycAt t.num t.den = some 3) ∨ (t = 0 ∧ cycAt t.num t.den = some 4) ∨ (t = 1 ∧ cycAt t.num t.den = some 6) := by
  unfold cycHas at h
  simp only [Bool.and_eq_true, Bool.or_eq_true, decide_eq_true_eq] at h
  have hd : t.den = 1 := by have := h.1; omega
  rcases h.2 with (e | e) | e
  · refine .inl ⟨den_one e hd, ?_⟩
    rw [e, hd]
    rfl
  · refine .inr (.inl ⟨den_one e hd, ?_⟩)
    rw [e, hd]
    rfl
  · refine .inr (.inr ⟨den_one e hd, ?_⟩)
    rw [e, hd]
    rfl
abbrev N_stays_below : List Str := ["first", "second", "third", "trace", "middle", "one", "other", "bound"]
theorem sc_stays_below : FnScope N_stays_below ["first", "second", "third", "trace"] (defScope (topS 58)) := ⟨rfl, rfl, rfl, by decide +kernel, rfl, by decide +kernel, by decide +kernel⟩
theorem ok_stays_below (T : Tc P w K mg base cs) : Good P w K mg base cs "stays_below" ["first", "second", "third", "trace"] 8 F_stays_below := by
  obtain ⟨f, c, fd, D0, m0, t0⟩ := T.fn 44 _ rfl
  obtain ⟨f_growing_holds, d_growing_holds, m_growing_holds, k_growing_holds, b_growing_holds, G_growing_holds⟩ := ok_growing_holds T
  obtain ⟨f_sign, d_sign, m_sign, k_sign, b_sign, G_sign⟩ := ok_sign T
  obtain ⟨f_form_of, d_form_of, m_form_of, k_form_of, b_form_of, G_form_of⟩ := ok_form_of T
  obtain ⟨f_line_holds, d_line_holds, m_line_holds, k_line_holds, b_line_holds, G_line_holds⟩ := ok_line_holds T
  obtain ⟨f_is_less, d_is_less, m_is_less, k_is_less, b_is_less, G_is_less⟩ := ok_is_less T
  obtain ⟨f_fraction, d_fraction, m_fraction, k_fraction, b_fraction, ⟨d1_fraction, v1_fraction, b1_fraction⟩, G_fraction⟩ := ok_fraction T
  obtain ⟨f_multiply, d_multiply, m_multiply, k_multiply, b_multiply, G_multiply⟩ := ok_multiply T
  obtain ⟨f_ellipse_holds, d_ellipse_holds, m_ellipse_holds, k_ellipse_holds, b_ellipse_holds, G_ellipse_holds⟩ := ok_ellipse_holds T
  obtain ⟨f_turning_holds, d_turning_holds, m_turning_holds, k_turning_holds, b_turning_holds, G_turning_holds⟩ := ok_turning_holds T
  obtain ⟨f_cycle_holds, d_cycle_holds, m_cycle_holds, k_cycle_holds, b_cycle_holds, G_cycle_holds⟩ := ok_cycle_holds T
  obtain ⟨f_negative, d_negative, m_negative, k_negative, b_negative, G_negative⟩ := ok_negative T
  obtain ⟨f_subtract, d_subtract, m_subtract, k_subtract, b_subtract, G_subtract⟩ := ok_subtract T
  obtain ⟨f_divide, d_divide, m_divide, k_divide, b_divide, G_divide⟩ := ok_divide T
  obtain ⟨f_add, d_add, m_add, k_add, b_add, G_add⟩ := ok_add T
  obtain ⟨f_polynomial_holds, d_polynomial_holds, m_polynomial_holds, k_polynomial_holds, b_polynomial_holds, G_polynomial_holds⟩ := ok_polynomial_holds T
  obtain ⟨a_ZERO, m_ZERO, q_ZERO⟩ := T.zero
  obtain ⟨a_CYCLES, m_CYCLES, q_CYCLES⟩ := T.cyc
  obtain ⟨a_TWO, m_TWO, q_TWO⟩ := T.two
  refine ⟨f, fd, m0, D0.kp, D0.funD.bindsN (fun _ _ _ _ _ _ us hl => match us, hl with | [_, _, _, _], _ => rfl), D0.ok sc_stays_below (fun vs H Q E h => pm_len len_stays_below h) (fun A outer s H vs Q E hr h => ⟨_, (pss_cons (ps_if (pt_cmpR (op_eqD hr.units) (pv 3) (pe_glob (v := .ref a_TWO) rfl m_TWO rfl) (nomark _)) (pss_one (ps_ret (pe_call G_polynomial_holds (hr.mono (by decide)) rfl m_polynomial_holds k_polynomial_holds b_polynomial_holds .nil pass0 (pa_cons (pv 0) (pa_cons (pv 1) (pa_cons (pv 2) pa_nil)))))) pss_nil)
      (pss_cons (ps_set (i := 4) sc_stays_below.nd rfl (.inl rfl) (pe_call G_divide (hr.mono (by decide)) rfl m_divide k_divide b_divide .nil pass0 (pa_cons (pe_call G_add (hr.mono (by decide)) rfl m_add k_add b_add .nil pass0 (pa_cons (pe_call G_subtract (hr.mono (by decide)) rfl m_subtract k_subtract b_subtract .nil pass0 (pa_cons (pv 2) (pa_cons (pe_call G_multiply (hr.mono (by decide)) rfl m_multiply k_multiply b_multiply .nil pass0 (pa_cons (pv 3) (pa_cons (pv 1) pa_nil))) pa_nil))) (pa_cons (pv 0) pa_nil))) (pa_cons (pe_call G_subtract (hr.mono (by decide)) rfl m_subtract k_subtract b_subtract .nil pass0 (pa_cons (pe_glob (v := .ref a_TWO) rfl m_TWO rfl) (pa_cons (pv 3) pa_nil))) pa_nil))))
      (pss_cons (ps_set (i := 5) sc_stays_below.nd rfl (.inl rfl) (pe_call G_subtract (hr.mono (by decide)) rfl m_subtract k_subtract b_subtract .nil pass0 (pa_cons (pv 0) (pa_cons (pv 4) pa_nil))))
      (pss_cons (ps_set (i := 6) sc_stays_below.nd rfl (.inl rfl) (pe_call G_subtract (hr.mono (by decide)) rfl m_subtract k_subtract b_subtract .nil pass0 (pa_cons (pv 1) (pa_cons (pv 4) pa_nil))))
      (pss_cons (ps_set (i := 7) sc_stays_below.nd rfl (.inl rfl) (pe_call G_negative (hr.mono (by decide)) rfl m_negative k_negative b_negative .nil pass0 (pa_cons (pv 4) pa_nil)))
      (pss_cons (ps_if (pt_cmpR (op_cyc q_CYCLES (hu_of hr)) (pv 3) (pe_glob (v := .ref a_CYCLES) rfl m_CYCLES rfl) rfl) (pss_one (ps_ret (pe_call G_cycle_holds (hr.mono (by decide)) rfl m_cycle_holds k_cycle_holds b_cycle_holds .nil pass0 (pa_cons (pv 5) (pa_cons (pv 6) (pa_cons (pv 3) (pa_cons (pv 7) pa_nil))))))) pss_nil)
      (pss_cons (ps_if (pt_cmpR (op_eqD hr.units) (pv 3) (pe_tup (pa_cons (pe_un un_neg pe_int) (pa_cons pe_int pa_nil))) (nomark _)) (pss_one (ps_ret (pe_call G_turning_holds (hr.mono (by decide)) rfl m_turning_holds k_turning_holds b_turning_holds .nil pass0 (pa_cons (pv 5) (pa_cons (pv 6) (pa_cons (pv 7) pa_nil)))))) pss_nil)
      (pss_cons (ps_if (pt_val (pe_call G_is_less (hr.mono (by decide)) rfl m_is_less k_is_less b_is_less .nil pass0 (pa_cons (pe_call G_multiply (hr.mono (by decide)) rfl m_multiply k_multiply b_multiply .nil pass0 (pa_cons (pv 3) (pa_cons (pv 3) pa_nil))) (pa_cons (pe_call G_fraction (hr.mono (by decide)) rfl m_fraction k_fraction b1_fraction v1_fraction pass0 (pa_cons pe_int pa_nil)) pa_nil)))) (pss_one (ps_ret (pe_call G_ellipse_holds (hr.mono (by decide)) rfl m_ellipse_holds k_ellipse_holds b_ellipse_holds .nil pass0 (pa_cons (pv 5) (pa_cons (pv 6) (pa_cons (pv 3) (pa_cons (pv 7) pa_nil))))))) pss_nil)
      (pss_cons (ps_if (pt_cmpR (op_eqD hr.units) (pe_call G_form_of (hr.mono (by decide)) rfl m_form_of k_form_of b_form_of .nil pass0 (pa_cons (pv 5) (pa_cons (pv 6) (pa_cons (pv 3) pa_nil)))) (pe_glob (v := .ref a_ZERO) rfl m_ZERO rfl) (nomark _)) (pss_one (ps_ret (pe_call G_line_holds (hr.mono (by decide)) rfl m_line_holds k_line_holds b_line_holds .nil pass0 (pa_cons (pv 5) (pa_cons (pv 6) (pa_cons (pv 7) pa_nil)))))) pss_nil)
      (pss_cons (ps_if (pt_cmpR op_lt (pe_call G_sign (hr.mono (by decide)) rfl m_sign k_sign b_sign .nil pass0 (pa_cons (pv 3) pa_nil)) pe_int (nomark _)) (pss_one (ps_ret pe_bl)) pss_nil)
      (pss_one (ps_ret (pe_call G_growing_holds (hr.mono (by decide)) rfl m_growing_holds k_growing_holds b_growing_holds .nil pass0 (pa_cons (pv 5) (pa_cons (pv 6) (pa_cons (pv 3) (pa_cons (pv 7) pa_nil))))))))))))))))), pm_body rfl ?_ h⟩)⟩
  intro ds R hF
  obtain ⟨n, u, v, w, t, rfl, ok, hR⟩ := hF
  have hu := ok.su
  have hv := ok.sv
  have hw := ok.sw
  have ht := ok.st
  unfold belowB at hR
  refine sd_when (td_test (xd_op od_eqD (x_var rfl rfl) (x_con q_TWO rfl) ⟨rfl, rfl, rfl⟩) rfl) (fun hc => ?_) (fun hc => ?_)
  · rw [eqv_Q, decide_eq_true_eq] at hc
    rw [if_pos hc] at hR
    exact s_ret (xd_call (ad_cons (x_var rfl rfl) (ad_cons (x_var rfl rfl) (ad_cons (x_var rfl rfl) ad_nil))) ⟨u, v, w, rfl, hu, hv, hw, hR⟩)
  rw [eqv_Q, decide_eq_false_iff_not] at hc
  rw [if_neg hc] at hR
  have n2 : 2 - t ≠ 0 := fun z => hc (by grind)
  obtain ⟨hm, hx, hy⟩ := ok.sm hc
  refine sd_set (d := dQ (midQ u v w t)) (xd_call (ad_cons (xd_call (ad_cons (xd_call (ad_cons (x_var rfl rfl) (ad_cons (xd_call (ad_cons (x_var rfl rfl) (ad_cons (x_var rfl rfl) ad_nil)) (sp_multiply (Sz.mono ht (by decide : 10 ≤ 4400)) (Sz.mono hv (by decide : 170 ≤ 4400)) rfl)) ad_nil)) (sp_subtract (Sz.mono hw (by decide : 170 ≤ 4400)) (Sz.mono (Sz.mul ht hv) (by decide : 180 ≤ 4400)) rfl)) (ad_cons (x_var rfl rfl) ad_nil)) (sp_add (Sz.mono (Sz.sub hw (Sz.mul ht hv)) (by decide : 351 ≤ 4400)) (Sz.mono hu (by decide : 170 ≤ 4400)) rfl)) (ad_cons (xd_call (ad_cons (x_con q_TWO rfl) (ad_cons (x_var rfl rfl) ad_nil)) (sp_subtract (Sz.mono (Sz.two (by decide)) (by decide : 2 ≤ 4400)) (Sz.mono ht (by decide : 10 ≤ 4400)) rfl)) ad_nil)) (sp_divide (Sz.mono (Sz.add (Sz.sub hw (Sz.mul ht hv)) hu) (by decide)) (Sz.mono (Sz.sub (Sz.two (n := 2) (by decide)) ht) (by decide)) n2 rfl)) ?_
  try simp only [entG, setG, List.map_cons, List.map_nil, List.cons_append, List.nil_append, List.length_cons, List.length_nil, Nat.reduceAdd, Nat.reduceSub, List.replicate_succ, List.replicate_zero, List.set_cons_zero, List.set_cons_succ]
  refine sd_set (xd_call (ad_cons (x_var rfl rfl) (ad_cons (x_var rfl rfl) ad_nil)) (sp_subtract (Sz.mono hu (by decide : 170 ≤ 4400)) (Sz.mono hm (by decide : 400 ≤ 4400)) rfl)) ?_
  try simp only [entG, setG, List.map_cons, List.map_nil, List.cons_append, List.nil_append, List.length_cons, List.length_nil, Nat.reduceAdd, Nat.reduceSub, List.replicate_succ, List.replicate_zero, List.set_cons_zero, List.set_cons_succ]
  refine sd_set (xd_call (ad_cons (x_var rfl rfl) (ad_cons (x_var rfl rfl) ad_nil)) (sp_subtract (Sz.mono hv (by decide : 170 ≤ 4400)) (Sz.mono hm (by decide : 400 ≤ 4400)) rfl)) ?_
  try simp only [entG, setG, List.map_cons, List.map_nil, List.cons_append, List.nil_append, List.length_cons, List.length_nil, Nat.reduceAdd, Nat.reduceSub, List.replicate_succ, List.replicate_zero, List.set_cons_zero, List.set_cons_succ]
  refine sd_set (xd_call (ad_cons (x_var rfl rfl) ad_nil) (sp_negative rfl)) ?_
  try simp only [entG, setG, List.map_cons, List.map_nil, List.cons_append, List.nil_append, List.length_cons, List.length_nil, Nat.reduceAdd, Nat.reduceSub, List.replicate_succ, List.replicate_zero, List.set_cons_zero, List.set_cons_succ]
  have hcy := ok.sc
  have hgr := ok.sg hc
  generalize midQ u v w t = m at hm hx hy hcy hgr hR ⊢
  generalize u - m = x at hx hcy hgr hR ⊢
  generalize v - m = y at hy hcy hgr hR ⊢
  refine sd_when (td_test (x_cycIn (x_var (d := dQ t) rfl rfl)) rfl) (fun hc1 => ?_) (fun hc1 => ?_)
  · rcases cyc_cases hc1 with ⟨e, ec⟩ | ⟨e, ec⟩ | ⟨e, ec⟩
    · rw [if_pos e] at hR
      exact s_ret (xd_call (ad_cons (x_var (d := dQ x) rfl rfl) (ad_cons (x_var (d := dQ y) rfl rfl) (ad_cons (x_var (d := dQ t) rfl rfl) (ad_cons (x_var (d := dQ (-m)) rfl rfl) ad_nil)))) ⟨x, y, t, -m, 3, rfl, ec, by decide, ht.mono (by decide), hm.neg, hcy (.inl e), hR⟩)
    · rw [if_neg (by rw [e]; decide), if_pos e] at hR
      exact s_ret (xd_call (ad_cons (x_var (d := dQ x) rfl rfl) (ad_cons (x_var (d := dQ y) rfl rfl) (ad_cons (x_var (d := dQ t) rfl rfl) (ad_cons (x_var (d := dQ (-m)) rfl rfl) ad_nil)))) ⟨x, y, t, -m, 4, rfl, ec, by decide, ht.mono (by decide), hm.neg, hcy (.inr (.inl e)), hR⟩)
    · rw [if_neg (by rw [e]; decide), if_neg (by rw [e]; decide), if_pos e] at hR
      exact s_ret (xd_call (ad_cons (x_var (d := dQ x) rfl rfl) (ad_cons (x_var (d := dQ y) rfl rfl) (ad_cons (x_var (d := dQ t) rfl rfl) (ad_cons (x_var (d := dQ (-m)) rfl rfl) ad_nil)))) ⟨x, y, t, -m, 6, rfl, ec, by decide, ht.mono (by decide), hm.neg, hcy (.inr (.inr e)), hR⟩)
  have e1 : t ≠ -1 := fun z => by rw [z] at hc1; exact absurd hc1 (by decide)
  have e2 : t ≠ 0 := fun z => by rw [z] at hc1; exact absurd hc1 (by decide)
  have e3 : t ≠ 1 := fun z => by rw [z] at hc1; exact absurd hc1 (by decide)
  rw [if_neg e1, if_neg e2, if_neg e3] at hR
  refine sd_when (td_test (xd_op od_eqD (e := dQ (-2)) (x_var (d := dQ t) rfl rfl) (xd_tup (ad_cons (xd_neg (x_int rfl)) (ad_cons (x_int rfl) ad_nil)) (Nat.le_of_ble_eq_true rfl) rfl) ⟨rfl, rfl, rfl⟩) rfl) (fun hc2 => ?_) (fun hc2 => ?_)
  · rw [eqv_Q, decide_eq_true_eq] at hc2
    rw [if_pos hc2] at hR
    exact s_ret (xd_call (ad_cons (x_var (d := dQ x) rfl rfl) (ad_cons (x_var (d := dQ y) rfl rfl) (ad_cons (x_var (d := dQ (-m)) rfl rfl) ad_nil))) ⟨x, y, -m, rfl, hx, hy, hm.neg, hR⟩)
  rw [eqv_Q, decide_eq_false_iff_not] at hc2
  rw [if_neg hc2] at hR
  refine sd_when (td_B (xd_call (ad_cons (xd_call (ad_cons (x_var rfl rfl) (ad_cons (x_var rfl rfl) ad_nil)) (sp_multiply (Sz.mono ht (by decide : 10 ≤ 4400)) (Sz.mono ht (by decide : 10 ≤ 4400)) rfl)) (ad_cons (xd_callD (ad_cons (x_int rfl) ad_nil) (fun _ => .cons (.int _) .nil) (sp_fraction1 rfl)) ad_nil)) (sp_is_less (Sz.mono (Sz.mul ht ht) (by decide : 20 ≤ 4400)) (Sz.mono (Sz.int (n := 3) (i := 4) (by decide) (by decide)) (by decide : 3 ≤ 4400)) rfl)) rfl) (fun hc3 => ?_) (fun hc3 => ?_)
  · rw [if_pos (show t * t < 4 from of_decide_eq_true hc3)] at hR
    exact s_ret (xd_call (ad_cons (x_var (d := dQ x) rfl rfl) (ad_cons (x_var (d := dQ y) rfl rfl) (ad_cons (x_var (d := dQ t) rfl rfl) (ad_cons (x_var (d := dQ (-m)) rfl rfl) ad_nil)))) ⟨x, y, t, -m, rfl, hx, hy, ht.mono (by decide), hm.neg, hR⟩)
  have hc3 : ¬ t * t < 4 := of_decide_eq_false hc3
  rw [if_neg hc3] at hR
  refine sd_when (td_test (xd_op od_eqD (xd_call (ad_cons (x_var rfl rfl) (ad_cons (x_var rfl rfl) (ad_cons (x_var rfl rfl) ad_nil))) (sp_form_of hx hy (ht.mono (by decide)) rfl)) (x_con q_ZERO rfl) ⟨rfl, rfl, rfl⟩) rfl) (fun hc4 => ?_) (fun hc4 => ?_)
  · rw [eqv_Q, decide_eq_true_eq] at hc4
    rw [if_pos hc4] at hR
    exact s_ret (xd_call (ad_cons (x_var (d := dQ x) rfl rfl) (ad_cons (x_var (d := dQ y) rfl rfl) (ad_cons (x_var (d := dQ (-m)) rfl rfl) ad_nil))) ⟨x, y, -m, rfl, hx, hy, hm.neg, hR⟩)
  rw [eqv_Q, decide_eq_false_iff_not] at hc4
  rw [if_neg hc4] at hR
  refine sd_when (td_test (xd_op od_B0 (xd_call (ad_cons (x_var rfl rfl) ad_nil) (sp_sign rfl)) (x_int rfl) ⟨_, _, rfl, rfl, rfl⟩) rfl) (fun hc5 => ?_) (fun hc5 => ?_)
  · rw [if_pos (sg_neg.mp (of_decide_eq_true hc5))] at hR
    exact sd_ret (x_bl rfl) hR
  have hc6 : ¬ t < 0 := fun z => of_decide_eq_false hc5 (sg_neg.mpr z)
  rw [if_neg hc6] at hR
  obtain ⟨g1, g2⟩ := hgr hc3 hc4 hc6
  exact s_ret (xd_call (ad_cons (x_var (d := dQ x) rfl rfl) (ad_cons (x_var (d := dQ y) rfl rfl) (ad_cons (x_var (d := dQ t) rfl rfl) (ad_cons (x_var (d := dQ (-m)) rfl rfl) ad_nil)))) ⟨x, y, t, -m, n, rfl, ht.mono (by decide), hm.neg, g1, g2, hR⟩)
/-! ### stays -/
def tr (t : List El) : Rat := (tmap t).a + (tmap t).d
def uAt (t : List El) (h : Pl) (r : Rat × Rat) (k : Nat) : Rat := h.at ((npow (tmap t) k).app r) - (h.z : Rat)
def staysB (nf : Pl → Nat) (t : List El) (r : Rat × Rat) : Bool := (hplsN t t.length).all fun h => belowB (nf h) (uAt t h r 0) (uAt t h r 1) (uAt t h r 2) (tr t)
structure StOk (nf : Pl → Nat) (t : List El) (r : Rat × Rat) : Prop where
  tk : TOk t
  tm : (tmap t).Sz 1000
  rk : ∀ k, k ≤ 2 → RSz 400 ((npow (tmap t) k).app r)
  hk : ∀ h ∈ hplsN t t.length, h.Sz 300
  bk : ∀ h ∈ hplsN t t.length, SbOk (nf h) (uAt t h r 0) (uAt t h r 1) (uAt t h r 2) (tr t)
def F_stays (ds : List D) (R : D → Prop) : Prop := ∃ (nf : Pl → Nat) (t : List El) (r : Rat × Rat), ds = [dT t, dR r] ∧ StOk nf t r ∧ R (.bool (staysB nf t r))
theorem len_stays : ∀ ds R, F_stays ds R → ds.length = 2 := fun _ _ ⟨_, _, _, h, _⟩ => by rw [h]; rfl
theorem sp_stays {nf : Pl → Nat} {t : List El} {r : Rat × Rat} {R : D → Prop} (h : StOk nf t r) (k : R (.bool (staysB nf t r))) : F_stays [dT t, dR r] R := ⟨nf, t, r, rfl, h, k⟩
abbrev N_stays : List Str := ["train", "ray", "half_planes", "transfer", "trace", "second", "third", "half_plane", "bound", "values", "one"]
theorem sc_stays : FnScope N_stays ["train", "ray"] (defScope (topS 71)) := ⟨rfl, rfl, rfl, by decide +kernel, rfl, by decide +kernel, by decide +kernel⟩
theorem ok_stays (T : Tc P w K mg base cs) : Good P w K mg base cs "stays" ["train", "ray"] 9 F_stays := by
  obtain ⟨f, c, fd, D0, m0, t0⟩ := T.fn 55 _ rfl
  obtain ⟨f_stays_below, d_stays_below, m_stays_below, k_stays_below, b_stays_below, G_stays_below⟩ := ok_stays_below T
  obtain ⟨f_subtract, d_subtract, m_subtract, k_subtract, b_subtract, G_subtract⟩ := ok_subtract T
  obtain ⟨f_value_at, d_value_at, m_value_at, k_value_at, b_value_at, G_value_at⟩ := ok_value_at T
  obtain ⟨f_fraction, d_fraction, m_fraction, k_fraction, b_fraction, ⟨d1_fraction, v1_fraction, b1_fraction⟩, G_fraction⟩ := ok_fraction T
  obtain ⟨f_apply_map, d_apply_map, m_apply_map, k_apply_map, b_apply_map, G_apply_map⟩ := ok_apply_map T
  obtain ⟨f_trace_of, d_trace_of, m_trace_of, k_trace_of, b_trace_of, G_trace_of⟩ := ok_trace_of T
  obtain ⟨f_ray_transfer, d_ray_transfer, m_ray_transfer, k_ray_transfer, b_ray_transfer, G_ray_transfer⟩ := ok_ray_transfer T
  obtain ⟨f_planes_of, d_planes_of, m_planes_of, k_planes_of, b_planes_of, G_planes_of⟩ := ok_planes_of T
  refine ⟨f, fd, m0, D0.kp, D0.funD.bindsN (fun _ _ _ _ _ _ us hl => match us, hl with | [_, _], _ => rfl), D0.ok sc_stays (fun vs H Q E h => pm_len len_stays h) (fun A outer s H vs Q E hr h => ⟨_, (pss_cons (ps_set (i := 2) sc_stays.nd rfl (.inl rfl) (pe_call G_planes_of (hr.mono (by decide)) rfl m_planes_of k_planes_of b_planes_of .nil pass0 (pa_cons (pv 0) pa_nil)))
      (pss_cons (ps_set (i := 3) sc_stays.nd rfl (.inl rfl) (pe_call G_ray_transfer (hr.mono (by decide)) rfl m_ray_transfer k_ray_transfer b_ray_transfer .nil pass0 (pa_cons (pv 0) pa_nil)))
      (pss_cons (ps_set (i := 4) sc_stays.nd rfl (.inl rfl) (pe_call G_trace_of (hr.mono (by decide)) rfl m_trace_of k_trace_of b_trace_of .nil pass0 (pa_cons (pv 3) pa_nil)))
      (pss_cons (ps_set (i := 5) sc_stays.nd rfl (.inl rfl) (pe_call G_apply_map (hr.mono (by decide)) rfl m_apply_map k_apply_map b_apply_map .nil pass0 (pa_cons (pv 3) (pa_cons (pv 1) pa_nil))))
      (pss_cons (ps_set (i := 6) sc_stays.nd rfl (.inl rfl) (pe_call G_apply_map (hr.mono (by decide)) rfl m_apply_map k_apply_map b_apply_map .nil pass0 (pa_cons (pv 3) (pa_cons (pv 5) pa_nil))))
      (pss_cons (ps_for PassesOwn.never rfl (pi_list (pv 2)) (pg_name (i := 7) sc_stays.nd rfl (.inr rfl)) (pss_cons (ps_set (i := 8) sc_stays.nd rfl (.inr rfl) (pe_call G_fraction (hr.mono (by decide)) rfl m_fraction k_fraction b1_fraction v1_fraction pass0 (pa_cons (pe_ix (r := rIxT K) L2.ix_tup (pv 7) pe_int (fun _ _ => rfl)) pa_nil)))
      (pss_cons (ps_setLc (i := 9) (own := [("one", 10)]) rfl sc_stays.nd rfl rfl (sw_true rfl rfl rfl rfl) (pi_list (pe_lst (pa_cons (pv 1) (pa_cons (pv 5) (pa_cons (pv 6) pa_nil))))) (blkOk_by (N := N_stays) (sc := defScope (topS 71)) (by decide +kernel)) (fun s H C cl fp => (pg_name (i := 10) sc_stays.nd rfl (.inl rfl) (.inr rfl))) (fun s H C cl fp => pts_nil) (fun s H C cl fp => (pe_call G_subtract (hr.mono (by decide)) rfl m_subtract k_subtract b_subtract .nil pass0 (pa_cons (pe_call G_value_at (hr.mono (by decide)) rfl m_value_at k_value_at b_value_at .nil pass0 (pa_cons (pv 7) (pa_cons (pv 10) pa_nil))) (pa_cons (pv 8) pa_nil)))))
      (pss_one (ps_if (pt_not (pt_val (pe_call G_stays_below (hr.mono (by decide)) rfl m_stays_below k_stays_below b_stays_below .nil pass0 (pa_cons (pe_ix (r := rIxL K) L2.ix_list (pv 9) pe_int (fun _ _ => rfl)) (pa_cons (pe_ix (r := rIxL K) L2.ix_list (pv 9) pe_int (fun _ _ => rfl)) (pa_cons (pe_ix (r := rIxL K) L2.ix_list (pv 9) pe_int (fun _ _ => rfl)) (pa_cons (pv 4) pa_nil))))))) (pss_one (ps_ret pe_bl)) pss_nil)))))
      (pss_one (ps_ret pe_bl)))))))), pm_body rfl ?_ h⟩)⟩
  intro ds R hF
  obtain ⟨nf, t, r, rfl, ok, hR⟩ := hF
  have r0 : RSz 400 r := by have := ok.rk 0 (by decide); rw [show npow (tmap t) 0 = Mp.one from rfl, one_app] at this; exact this
  have r1 : RSz 400 ((tmap t).app r) := by have := ok.rk 1 (by decide); rw [npow_one] at this; exact this
  have r2 : RSz 400 ((tmap t).app ((tmap t).app r)) := by
    have := ok.rk 2 (by decide)
    rw [show npow (tmap t) 2 = (npow (tmap t) 1).then (tmap t) from rfl, npow_one, then_app] at this
    exact this
  have s0 : npow (tmap t) 0 = Mp.one := rfl
  have e0 : (npow (tmap t) 0).app r = r := by rw [s0, one_app]
  have e1 : (npow (tmap t) 1).app r = (tmap t).app r := by rw [npow_one]
  have e2 : (npow (tmap t) 2).app r = (tmap t).app ((tmap t).app r) := by rw [show npow (tmap t) 2 = (npow (tmap t) 1).then (tmap t) from rfl, npow_one, then_app]
  refine sd_set (xd_call (ad_cons (x_var rfl rfl) ad_nil) (sp_planes_of ok.tk rfl)) ?_
  try simp only [entG, setG, List.map_cons, List.map_nil, List.cons_append, List.nil_append, List.length_cons, List.length_nil, Nat.reduceAdd, Nat.reduceSub, List.replicate_succ, List.replicate_zero, List.set_cons_zero, List.set_cons_succ]
  refine sd_set (xd_call (ad_cons (x_var rfl rfl) ad_nil) (sp_ray_transfer ok.tk.1 rfl)) ?_
  try simp only [entG, setG, List.map_cons, List.map_nil, List.cons_append, List.nil_append, List.length_cons, List.length_nil, Nat.reduceAdd, Nat.reduceSub, List.replicate_succ, List.replicate_zero, List.set_cons_zero, List.set_cons_succ]
  refine sd_set (d := dQ (tr t)) (xd_call (ad_cons (x_var rfl rfl) ad_nil) (sp_trace_of ok.tm rfl)) ?_
  try simp only [entG, setG, List.map_cons, List.map_nil, List.cons_append, List.nil_append, List.length_cons, List.length_nil, Nat.reduceAdd, Nat.reduceSub, List.replicate_succ, List.replicate_zero, List.set_cons_zero, List.set_cons_succ]
  refine sd_set (xd_call (ad_cons (x_var rfl rfl) (ad_cons (x_var rfl rfl) ad_nil)) (sp_apply_map ok.tm (r0.mono (by decide)) rfl)) ?_
  try simp only [entG, setG, List.map_cons, List.map_nil, List.cons_append, List.nil_append, List.length_cons, List.length_nil, Nat.reduceAdd, Nat.reduceSub, List.replicate_succ, List.replicate_zero, List.set_cons_zero, List.set_cons_succ]
  refine sd_set (xd_call (ad_cons (x_var rfl rfl) (ad_cons (x_var rfl rfl) ad_nil)) (sp_apply_map ok.tm (r1.mono (by decide)) rfl)) ?_
  try simp only [entG, setG, List.map_cons, List.map_nil, List.cons_append, List.nil_append, List.length_cons, List.length_nil, Nat.reduceAdd, Nat.reduceSub, List.replicate_succ, List.replicate_zero, List.set_cons_zero, List.set_cons_succ]
  have hln : (hplsN t t.length).length ≤ 200 := by have := hplsN_len t t.length; have := ok.tk.2.1; omega
  refine s_seq (sd_for (ixd_list (ds := (hplsN t t.length).map dP) (x_var rfl rfl)) tg_name (fun i Γ => ∃ z1 z2 z3 z4 : Sl, Γ = [.val (dT t), .val (dR r), .val (dPs (hplsN t t.length)), .val (dM (tmap t)), .val (dQ (tr t)), .val (dR ((tmap t).app r)), .val (dR ((tmap t).app ((tmap t).app r))), z1, z2, z3, z4] ∧ ∀ j h, j < i → (hplsN t t.length)[j]? = some h → belowB (nf h) (uAt t h r 0) (uAt t h r 1) (uAt t h r 2) (tr t) = true) ⟨_, _, _, _, rfl, fun j h hj => absurd hj (Nat.not_lt_zero j)⟩ ?_ ?_)
  · rintro i d Γ' hd ⟨z1, z2, z3, z4, rfl, hall⟩
    obtain ⟨h, eh, rfl⟩ := gmapE hd
    have mh := List.mem_of_getElem? eh
    have hs := ok.hk h mh
    refine ⟨_, rfl, ?_⟩
    try simp only [entG, setG, List.map_cons, List.map_nil, List.cons_append, List.nil_append, List.length_cons, List.length_nil, Nat.reduceAdd, Nat.reduceSub, List.replicate_succ, List.replicate_zero, List.set_cons_zero, List.set_cons_succ]
    refine sd_set (xd_callD (ad_cons (xd_op od_ixT (x_var (d := dP h) rfl rfl) (x_int rfl) ⟨_, _, _, rfl, rfl, rfl, rfl⟩) ad_nil) (fun _ => .cons (.int _) .nil) (sp_fraction1 rfl)) ?_
    try simp only [entG, setG, List.map_cons, List.map_nil, List.cons_append, List.nil_append, List.length_cons, List.length_nil, Nat.reduceAdd, Nat.reduceSub, List.replicate_succ, List.replicate_zero, List.set_cons_zero, List.set_cons_succ]
    refine sd_set (d := .list [dQ (uAt t h r 0), dQ (uAt t h r 1), dQ (uAt t h r 2)]) (xd_mapF dR (fun x => dQ (h.at x - (h.z : Rat))) [r, (tmap t).app r, (tmap t).app ((tmap t).app r)] (ixd_list (xd_lst (ad_cons (x_var (d := dR r) rfl rfl) (ad_cons (x_var (d := dR ((tmap t).app r)) rfl rfl) (ad_cons (x_var (d := dR ((tmap t).app ((tmap t).app r))) rfl rfl) ad_nil))) (Nat.le_of_ble_eq_true rfl) rfl)) tg_name (by decide) (Nat.le_of_ble_eq_true rfl) (fun x hx => ?_) ?_) ?_
    · have sx : RSz 400 x := by
        simp only [List.mem_cons, List.not_mem_nil, or_false] at hx
        rcases hx with rfl | rfl | rfl
        · exact r0
        · exact r1
        · exact r2
      refine ⟨_, rfl, xd_call (ad_cons (xd_call (ad_cons (x_var (d := dP h) rfl rfl) (ad_cons (x_var (d := dR x) rfl rfl) ad_nil)) (sp_value_at (hs.mono (by decide)) (sx.mono (by decide)) rfl)) (ad_cons (x_var (d := dQ (h.z : Rat)) rfl rfl) ad_nil)) (sp_subtract ((Pl.at_Sz hs (by decide) sx).mono (by decide)) ((Sz.int hs.2.2 (by decide)).mono (by decide)) rfl)⟩
    · unfold uAt
      rw [e0, e1, e2]
      rfl
    try simp only [entG, setG, List.map_cons, List.map_nil, List.cons_append, List.nil_append, List.length_cons, List.length_nil, Nat.reduceAdd, Nat.reduceSub, List.replicate_succ, List.replicate_zero, List.set_cons_zero, List.set_cons_succ]
    refine sd_if (td_not (td_B (xd_call (ad_cons (xd_op od_ixL (x_var (d := .list [dQ (uAt t h r 0), dQ (uAt t h r 1), dQ (uAt t h r 2)]) rfl rfl) (x_int rfl) ⟨_, _, _, rfl, rfl, rfl, rfl⟩) (ad_cons (xd_op od_ixL (x_var (d := .list [dQ (uAt t h r 0), dQ (uAt t h r 1), dQ (uAt t h r 2)]) rfl rfl) (x_int rfl) ⟨_, _, _, rfl, rfl, rfl, rfl⟩) (ad_cons (xd_op od_ixL (x_var (d := .list [dQ (uAt t h r 0), dQ (uAt t h r 1), dQ (uAt t h r 2)]) rfl rfl) (x_int rfl) ⟨_, _, _, rfl, rfl, rfl, rfl⟩) (ad_cons (x_var (d := dQ (tr t)) rfl rfl) ad_nil)))) ⟨nf h, _, _, _, _, rfl, ok.bk h mh, rfl⟩) rfl)) (fun hc => ?_) (fun hc => ?_)
    · have hf : belowB (nf h) (uAt t h r 0) (uAt t h r 1) (uAt t h r 2) (tr t) = false := by simpa using hc
      have e : staysB nf t r = false := by
        unfold staysB
        rw [List.all_eq_false]
        exact ⟨h, mh, by rw [hf]; decide⟩
      rw [e] at hR
      exact sd_ret (x_bl rfl) hR
    · have hf : belowB (nf h) (uAt t h r 0) (uAt t h r 1) (uAt t h r 2) (tr t) = true := by simpa using hc
      refine s_next ⟨_, _, _, _, rfl, fun j k hj ek => ?_⟩
      by_cases e : j = i
      · subst e
        rw [eh] at ek
        cases ek
        exact hf
      · exact hall j k (by omega) ek
  · rintro Γ' ⟨z1, z2, z3, z4, rfl, hall⟩
    rw [List.length_map] at hall
    have e : staysB nf t r = true := by
      unfold staysB
      rw [List.all_eq_true]
      intro h hm
      obtain ⟨j, hj, rfl⟩ := List.getElem_of_mem hm
      exact hall j _ hj (List.getElem?_eq_getElem hj)
    rw [e] at hR
    exact sd_ret (x_bl rfl) hR
end Rt
set_option Elab.async false
set_option linter.all false
set_option maxRecDepth 100000
set_option maxHeartbeats 4000000
/-! Rules for defs that change a list they are handed (the law's box of digits). -/
namespace Rt
open PySem PySem.Spec PyProof.Rows L2 GxR Gx RZ
def msk (H : Hp) (b : Addr) : Hp := fun a => if a = b then none else H a
theorem msk_ne {H : Hp} {a b : Addr} (h : a ≠ b) : msk H b a = H a := if_neg h
theorem msk_same {H : Hp} {b : Addr} : msk H b b = none := if_pos rfl
theorem msk_gr (H : Hp) (b : Addr) : Gr (msk H b) H := fun a o e => by
  by_cases h : a = b
  · subst h
    rw [msk_same] at e
    cases e
  · rw [msk_ne h] at e
    exact ⟨o, e, .inl rfl⟩
section
variable (K : PySem.W.Frag) (cs : List Addr)
def Exm (te : TE) (Γ : Gm) (R : D → Gm → Prop) : Prop := ∀ (B0 H0 : Hp) (σ : L2.St) (B H : Hp), Stp B0 H0 B H → Rs K cs H0 σ B H Γ → ∀ Q : VK,
  (∀ v B' H' d Γ', Stp B0 H0 B' H' → Gr B B' → Rs K cs H0 σ B' H' Γ' → Dq K B' v d → R d Γ' → Q v H') → te σ H Q
def Axm (ta : TA) (Γ : Gm) (R : List D → Gm → Prop) : Prop := ∀ (B0 H0 : Hp) (σ : L2.St) (B H : Hp), Stp B0 H0 B H → Rs K cs H0 σ B H Γ → ∀ Q : List V → Hp → Prop,
  (∀ vs B' H' ds Γ', Stp B0 H0 B' H' → Gr B B' → Rs K cs H0 σ B' H' Γ' → DqAll K B' vs ds → R ds Γ' → Q vs H') → ta σ H Q
def Txm (tt : L2.TT) (Γ : Gm) (R : Bool → Gm → Prop) : Prop := ∀ (B0 H0 : Hp) (σ : L2.St) (B H : Hp), Stp B0 H0 B H → Rs K cs H0 σ B H Γ → ∀ Q : Bool → Hp → Prop,
  (∀ b B' H' Γ', Stp B0 H0 B' H' → Gr B B' → Rs K cs H0 σ B' H' Γ' → R b Γ' → Q b H') → tt σ H Q
def Sxm (t : TS) (Γ : Gm) (N : Gm → Prop) (R : D → Gm → Prop) : Prop := ∀ (B0 H0 : Hp) (σ : L2.St) (B H : Hp), Stp B0 H0 B H → Rs K cs H0 σ B H Γ → ∀ E : Ends,
  (∀ σ' B' H' Γ', Stp B0 H0 B' H' → Rs K cs H0 σ' B' H' Γ' → σ'[0]? = σ[0]? → N Γ' → E.nx σ' H') → (∀ σ' v B' H' d Γ', Stp B0 H0 B' H' → Rs K cs H0 σ' B' H' Γ' → σ'[0]? = σ[0]? → Dq K B' v d → R d Γ' → E.rt v H') → t E σ H
/-- a def that changes the list that is its first argument -/
def PmB (F : List D → List D → (D → List D → Prop) → Prop) : Sp := fun vs H Q _ => ∃ B b bs us ds es R, vs = .ref b :: us ∧ Gr B H ∧ (∀ P ∈ cs, TabG B P) ∧ B b = none ∧ H b = some (.lst bs) ∧ DqAll K B bs es ∧ DqAll K B us ds ∧ F es ds R ∧
  ∀ v B' H' d bs' es', Stp B (msk H b) B' H' → B' b = none → H' b = some (.lst bs') → DqAll K B' bs' es' → Dq K B' v d → R d es' → Q v H'
end
section
variable {K : PySem.W.Frag} {cs : List Addr} {Γ : Gm} {N : Gm → Prop} {ta tb te : TE} {t u : TS} {d e : D}
theorem Exm.mono {R R' : D → Gm → Prop} (h : Exm K cs te Γ R) (k : ∀ d g, R d g → R' d g) : Exm K cs te Γ R' := fun B0 H0 σ B H s r Q q => h B0 H0 σ B H s r Q fun v B' H' d g s' gr r' dv rd => q v B' H' d g s' gr r' dv (k d g rd)
theorem Ex.m {R : D → Prop} (h : Ex K cs te Γ R) : Exm K cs te Γ (fun d g => R d ∧ g = Γ) := fun B0 H0 σ B H s r Q q => h H0 σ B H r s.v Q fun v B' H' d st dv rd => q v B' H' d Γ (s.trans st) st.b (r.step st) dv ⟨rd, rfl⟩
theorem xm_of {R : D → Gm → Prop} (h : Xd K cs te Γ d) (k : R d Γ) : Exm K cs te Γ R := (Ex.m h).mono fun d' g ⟨e1, e2⟩ => by rw [← e1, e2]; exact k
theorem am_nil {R : List D → Gm → Prop} (k : R [] Γ) : Axm K cs tNil Γ R := fun B0 H0 σ B H s r Q q => q [] B H [] Γ s (.refl B) r .nil k
theorem am_cons {tr : TA} {Ra : D → Gm → Prop} {R : List D → Gm → Prop} (h : Exm K cs te Γ Ra) (hr : ∀ d g, Ra d g → Axm K cs tr g (fun ds g2 => R (d :: ds) g2)) : Axm K cs (tCons te tr) Γ R := fun B0 H0 σ B H s r Q q =>
  h B0 H0 σ B H s r _ fun v B1 H1 d g s1 g1 r1 dv rd => hr d g rd B0 H0 σ B1 H1 s1 r1 _ fun vs B2 H2 ds g2 s2 gr2 r2 dvs rds => q _ B2 H2 _ g2 s2 (g1.trans gr2) r2 (.cons (gr2.dp d v dv) dvs) rds
theorem am_of {tr : TA} {R : List D → Gm → Prop} {ds : List D} (h : Ad K cs tr Γ ds) (k : R ds Γ) : Axm K cs tr Γ R := fun B0 H0 σ B H s r Q q => h H0 σ B H r s.v Q fun vs B' H' ds' st dv rd => by
  subst rd
  exact q vs B' H' _ Γ (s.trans st) st.b (r.step st) dv k
theorem xm_op {r : R2} {P : D → D → (D → Prop) → Prop} {Ra : D → Gm → Prop} {R : D → Gm → Prop} (o : OpD K r P) (ha : Exm K cs ta Γ Ra) (hb : ∀ d g, Ra d g → Exm K cs tb g (fun e g2 => P d e (fun f => R f g2))) : Exm K cs (tOp r ta tb) Γ R := fun B0 H0 σ B H s rs Q q =>
  ha B0 H0 σ B H s rs _ fun x B1 H1 d g s1 g1 r1 dx rd => hb d g rd B0 H0 σ B1 H1 s1 r1 _ fun y B2 H2 e g2 s2 gr2 r2 dy p =>
    o B2 H2 x y d e _ s2.v (gr2.dp d x dx) dy p Q fun z B3 H3 f st dz rf => q z B3 H3 f g2 (s2.trans st) ((g1.trans gr2).trans st.b) (r2.step st) dz rf
theorem xm_tup {ta : TA} {R : D → Gm → Prop} (ha : Axm K cs ta Γ (fun ds g => ds.length ≤ 100000 ∧ R (.tuple ds) g)) : Exm K cs (tTup ta) Γ R := fun B0 H0 σ B H s rs Q q =>
  ha B0 H0 σ B H s rs _ fun xs B1 H1 ds g s1 g1 r1 dp rd => by
    have l1 := dp.length
    have hl := rd.1
    refine ⟨szl (by omega), fun p hp => ?_⟩
    have st := Stp.new (o := .tup xs) s1.v hp
    exact q _ (upd B1 p (.tup xs)) _ _ g (s1.trans st) (g1.trans st.b) (r1.step st) (.tup (SqT.of upd_same) ((Gr.new (s1.v.none hp)).dpA _ _ dp)) rd.2
theorem xm_lst {ta : TA} {R : D → Gm → Prop} (ha : Axm K cs ta Γ (fun ds g => ds.length ≤ 100000 ∧ R (.list ds) g)) : Exm K cs (tLst ta) Γ R := fun B0 H0 σ B H s rs Q q =>
  ha B0 H0 σ B H s rs _ fun xs B1 H1 ds g s1 g1 r1 dp rd => by
    have l1 := dp.length
    have hl := rd.1
    refine ⟨szl (by omega), fun p hp => ?_⟩
    have st := Stp.new (o := .lst xs) s1.v hp
    exact q _ (upd B1 p (.lst xs)) _ _ g (s1.trans st) (g1.trans st.b) (r1.step st) (.lst upd_same ((Gr.new (s1.v.none hp)).dpA _ _ dp)) rd.2
theorem xm_call {F : List D → (D → Prop) → Prop} {ta : TA} {R : D → Gm → Prop} {E : XK} (ha : Axm K cs ta Γ (fun ds g => F ds (fun d => R d g))) : Exm K cs (tCall (Pm K cs F) [] E ta) Γ R := fun B0 H0 σ B H s rs Q q =>
  ha B0 H0 σ B H s rs _ fun xs B1 H1 ds g s1 g1 r1 dp rd => ⟨B1, ds, _, s1.v, r1.tab, by rw [List.append_nil]; exact dp, rd, fun v B2 H2 d st dv rv => q v B2 H2 d g (s1.trans st) (g1.trans st.b) (r1.step st) dv rv⟩
theorem Rs.box {H0 B H B' H' : Hp} {σ : L2.St} {i : Nat} {b : Addr} {es es' : List D} {bs' : List V} (r : Rs K cs H0 σ B H Γ) (hi : Γ[i]? = some (.own es)) (hb : σ[i]? = some (some (.ref b))) (h0 : H0 b = none) (st : Stp B (msk H b) B' H') (h1 : B' b = none) (h2 : H' b = some (.lst bs')) (h3 : DqAll K B' bs' es') :
    Rs K cs H0 σ B' H' (Γ.set i (.own es')) := by
  refine ⟨by rw [List.length_set]; exact r.len, fun j s x e1 e2 => ?_, fun j k ds es2 p hjk e1 e2 e3 => ?_, fun P hP => st.b.tab (r.tab P hP)⟩
  · by_cases e : i = j
    · subst e
      rw [List.getElem?_set, if_pos rfl] at e1
      split at e1
      · cases e1
        rw [hb] at e2
        cases e2
        exact ⟨b, bs', rfl, h0, h1, h2, h3⟩
      · cases e1
    · rw [List.getElem?_set_ne e] at e1
      have z := r.sl j s x e1 e2
      cases s with
      | no => trivial
      | val d =>
        obtain ⟨v, q1, q2⟩ := z
        exact ⟨v, q1, st.b.dp d v q2⟩
      | own fs =>
        obtain ⟨a, us, q1, q2, q3, q4, q5⟩ := z
        have na : a ≠ b := fun z => by
          subst z
          exact r.sep i j es fs a e hi e1 hb (by rw [e2, q1])
        have ha : msk H b a = some (.lst us) := by rw [msk_ne na]; exact q4
        exact ⟨a, us, q1, q2, st.hid a q3 (by rw [ha]; simp), st.h.lst ha, st.b.dpA _ _ q5⟩
  · have own_ : ∀ {l : Nat} {fs : List D}, (Γ.set i (.own es'))[l]? = some (.own fs) → ∃ gs, Γ[l]? = some (.own gs) := fun {l fs} h => by
      by_cases e : i = l
      · subst e
        exact ⟨es, hi⟩
      · rw [List.getElem?_set_ne e] at h
        exact ⟨fs, h⟩
    obtain ⟨g1, z1⟩ := own_ e1
    obtain ⟨g2, z2⟩ := own_ e2
    exact r.sep j k g1 g2 p hjk z1 z2 e3
theorem Stp.box {B0 H0 B H B' H' : Hp} {b : Addr} (s : Stp B0 H0 B H) (h0 : H0 b = none) (st : Stp B (msk H b) B' H') : Stp B0 H0 B' H' := by
  refine ⟨s.b.trans st.b, fun a o e => ?_, st.v, fun a e n => ?_⟩
  · have na : a ≠ b := fun z => by
      subst z
      rw [h0] at e
      cases e
    have g : Gr H0 (msk H b) := fun x ox ex => by
      have nx : x ≠ b := fun z => by
        subst z
        rw [h0] at ex
        cases ex
      rw [msk_ne nx]
      exact s.h x ox ex
    exact g.trans st.h a o e
  · have na : a ≠ b := fun z => by
      subst z
      exact n h0
    exact st.hid a (s.hid a e n) (by rw [msk_ne na]; exact s.h.some n)
/-- a call that changes the list in slot i -/
theorem xm_box {F : List D → List D → (D → List D → Prop) → Prop} {i : Nat} {es ds : List D} {ta : TA} {R : D → Gm → Prop} {E : XK} (hi : Γ[i]? = some (.own es)) (ha : Ad K cs ta Γ ds) (k : F es ds (fun d es' => R d (Γ.set i (.own es')))) :
    Exm K cs (tCall (PmB K cs F) [] E (tCons (tVar i) ta)) Γ R := fun B0 H0 σ B H s rs Q q => by
  obtain ⟨p, vs, e1, e2, e3, e4, e5⟩ := rs.own hi
  refine ⟨.ref p, e1, ?_⟩
  refine ha H0 σ B H rs s.v _ fun xs B1 H1 ds' st dp rd => ?_
  subst rd
  have r1 := rs.step st
  have s1 := s.trans st
  obtain ⟨p', vs', f1, f2, f3, f4, f5⟩ := r1.own hi
  rw [e1] at f1
  cases f1
  refine ⟨B1, p, vs', xs, ds, es, _, by rw [List.append_nil], s1.v, r1.tab, f3, f4, f5, dp, k, fun v B' H' d bs' es' stb hb1 hb2 hb3 dv rv => ?_⟩
  exact q v B' H' d _ (s1.box e2 stb) (st.b.trans stb.b) (r1.box hi e1 e2 stb hb1 hb2 hb3) dv rv
theorem tm_test {P : Bool → Gm → Prop} (h : Exm K cs te Γ (fun d g => ∃ b, d = .bool b ∧ P b g)) : Txm K cs (tTest te) Γ P := fun B0 H0 σ B H s r Q q => h B0 H0 σ B H s r _ fun x B1 H1 d g s1 g1 r1 dp rd => by
  obtain ⟨b, rfl, k⟩ := rd
  exact ⟨b, dp_bl dp, q b B1 H1 g s1 g1 r1 k⟩
theorem tm_of {c : L2.TT} {b : Bool} {P : Bool → Gm → Prop} (h : Td K cs c Γ b) (k : P b Γ) : Txm K cs c Γ P := fun B0 H0 σ B H s r Q q => h H0 σ B H r s.v Q fun b' B' H' st e => by
  subst e
  exact q _ B' H' Γ (s.trans st) st.b (r.step st) k
theorem Rs.show {H0 B H : Hp} {σ : L2.St} {i : Nat} {ds : List D} {p : Addr} {vs : List V} (hi : Γ[i]? = some (.own ds)) (r : Rs K cs H0 σ B H Γ) (e1 : σ[i]? = some (some (.ref p))) (e3 : B p = none) (e5 : DqAll K B vs ds) : Rs K cs H0 σ (upd B p (.lst vs)) H (Γ.set i (.val (.list ds))) := by
  have g : Gr B (upd B p (.lst vs)) := .new e3
  refine ⟨by rw [List.length_set]; exact r.len, fun j s x h1 h2 => ?_, fun j k ds' es q hjk h1 h2 h3 => ?_, fun P hP => g.tab (r.tab P hP)⟩
  · by_cases e : i = j
    · subst e
      rw [List.getElem?_set, if_pos rfl] at h1
      split at h1
      · cases h1
        rw [e1] at h2
        cases h2
        exact ⟨_, rfl, .lst upd_same (g.dpA _ _ e5)⟩
      · cases h1
    · rw [List.getElem?_set_ne e] at h1
      have z := r.sl j s x h1 h2
      cases s with
      | no => trivial
      | val d =>
        obtain ⟨v, q1, q2⟩ := z
        exact ⟨v, q1, g.dp _ _ q2⟩
      | own es =>
        obtain ⟨a, ws, q1, q2, q3, q4, q5⟩ := z
        have na : a ≠ p := fun z => by
          subst z
          exact r.sep i j ds es a e hi h1 e1 (by rw [h2, q1])
        exact ⟨a, ws, q1, q2, by rw [upd_ne na]; exact q3, q4, g.dpA _ _ q5⟩
  · have nj : i ≠ j := fun e => by
      subst e
      rw [List.getElem?_set, if_pos rfl] at h1
      split at h1
      · cases h1
      · cases h1
    have nk : i ≠ k := fun e => by
      subst e
      rw [List.getElem?_set, if_pos rfl] at h2
      split at h2
      · cases h2
      · cases h2
    rw [List.getElem?_set_ne nj] at h1
    rw [List.getElem?_set_ne nk] at h2
    exact r.sep j k ds' es q hjk h1 h2 h3
theorem DqAll.put {B : Hp} : ∀ {ds : List D} {vs : List V} {j : Nat} {d : D} {v : V}, DqAll K B vs ds → Dq K B v d → DqAll K B (vs.set j v) (ds.set j d)
  | [], _, _, _, _, h, _ => by cases h; exact .nil
  | _ :: _, _, 0, _, _, h, q => by
    cases h with
    | cons h1 h2 => exact .cons q h2
  | _ :: _, _, j + 1, _, _, h, q => by
    cases h with
    | cons h1 h2 => exact .cons h1 (DqAll.put h2 q)
/-! ### statements -/
section
variable {R : D → Gm → Prop}
theorem sm_ret (h : Exm K cs te Γ R) : Sxm K cs (tRet te) Γ N R := fun B0 H0 σ B H st r E _ q => h B0 H0 σ B H st r _ fun v B' H' d g s1 _ r1 dp rd => q σ v B' H' d g s1 r1 rfl dp rd
theorem sm_next (k : N Γ) : Sxm K cs tNext Γ N R := fun B0 H0 σ B H st r E q _ => q σ B H Γ st r rfl k
theorem sm_seq (h : Sxm K cs t Γ (fun Γ' => Sxm K cs u Γ' N R) R) : Sxm K cs (tSeq t u) Γ N R := fun B0 H0 σ B H st r E q1 q2 =>
  h B0 H0 σ B H st r { E with nx := u E } (fun σ' B' H' Γ' s1 r1 e1 n => n B0 H0 σ' B' H' s1 r1 E (fun σ2 B2 H2 Γ2 s2 r2 e2 n2 => q1 σ2 B2 H2 Γ2 s2 r2 (e2.trans e1) n2) fun σ2 v B2 H2 d Γ2 s2 r2 e2 => q2 σ2 v B2 H2 d Γ2 s2 r2 (e2.trans e1)) q2
theorem sm_asg {i : Nat} (hi : i ≠ 0) (h : Exm K cs te Γ (fun d g => N (g.set i (.val d)))) : Sxm K cs (tAsg te (gName i)) Γ N R := fun B0 H0 σ B H st r E q _ =>
  h B0 H0 σ B H st r _ fun v B' H' d g s1 _ r1 dp rd => q _ B' H' _ s1 (r1.set dp) (List.getElem?_set_ne hi) rd
theorem sm_set {i : Nat} (hi : i ≠ 0) (h : Exm K cs te Γ (fun d g => Sxm K cs u (g.set i (.val d)) N R)) : Sxm K cs (tSeq (tAsg te (gName i)) u) Γ N R := sm_seq (sm_asg hi h)
theorem sm_if {c : L2.TT} {P : Bool → Gm → Prop} (h : Txm K cs c Γ P) (h1 : ∀ g, P true g → Sxm K cs t g N R) (h2 : ∀ g, P false g → Sxm K cs u g N R) : Sxm K cs (tIfS c t u) Γ N R := fun B0 H0 σ B H st r E q1 q2 =>
  h B0 H0 σ B H st r _ fun b B' H' g s1 _ r1 pb => by
    cases b with
    | true =>
      show t E σ H'
      exact h1 g pb B0 H0 σ B' H' s1 r1 E q1 q2
    | false =>
      show u E σ H'
      exact h2 g pb B0 H0 σ B' H' s1 r1 E q1 q2
theorem sm_when {c : L2.TT} {P : Bool → Gm → Prop} (h : Txm K cs c Γ P) (h1 : ∀ g, P true g → Sxm K cs t g (fun Γ' => Sxm K cs u Γ' N R) R) (h2 : ∀ g, P false g → Sxm K cs u g N R) : Sxm K cs (tSeq (tIfS c t tNext) u) Γ N R :=
  sm_seq (sm_if h h1 fun g p => sm_next (h2 g p))
theorem sm_newL {i : Nat} {ta : TA} (hi : i ≠ 0) (h : Axm K cs ta Γ (fun ds g => ds.length ≤ 100000 ∧ N (g.set i (.own ds)))) : Sxm K cs (tAsg (tLst ta) (gName i)) Γ N R := fun B0 H0 σ B H st r E q _ =>
  h B0 H0 σ B H st r _ fun xs B' H' es g s1 _ r1 dp rd => by
    have l1 := dp.length
    have hl := rd.1
    refine ⟨szl (by omega), fun p hp => ?_⟩
    have r2 : Rs K cs H0 σ B' (upd H' p (.lst xs)) g := by
      refine ⟨r1.len, fun j s x h1 h2 => ?_, r1.sep, r1.tab⟩
      have z := r1.sl j s x h1 h2
      cases s with
      | no => trivial
      | val d => exact z
      | own es =>
        obtain ⟨a, vs, e1, e2, e3, e4, e5⟩ := z
        exact ⟨a, vs, e1, e2, e3, by rw [upd_ne (ne_of_none e4 hp)]; exact e4, e5⟩
    refine q _ B' (upd H' p (.lst xs)) _ (s1.hide hp) (setOwn r2 (s1.h.none hp) (s1.v.none hp) upd_same dp fun j es hj h1 h2 => ?_) (List.getElem?_set_ne hi) rd.2
    obtain ⟨a, vs, e1, e2, e3, e4, e5⟩ := r1.own h1
    rw [e1] at h2
    have e : a = p := V.ref.inj (Option.some.inj (Option.some.inj h2))
    rw [e, hp] at e4
    cases e4
/-- xs.append(e) -/
theorem sm_app {i : Nat} {ds : List D} (hi : Γ[i]? = some (.own ds)) (h : Exm K cs te Γ (fun d g => ∃ ds', g[i]? = some (.own ds') ∧ ds'.length < 100000 ∧ N (g.set i (.own (ds' ++ [d]))))) : Sxm K cs (tDrop (tBM K "list" rAppend (tVar i) (tCons te tNil))) Γ N R := fun B0 H0 σ B H st r E q _ => by
  obtain ⟨p, vs, e1, e2, e3, e4, e5⟩ := r.own hi
  refine ⟨.ref p, e1, .inl ⟨rfl, vs, SqL.of e4⟩, ?_⟩
  refine h B0 H0 σ B H st r _ fun x B' H' d g s1 _ r1 dp rd => ?_
  obtain ⟨ds', hg, hl, n⟩ := rd
  obtain ⟨p', vs', f1, f2, f3, f4, f5⟩ := r1.own hg
  rw [e1] at f1
  cases f1
  have l1 := f5.length
  refine ⟨p, vs', x, rfl, rfl, f4, szlt (by omega), ?_⟩
  exact q _ B' _ _ (s1.mut f2 f3) (r1.write hg e1 (f5.app (.cons dp .nil))) rfl n
/-- xs[j] = e of a list of one's own -/
theorem sm_put {i : Nat} {ds : List D} {j : Nat} (hi : Γ[i]? = some (.own ds)) (hj : j < ds.length) (h : Xd K cs te Γ d) (k : N (Γ.set i (.own (ds.set j d)))) : Sxm K cs (tAsg te (gSub (tVar i) (tC (.int (j : Int))) rSetL)) Γ N R := fun B0 H0 σ B H st r E q _ => by
  obtain ⟨p, vs, e1, e2, e3, e4, e5⟩ := r.own hi
  refine h H0 σ B H r st.v _ fun x B' H' d' s1 dp rd => ?_
  subst rd
  have r1 := r.step s1
  have st1 := st.trans s1
  obtain ⟨p', vs', f1, f2, f3, f4, f5⟩ := r1.own hi
  rw [e1] at f1
  cases f1
  have l1 := f5.length
  refine ⟨.ref p, e1, p, vs', (j : Int), j, rfl, rfl, f4, ?_, ?_⟩
  · unfold ixN
    rw [if_pos (by omega), if_pos (by omega), Int.toNat_natCast]
  · exact q _ B' _ _ (st1.mut f2 f3) (r1.write hi e1 (f5.put dp)) rfl k
theorem sm_show {i : Nat} {ds : List D} (hi : Γ[i]? = some (.own ds)) (h : Sxm K cs t (Γ.set i (.val (.list ds))) N R) : Sxm K cs t Γ N R := fun B0 H0 σ B H st r E q1 q2 => by
  obtain ⟨p, vs, e1, e2, e3, e4, e5⟩ := r.own hi
  have st1 := st.show e2 e3 e4
  refine h B0 H0 σ (upd B p (.lst vs)) H st1 ?_ E q1 q2
  exact Rs.show hi r e1 e3 e5
end
/-- the value of a box call in the world of Sx -/
theorem s_asgm {i : Nat} {R : D → Prop} (h : Exm K cs te Γ (fun d g => N (g.set i (.val d)))) : Sx K cs (tAsg te (gName i)) Γ N R := fun B0 H0 σ B H st r E q _ =>
  h B0 H0 σ B H st r _ fun v B' H' d g s1 _ r1 dp rd => q _ B' H' _ s1 (r1.set dp) rd
def entB (n : Nat) (es ds : List D) : Gm := .own es :: ds.map Sl.val ++ List.replicate (n - (ds.length + 1)) .no
theorem pmb_body {F : List D → List D → (D → List D → Prop) → Prop} {Nm : List Str} {n : Nat} (hn : Nm.length = n) (h : ∀ es ds R, F es ds R → Sxm K cs t (entB n es ds) (fun g => ∃ es', g[0]? = some (.own es') ∧ R .none es') (fun d g => ∃ es', g[0]? = some (.own es') ∧ R d es'))
    {vs : List V} {H : Hp} {Q : VK} {E : XK} (p : PmB K cs F vs H Q E) : t { nx := fun _ H' => Q .non H', rt := Q } (L2.start Nm vs) H := by
  obtain ⟨B, b, bs, us, ds, es, R, rfl, g, tb, hb, hbs, de, dq, f, q⟩ := p
  have l1 := dq.length
  have st0 : Stp B (msk H b) B H := ⟨.refl B, msk_gr H b, g, fun _ e _ => e⟩
  have fin : ∀ (σ' : L2.St) (v : V) (B' H' : Hp) (d : D) (Γ' : Gm), Stp B (msk H b) B' H' → Rs K cs (msk H b) σ' B' H' Γ' → σ'[0]? = (L2.start Nm (V.ref b :: us))[0]? → Dq K B' v d → (∃ es', Γ'[0]? = some (.own es') ∧ R d es') → Q v H' := fun σ' v B' H' d Γ' s1 r1 e0 dv ⟨es', h0, rd⟩ => by
    obtain ⟨p', vs', f1, f2, f3, f4, f5⟩ := r1.own h0
    have e : (L2.start Nm (V.ref b :: us))[0]? = some (some (V.ref b)) := rfl
    rw [e0, e] at f1
    cases f1
    exact q v B' H' d vs' es' s1 f3 f4 f5 dv rd
  refine h es ds R f B (msk H b) (L2.start Nm (.ref b :: us)) B H st0 ⟨?_, fun i s x h1 h2 => ?_, fun i j es1 fs p hij h1 h2 h3 => ?_, tb⟩ _ (fun σ' B' H' Γ' s1 r1 e0 rn => fin σ' _ B' H' _ Γ' s1 r1 e0 .non rn) fun σ' v B' H' d Γ' s1 r1 e0 dp rd => fin σ' v B' H' d Γ' s1 r1 e0 dp rd
  · unfold L2.start entB
    simp only [List.length_append, List.length_map, List.length_replicate, List.length_cons]
    rw [l1, hn]
  · cases i with
    | zero =>
      cases h1
      cases h2
      exact ⟨b, bs, rfl, msk_same, hb, hbs, de⟩
    | succ i =>
      have h1 : (ds.map Sl.val ++ List.replicate (n - (ds.length + 1)) Sl.no)[i]? = some s := h1
      have h2 : (us.map some ++ List.replicate (Nm.length - (V.ref b :: us).length) none)[i]? = some x := h2
      by_cases hi : i < ds.length
      · rw [List.getElem?_append_left (by simpa using hi), List.getElem?_map, List.getElem?_eq_getElem hi] at h1
        rw [List.getElem?_append_left (by simpa [l1] using hi), List.getElem?_map] at h2
        obtain ⟨v, hv, dv⟩ := dq.get (List.getElem?_eq_getElem hi)
        rw [hv] at h2
        have e1 : s = .val ds[i] := (Option.some.inj h1).symm
        have e2 : x = some v := (Option.some.inj h2).symm
        subst e1 e2
        exact ⟨v, rfl, dv⟩
      · rw [List.getElem?_append_right (by simpa using hi), List.getElem?_replicate] at h1
        split at h1
        · cases h1
          trivial
        · cases h1
  · exfalso
    have no : ∀ {l : Nat} {xs : List D}, (entB n es ds)[l]? = some (.own xs) → l = 0 := fun {l xs} hl => by
      cases l with
      | zero => rfl
      | succ l =>
        have hl : (ds.map Sl.val ++ List.replicate (n - (ds.length + 1)) Sl.no)[l]? = some (.own xs) := hl
        by_cases hi : l < ds.length
        · rw [List.getElem?_append_left (by simpa using hi), List.getElem?_map, List.getElem?_eq_getElem hi] at hl
          cases hl
        · rw [List.getElem?_append_right (by simpa using hi), List.getElem?_replicate] at hl
          split at hl <;> cases hl
    exact hij ((no h1).trans (no h2).symm)
theorem pmb_len {F : List D → List D → (D → List D → Prop) → Prop} {n : Nat} (h : ∀ es ds R, F es ds R → ds.length + 1 = n) {vs : List V} {H : Hp} {Q : VK} {E : XK} (p : PmB K cs F vs H Q E) : vs.length = n := by
  obtain ⟨B, b, bs, us, ds, es, R, rfl, g, tb, hb, hbs, de, dq, f, q⟩ := p
  rw [List.length_cons, dq.length]
  exact h es ds R f
end
def GoodB (P : Program) (w : World) (K : PySem.W.Frag) (mg : Str → Option Value) (base : Heap) (cs : List Addr) (x : Str) (ps : List Str) (k : Nat) (F : List D → List D → (D → List D → Prop) → Prop) : Prop :=
  ∃ f fd, mg x = some (.ref f) ∧ PySem.W.keepIn K (.ref f) = true ∧ Binds K fd ps [] ∧ FnOk P w K mg base CX0 k f fd ps (PmB K cs F)
end Rt
set_option Elab.async false
set_option linter.all false
set_option maxRecDepth 100000
set_option maxHeartbeats 4000000
set_option exponentiation.threshold 100000
/-! The walk, part 12: the law's helpers without the box. -/
namespace Rt
open PySem PySem.Spec PyProof.Rows L2 GxR Gx RZ
variable {P : Program} {w : World} {K : PySem.W.Frag} {mg : Str → Option Value} {base : Heap} {cs : List Addr}
def F__law_same (ds : List D) (R : D → Prop) : Prop := ∃ a b : Bool, ds = [.bool a, .bool b] ∧ R (.bool (a == b))
theorem len__law_same : ∀ ds R, F__law_same ds R → ds.length = 2 := fun _ _ ⟨_, _, h, _⟩ => by rw [h]; rfl
abbrev N__law_same : List Str := ["_law_one", "_law_other"]
theorem sc__law_same : FnScope N__law_same ["_law_one", "_law_other"] (defScope (topS 85)) := ⟨rfl, rfl, rfl, by decide +kernel, rfl, by decide +kernel, by decide +kernel⟩
theorem ok__law_same (T : Tc P w K mg base cs) : Good P w K mg base cs "_law_same" ["_law_one", "_law_other"] 1 F__law_same := by
  obtain ⟨f, c, fd, D0, m0, t0⟩ := T.fn 67 _ rfl
  have z_repr := T.fr "repr" (by decide)
  refine ⟨f, fd, m0, D0.kp, D0.funD.bindsN (fun _ _ _ _ _ _ us hl => match us, hl with | [_, _], _ => rfl), D0.ok sc__law_same (fun vs H Q E h => pm_len len__law_same h) (fun A outer s H vs Q E hr h => ⟨_, (pss_one (ps_ret (pe_cmpR op_eq (pe_callB call_reprB rfl z_repr (by rfl) (pa_cons (pv 0) pa_nil)) (pe_callB call_reprB rfl z_repr (by rfl) (pa_cons (pv 1) pa_nil)) (nomark _)))), pm_body rfl ?_ h⟩)⟩
  intro ds R hF
  obtain ⟨a, b, rfl, hR⟩ := hF
  refine sd_ret (xd_op od_eqS (xd_cb cb_repr (ad_cons (x_var rfl rfl) ad_nil) ⟨_, rfl, rfl⟩) (xd_cb cb_repr (ad_cons (x_var rfl rfl) ad_nil) ⟨_, rfl, rfl⟩) ⟨_, _, rfl, rfl, rfl⟩) ?_
  cases a <;> cases b <;> exact hR
theorem len__law_frac : ∀ ds R, F_fraction ds R → ds.length = 2 := len_fraction
abbrev N__law_frac : List Str := ["_law_top", "_law_bottom", "_law_one", "_law_other"]
theorem sc__law_frac : FnScope N__law_frac ["_law_top", "_law_bottom"] (defScope (topS 86)) := ⟨rfl, rfl, rfl, by decide +kernel, rfl, by decide +kernel, by decide +kernel⟩
theorem ok__law_frac (T : Tc P w K mg base cs) : Good P w K mg base cs "_law_frac" ["_law_top", "_law_bottom"] 1 F_fraction := by
  obtain ⟨f, c, fd, D0, m0, t0⟩ := T.fn 68 _ rfl
  have z_int := T.fr "int" (by decide)
  have z_abs := T.fr "abs" (by decide)
  refine ⟨f, fd, m0, D0.kp, D0.funD.bindsN (fun _ _ _ _ _ _ us hl => match us, hl with | [_, _], _ => rfl), D0.ok sc__law_frac (fun vs H Q E h => pm_len len_fraction h) (fun A outer s H vs Q E hr h => ⟨_, (pss_cons (ps_set (i := 2) sc__law_frac.nd rfl (.inl rfl) (pe_callB call_abs rfl z_abs (by rfl) (pa_cons (pv 0) pa_nil)))
      (pss_cons (ps_set (i := 3) sc__law_frac.nd rfl (.inl rfl) (pe_callB call_abs rfl z_abs (by rfl) (pa_cons (pv 1) pa_nil)))
      (pss_cons (ps_while PassesOwn.never (pt_cmpR op_gt (pv 3) pe_int (nomark _)) (pss_one (ps_par (i := 2) (j := 3) rfl sc__law_frac.nd rfl rfl (by decide) rfl rfl (pa_cons (pv 3) (pa_cons (pe_op op_modN (pe_callTy call_int1 rfl z_int (by rfl) (pa_cons (pv 2) pa_nil)) (pe_callTy call_int1 rfl z_int (by rfl) (pa_cons (pv 3) pa_nil))) pa_nil)) rfl)))
      (pss_cons (ps_if (pt_cmpR op_lt (pv 1) pe_int (nomark _)) (pss_one (ps_set (i := 2) sc__law_frac.nd rfl (.inl rfl) (pe_un un_neg (pv 2)))) pss_nil)
      (pss_one (ps_ret (pe_tup (pa_cons (pe_op op_fdivZ (pv 0) (pv 2)) (pa_cons (pe_op op_fdivZ (pv 1) (pv 2)) pa_nil))))))))), pm_body rfl ?_ h⟩)⟩
  intro ds R hF
  obtain ⟨a, b, rfl, hb, hs, hR⟩ := hF
  refine sd_set (xd_cb cb_abs (ad_cons (x_var rfl rfl) ad_nil) ⟨_, rfl, rfl⟩) ?_
  refine sd_set (xd_cb cb_abs (ad_cons (x_var rfl rfl) ad_nil) ⟨_, rfl, rfl⟩) ?_
  refine s_seq (s_while (fun m Γ => ∃ x y : Nat, Γ = [.val (.int a), .val (.int b), .val (.int (x : Int)), .val (.int (y : Int))] ∧ m = y ∧ Nat.gcd x y = Int.gcd a b) b.natAbs ⟨a.natAbs, b.natAbs, rfl, rfl, rfl⟩ ?_)
  rintro m Γ' ⟨x, y, rfl, rfl, hg⟩
  refine ⟨_, (td_test (xd_op od_B0 (x_var rfl rfl) (x_int rfl) ⟨_, _, rfl, rfl, rfl⟩) rfl), fun ht => ?_, fun hf => ?_⟩
  · have hy : 0 < m := by have := of_decide_eq_true ht; omega
    refine s_par (ad_cons (x_var rfl rfl) (ad_cons (xd_op od_I (xd_cb cb_int (ad_cons (x_var rfl rfl) ad_nil) ⟨_, rfl, rfl⟩) (xd_cb cb_int (ad_cons (x_var rfl rfl) ad_nil) ⟨_, rfl, rfl⟩) ⟨_, _, rfl, rfl, (by omega), rfl⟩) ad_nil)) ?_
    refine ⟨x % m, Nat.mod_lt _ hy, m, x % m, ?_, rfl, by rw [gcd_step hy, hg]⟩
    show [Sl.val (.int a), Sl.val (.int b), Sl.val (.int (m : Int)), Sl.val (.int ((x : Int).fmod (m : Int)))] = _
    rw [Int.fmod_eq_emod_of_nonneg _ (by omega)]
    rfl
  have hy : m = 0 := by have := of_decide_eq_false hf; omega
  subst hy
  rw [Nat.gcd_zero_right] at hg
  subst hg
  have key : ∀ (Γ : Gm) (z : Sl), Γ = [.val (.int a), .val (.int b), .val (.int (dvr a b)), z] → Sx K cs (tRet (tTup (tCons (tOp (rI CDivZ fun i j => .int (i.fdiv j)) (tVar 0) (tVar 2)) (tCons (tOp (rI CDivZ fun i j => .int (i.fdiv j)) (tVar 1) (tVar 2)) tNil)))) Γ (fun _ => R .none) R := by
    rintro Γ z rfl
    refine sd_ret (xd_tup (ad_cons (xd_op od_I (x_var rfl rfl) (x_var rfl rfl) ⟨_, _, rfl, rfl, cdiv_dvr hb hs _, rfl⟩) (ad_cons (xd_op od_I (x_var rfl rfl) (x_var rfl rfl) ⟨_, _, rfl, rfl, cdiv_dvr hb hs _, rfl⟩) ad_nil)) (Nat.le_of_ble_eq_true rfl) rfl) ?_
    rw [frac_num hb, frac_den hb]
    exact hR
  refine sd_when (td_test (xd_op od_B0 (x_var rfl rfl) (x_int rfl) ⟨_, _, rfl, rfl, rfl⟩) rfl) (fun ht => ?_) (fun hf => ?_)
  · refine sd_asg (xd_neg (x_var rfl rfl)) (key _ (.val (.int ((0 : Nat) : Int))) ?_)
    have h : b < 0 := of_decide_eq_true ht
    unfold dvr
    rw [if_pos h]
    rfl
  · refine key _ (.val (.int ((0 : Nat) : Int))) ?_
    have h : ¬ b < 0 := of_decide_eq_false hf
    unfold dvr
    rw [if_neg h]
theorem len__law_add : ∀ ds R, F_add ds R → ds.length = 2 := len_add
abbrev N__law_add : List Str := ["_law_one", "_law_other"]
theorem sc__law_add : FnScope N__law_add ["_law_one", "_law_other"] (defScope (topS 87)) := ⟨rfl, rfl, rfl, by decide +kernel, rfl, by decide +kernel, by decide +kernel⟩
theorem ok__law_add (T : Tc P w K mg base cs) : Good P w K mg base cs "_law_add" ["_law_one", "_law_other"] 2 F_add := by
  obtain ⟨f, c, fd, D0, m0, t0⟩ := T.fn 69 _ rfl
  obtain ⟨f__law_frac, d__law_frac, m__law_frac, k__law_frac, b__law_frac, G__law_frac⟩ := ok__law_frac T
  refine ⟨f, fd, m0, D0.kp, D0.funD.bindsN (fun _ _ _ _ _ _ us hl => match us, hl with | [_, _], _ => rfl), D0.ok sc__law_add (fun vs H Q E h => pm_len len_add h) (fun A outer s H vs Q E hr h => ⟨_, (pss_one (ps_ret (pe_call G__law_frac (hr.mono (by decide)) rfl m__law_frac k__law_frac b__law_frac .nil pass0 (pa_cons (pe_op op_add (pe_op op_mulW (pe_ix (r := rIxT K) L2.ix_tup (pv 0) pe_int (fun _ _ => rfl)) (pe_ix (r := rIxT K) L2.ix_tup (pv 1) pe_int (fun _ _ => rfl))) (pe_op op_mulW (pe_ix (r := rIxT K) L2.ix_tup (pv 1) pe_int (fun _ _ => rfl)) (pe_ix (r := rIxT K) L2.ix_tup (pv 0) pe_int (fun _ _ => rfl)))) (pa_cons (pe_op op_mulW (pe_ix (r := rIxT K) L2.ix_tup (pv 0) pe_int (fun _ _ => rfl)) (pe_ix (r := rIxT K) L2.ix_tup (pv 1) pe_int (fun _ _ => rfl))) pa_nil))))), pm_body rfl ?_ h⟩)⟩
  intro ds R hF
  obtain ⟨p, q, rfl, hp, hq, hR⟩ := hF
  refine sd_ret (xd_call (ad_cons (xd_op od_I0 (xd_op od_I (xd_op od_ixT (x_var rfl rfl) (x_int rfl) ⟨_, _, _, rfl, rfl, rfl, rfl⟩) (xd_op od_ixT (x_var rfl rfl) (x_int rfl) ⟨_, _, _, rfl, rfl, rfl, rfl⟩) ⟨_, _, rfl, rfl, ?_, rfl⟩) (xd_op od_I (xd_op od_ixT (x_var rfl rfl) (x_int rfl) ⟨_, _, _, rfl, rfl, rfl, rfl⟩) (xd_op od_ixT (x_var rfl rfl) (x_int rfl) ⟨_, _, _, rfl, rfl, rfl, rfl⟩) ⟨_, _, rfl, rfl, ?_, rfl⟩) ⟨_, _, rfl, rfl, rfl⟩) (ad_cons (xd_op od_I (xd_op od_ixT (x_var rfl rfl) (x_int rfl) ⟨_, _, _, rfl, rfl, rfl, rfl⟩) (xd_op od_ixT (x_var rfl rfl) (x_int rfl) ⟨_, _, _, rfl, rfl, rfl, rfl⟩) ⟨_, _, rfl, rfl, ?_, rfl⟩) ad_nil)) ?_) hR
  · exact qmul hp.1 hq.2
  · exact qmul hq.1 hp.2
  · exact qmul hp.2 hq.2
  · exact ⟨_, _, rfl, den_ne p q, den_mul_lt hp hq, by rw [divInt_add]⟩
theorem len__law_neg : ∀ ds R, F_negative ds R → ds.length = 1 := len_negative
abbrev N__law_neg : List Str := ["_law_one"]
theorem sc__law_neg : FnScope N__law_neg ["_law_one"] (defScope (topS 88)) := ⟨rfl, rfl, rfl, by decide +kernel, rfl, by decide +kernel, by decide +kernel⟩
theorem ok__law_neg (T : Tc P w K mg base cs) : Good P w K mg base cs "_law_neg" ["_law_one"] 1 F_negative := by
  obtain ⟨f, c, fd, D0, m0, t0⟩ := T.fn 70 _ rfl
  refine ⟨f, fd, m0, D0.kp, D0.funD.bindsN (fun _ _ _ _ _ _ us hl => match us, hl with | [_], _ => rfl), D0.ok sc__law_neg (fun vs H Q E h => pm_len len_negative h) (fun A outer s H vs Q E hr h => ⟨_, (pss_one (ps_ret (pe_tup (pa_cons (pe_un un_neg (pe_ix (r := rIxT K) L2.ix_tup (pv 0) pe_int (fun _ _ => rfl))) (pa_cons (pe_ix (r := rIxT K) L2.ix_tup (pv 0) pe_int (fun _ _ => rfl)) pa_nil))))), pm_body rfl ?_ h⟩)⟩
  intro ds R hF
  obtain ⟨p, rfl, hR⟩ := hF
  exact sd_ret (xd_tup (ad_cons (xd_neg (xd_op od_ixT (x_var rfl rfl) (x_int rfl) ⟨_, _, _, rfl, rfl, rfl, rfl⟩)) (ad_cons (xd_op od_ixT (x_var rfl rfl) (x_int rfl) ⟨_, _, _, rfl, rfl, rfl, rfl⟩) ad_nil)) (Nat.le_of_ble_eq_true rfl) rfl) hR
theorem len__law_sub : ∀ ds R, F_subtract ds R → ds.length = 2 := len_subtract
abbrev N__law_sub : List Str := ["_law_one", "_law_other"]
theorem sc__law_sub : FnScope N__law_sub ["_law_one", "_law_other"] (defScope (topS 89)) := ⟨rfl, rfl, rfl, by decide +kernel, rfl, by decide +kernel, by decide +kernel⟩
theorem ok__law_sub (T : Tc P w K mg base cs) : Good P w K mg base cs "_law_sub" ["_law_one", "_law_other"] 3 F_subtract := by
  obtain ⟨f, c, fd, D0, m0, t0⟩ := T.fn 71 _ rfl
  obtain ⟨f__law_add, d__law_add, m__law_add, k__law_add, b__law_add, G__law_add⟩ := ok__law_add T
  obtain ⟨f__law_neg, d__law_neg, m__law_neg, k__law_neg, b__law_neg, G__law_neg⟩ := ok__law_neg T
  refine ⟨f, fd, m0, D0.kp, D0.funD.bindsN (fun _ _ _ _ _ _ us hl => match us, hl with | [_, _], _ => rfl), D0.ok sc__law_sub (fun vs H Q E h => pm_len len_subtract h) (fun A outer s H vs Q E hr h => ⟨_, (pss_one (ps_ret (pe_call G__law_add (hr.mono (by decide)) rfl m__law_add k__law_add b__law_add .nil pass0 (pa_cons (pv 0) (pa_cons (pe_call G__law_neg (hr.mono (by decide)) rfl m__law_neg k__law_neg b__law_neg .nil pass0 (pa_cons (pv 1) pa_nil)) pa_nil))))), pm_body rfl ?_ h⟩)⟩
  intro ds R hF
  obtain ⟨p, q, rfl, hp, hq, hR⟩ := hF
  rw [Rat.sub_eq_add_neg] at hR
  exact sd_ret (xd_call (ad_cons (x_var rfl rfl) (ad_cons (xd_call (ad_cons (x_var rfl rfl) ad_nil) (sp_negative rfl)) ad_nil)) (sp_add hp hq.neg rfl)) hR
theorem len__law_mul : ∀ ds R, F_multiply ds R → ds.length = 2 := len_multiply
abbrev N__law_mul : List Str := ["_law_one", "_law_other"]
theorem sc__law_mul : FnScope N__law_mul ["_law_one", "_law_other"] (defScope (topS 90)) := ⟨rfl, rfl, rfl, by decide +kernel, rfl, by decide +kernel, by decide +kernel⟩
theorem ok__law_mul (T : Tc P w K mg base cs) : Good P w K mg base cs "_law_mul" ["_law_one", "_law_other"] 2 F_multiply := by
  obtain ⟨f, c, fd, D0, m0, t0⟩ := T.fn 72 _ rfl
  obtain ⟨f__law_frac, d__law_frac, m__law_frac, k__law_frac, b__law_frac, G__law_frac⟩ := ok__law_frac T
  refine ⟨f, fd, m0, D0.kp, D0.funD.bindsN (fun _ _ _ _ _ _ us hl => match us, hl with | [_, _], _ => rfl), D0.ok sc__law_mul (fun vs H Q E h => pm_len len_multiply h) (fun A outer s H vs Q E hr h => ⟨_, (pss_one (ps_ret (pe_call G__law_frac (hr.mono (by decide)) rfl m__law_frac k__law_frac b__law_frac .nil pass0 (pa_cons (pe_op op_mulW (pe_ix (r := rIxT K) L2.ix_tup (pv 0) pe_int (fun _ _ => rfl)) (pe_ix (r := rIxT K) L2.ix_tup (pv 1) pe_int (fun _ _ => rfl))) (pa_cons (pe_op op_mulW (pe_ix (r := rIxT K) L2.ix_tup (pv 0) pe_int (fun _ _ => rfl)) (pe_ix (r := rIxT K) L2.ix_tup (pv 1) pe_int (fun _ _ => rfl))) pa_nil))))), pm_body rfl ?_ h⟩)⟩
  intro ds R hF
  obtain ⟨p, q, rfl, hp, hq, hR⟩ := hF
  refine sd_ret (xd_call (ad_cons (xd_op od_I (xd_op od_ixT (x_var rfl rfl) (x_int rfl) ⟨_, _, _, rfl, rfl, rfl, rfl⟩) (xd_op od_ixT (x_var rfl rfl) (x_int rfl) ⟨_, _, _, rfl, rfl, rfl, rfl⟩) ⟨_, _, rfl, rfl, ?_, rfl⟩) (ad_cons (xd_op od_I (xd_op od_ixT (x_var rfl rfl) (x_int rfl) ⟨_, _, _, rfl, rfl, rfl, rfl⟩) (xd_op od_ixT (x_var rfl rfl) (x_int rfl) ⟨_, _, _, rfl, rfl, rfl, rfl⟩) ⟨_, _, rfl, rfl, ?_, rfl⟩) ad_nil)) ?_) hR
  · exact qmul hp.1 hq.1
  · exact qmul hp.2 hq.2
  · exact ⟨_, _, rfl, den_ne p q, den_mul_lt hp hq, by rw [divInt_mul]⟩
theorem len__law_div : ∀ ds R, F_divide ds R → ds.length = 2 := len_divide
abbrev N__law_div : List Str := ["_law_one", "_law_other"]
theorem sc__law_div : FnScope N__law_div ["_law_one", "_law_other"] (defScope (topS 91)) := ⟨rfl, rfl, rfl, by decide +kernel, rfl, by decide +kernel, by decide +kernel⟩
theorem ok__law_div (T : Tc P w K mg base cs) : Good P w K mg base cs "_law_div" ["_law_one", "_law_other"] 2 F_divide := by
  obtain ⟨f, c, fd, D0, m0, t0⟩ := T.fn 73 _ rfl
  obtain ⟨f__law_frac, d__law_frac, m__law_frac, k__law_frac, b__law_frac, G__law_frac⟩ := ok__law_frac T
  refine ⟨f, fd, m0, D0.kp, D0.funD.bindsN (fun _ _ _ _ _ _ us hl => match us, hl with | [_, _], _ => rfl), D0.ok sc__law_div (fun vs H Q E h => pm_len len_divide h) (fun A outer s H vs Q E hr h => ⟨_, (pss_one (ps_ret (pe_call G__law_frac (hr.mono (by decide)) rfl m__law_frac k__law_frac b__law_frac .nil pass0 (pa_cons (pe_op op_mulW (pe_ix (r := rIxT K) L2.ix_tup (pv 0) pe_int (fun _ _ => rfl)) (pe_ix (r := rIxT K) L2.ix_tup (pv 1) pe_int (fun _ _ => rfl))) (pa_cons (pe_op op_mulW (pe_ix (r := rIxT K) L2.ix_tup (pv 0) pe_int (fun _ _ => rfl)) (pe_ix (r := rIxT K) L2.ix_tup (pv 1) pe_int (fun _ _ => rfl))) pa_nil))))), pm_body rfl ?_ h⟩)⟩
  intro ds R hF
  obtain ⟨p, q, rfl, hp, hq, h0, hR⟩ := hF
  refine sd_ret (xd_call (ad_cons (xd_op od_I (xd_op od_ixT (x_var rfl rfl) (x_int rfl) ⟨_, _, _, rfl, rfl, rfl, rfl⟩) (xd_op od_ixT (x_var rfl rfl) (x_int rfl) ⟨_, _, _, rfl, rfl, rfl, rfl⟩) ⟨_, _, rfl, rfl, ?_, rfl⟩) (ad_cons (xd_op od_I (xd_op od_ixT (x_var rfl rfl) (x_int rfl) ⟨_, _, _, rfl, rfl, rfl, rfl⟩) (xd_op od_ixT (x_var rfl rfl) (x_int rfl) ⟨_, _, _, rfl, rfl, rfl, rfl⟩) ⟨_, _, rfl, rfl, ?_, rfl⟩) ad_nil)) ?_) hR
  · exact qmul hp.1 hq.2
  · exact qmul hp.2 hq.1
  · have h1 := p.den_pos
    have h2 : q.num ≠ 0 := fun e => h0 (Rat.num_eq_zero.mp e)
    refine ⟨_, _, rfl, Int.mul_ne_zero (by omega) h2, ?_, by rw [divInt_div]⟩
    rw [Int.natAbs_mul]
    exact Nat.lt_of_lt_of_le (mul_lt_pow hp.2 hq.1) (pow_le (by decide))
theorem len__law_less : ∀ ds R, F_is_less ds R → ds.length = 2 := len_is_less
abbrev N__law_less : List Str := ["_law_one", "_law_other"]
theorem sc__law_less : FnScope N__law_less ["_law_one", "_law_other"] (defScope (topS 92)) := ⟨rfl, rfl, rfl, by decide +kernel, rfl, by decide +kernel, by decide +kernel⟩
theorem ok__law_less (T : Tc P w K mg base cs) : Good P w K mg base cs "_law_less" ["_law_one", "_law_other"] 1 F_is_less := by
  obtain ⟨f, c, fd, D0, m0, t0⟩ := T.fn 74 _ rfl
  refine ⟨f, fd, m0, D0.kp, D0.funD.bindsN (fun _ _ _ _ _ _ us hl => match us, hl with | [_, _], _ => rfl), D0.ok sc__law_less (fun vs H Q E h => pm_len len_is_less h) (fun A outer s H vs Q E hr h => ⟨_, (pss_one (ps_ret (pe_cmpR op_lt (pe_op op_mulW (pe_ix (r := rIxT K) L2.ix_tup (pv 0) pe_int (fun _ _ => rfl)) (pe_ix (r := rIxT K) L2.ix_tup (pv 1) pe_int (fun _ _ => rfl))) (pe_op op_mulW (pe_ix (r := rIxT K) L2.ix_tup (pv 1) pe_int (fun _ _ => rfl)) (pe_ix (r := rIxT K) L2.ix_tup (pv 0) pe_int (fun _ _ => rfl))) (nomark _)))), pm_body rfl ?_ h⟩)⟩
  intro ds R hF
  obtain ⟨p, q, rfl, hp, hq, hR⟩ := hF
  rw [decide_eq_decide.mpr (Rat.lt_iff p q)] at hR
  refine sd_ret (xd_op od_B0 (xd_op od_I (xd_op od_ixT (x_var rfl rfl) (x_int rfl) ⟨_, _, _, rfl, rfl, rfl, rfl⟩) (xd_op od_ixT (x_var rfl rfl) (x_int rfl) ⟨_, _, _, rfl, rfl, rfl, rfl⟩) ⟨_, _, rfl, rfl, ?_, rfl⟩) (xd_op od_I (xd_op od_ixT (x_var rfl rfl) (x_int rfl) ⟨_, _, _, rfl, rfl, rfl, rfl⟩) (xd_op od_ixT (x_var rfl rfl) (x_int rfl) ⟨_, _, _, rfl, rfl, rfl, rfl⟩) ⟨_, _, rfl, rfl, ?_, rfl⟩) ⟨_, _, rfl, rfl, rfl⟩) hR
  · exact qmul hp.1 hq.2
  · exact qmul hq.1 hp.2
def F__law_go (ds : List D) (R : D → Prop) : Prop := ∃ (e : El) (r : Rat × Rat), ds = [dE e, dR r] ∧ e.Sz 1000 ∧ RSz 1000 r ∧ R (dR (e.map.app r))
theorem len__law_go : ∀ ds R, F__law_go ds R → ds.length = 2 := fun _ _ ⟨_, _, h, _⟩ => by rw [h]; rfl
abbrev N__law_go : List Str := ["_law_element", "_law_ray_here", "_law_height", "_law_slope"]
theorem sc__law_go : FnScope N__law_go ["_law_element", "_law_ray_here"] (defScope (topS 96)) := ⟨rfl, rfl, rfl, by decide +kernel, rfl, by decide +kernel, by decide +kernel⟩
theorem ok__law_go (T : Tc P w K mg base cs) : Good P w K mg base cs "_law_go" ["_law_element", "_law_ray_here"] 4 F__law_go := by
  obtain ⟨f, c, fd, D0, m0, t0⟩ := T.fn 78 _ rfl
  obtain ⟨f__law_div, d__law_div, m__law_div, k__law_div, b__law_div, G__law_div⟩ := ok__law_div T
  obtain ⟨f__law_mul, d__law_mul, m__law_mul, k__law_mul, b__law_mul, G__law_mul⟩ := ok__law_mul T
  obtain ⟨f__law_add, d__law_add, m__law_add, k__law_add, b__law_add, G__law_add⟩ := ok__law_add T
  obtain ⟨f__law_sub, d__law_sub, m__law_sub, k__law_sub, b__law_sub, G__law_sub⟩ := ok__law_sub T
  refine ⟨f, fd, m0, D0.kp, D0.funD.bindsN (fun _ _ _ _ _ _ us hl => match us, hl with | [_, _], _ => rfl), D0.ok sc__law_go (fun vs H Q E h => pm_len len__law_go h) (fun A outer s H vs Q E hr h => ⟨_, (pss_cons (ps_asg (pv 1) (pg_tup rfl (pgs_cons (pg_name (i := 2) sc__law_go.nd rfl (.inl rfl)) (pgs_cons (pg_name (i := 3) sc__law_go.nd rfl (.inl rfl)) pgs_nil))))
      (pss_cons (ps_if (pt_cmpR op_eq (pe_ix (r := rIxT K) L2.ix_tup (pv 0) pe_int (fun _ _ => rfl)) pe_str (nomark _)) (pss_one (ps_ret (pe_tup (pa_cons (pe_call G__law_add (hr.mono (by decide)) rfl m__law_add k__law_add b__law_add .nil pass0 (pa_cons (pv 2) (pa_cons (pe_call G__law_mul (hr.mono (by decide)) rfl m__law_mul k__law_mul b__law_mul .nil pass0 (pa_cons (pe_ix (r := rIxT K) L2.ix_tup (pv 0) pe_int (fun _ _ => rfl)) (pa_cons (pv 3) pa_nil))) pa_nil))) (pa_cons (pv 3) pa_nil))))) pss_nil)
      (pss_cons (ps_if (pt_cmpR op_eq (pe_ix (r := rIxT K) L2.ix_tup (pv 0) pe_int (fun _ _ => rfl)) pe_str (nomark _)) (pss_one (ps_ret (pe_tup (pa_cons (pv 2) (pa_cons (pe_call G__law_sub (hr.mono (by decide)) rfl m__law_sub k__law_sub b__law_sub .nil pass0 (pa_cons (pv 3) (pa_cons (pe_call G__law_mul (hr.mono (by decide)) rfl m__law_mul k__law_mul b__law_mul .nil pass0 (pa_cons (pe_ix (r := rIxT K) L2.ix_tup (pv 0) pe_int (fun _ _ => rfl)) (pa_cons (pe_call G__law_sub (hr.mono (by decide)) rfl m__law_sub k__law_sub b__law_sub .nil pass0 (pa_cons (pv 2) (pa_cons (pe_ix (r := rIxT K) L2.ix_tup (pv 0) pe_int (fun _ _ => rfl)) pa_nil))) pa_nil))) pa_nil))) pa_nil))))) pss_nil)
      (pss_cons (ps_if (pt_cmpR op_eq (pe_ix (r := rIxT K) L2.ix_tup (pv 0) pe_int (fun _ _ => rfl)) pe_str (nomark _)) (pss_one (ps_ret (pe_tup (pa_cons (pv 2) (pa_cons (pe_call G__law_add (hr.mono (by decide)) rfl m__law_add k__law_add b__law_add .nil pass0 (pa_cons (pv 3) (pa_cons (pe_ix (r := rIxT K) L2.ix_tup (pv 0) pe_int (fun _ _ => rfl)) pa_nil))) pa_nil))))) pss_nil)
      (pss_cons (ps_if (pt_cmpR op_eq (pe_ix (r := rIxT K) L2.ix_tup (pv 0) pe_int (fun _ _ => rfl)) pe_str (nomark _)) (pss_one (ps_ret (pe_tup (pa_cons (pe_call G__law_mul (hr.mono (by decide)) rfl m__law_mul k__law_mul b__law_mul .nil pass0 (pa_cons (pe_ix (r := rIxT K) L2.ix_tup (pv 0) pe_int (fun _ _ => rfl)) (pa_cons (pv 2) pa_nil))) (pa_cons (pe_call G__law_div (hr.mono (by decide)) rfl m__law_div k__law_div b__law_div .nil pass0 (pa_cons (pv 3) (pa_cons (pe_ix (r := rIxT K) L2.ix_tup (pv 0) pe_int (fun _ _ => rfl)) pa_nil))) pa_nil))))) pss_nil)
      (pss_one (ps_ret (pv 1)))))))), pm_body rfl ?_ h⟩)⟩
  intro ds R hF
  obtain ⟨e, r, rfl, hs, ⟨h0, h1⟩, hR⟩ := hF
  refine sd_unp (tg_tup (js := [2, 3]) rfl) (x_var (d := dR r) rfl rfl) rfl ?_
  try simp only [entG, setG, List.map_cons, List.map_nil, List.cons_append, List.nil_append, List.length_cons, List.length_nil, Nat.reduceAdd, Nat.reduceSub, List.replicate_succ, List.replicate_zero, List.set_cons_zero, List.set_cons_succ]
  cases e with
  | gap l =>
    rw [app_gap] at hR
    refine sd_when (td_test (xd_op od_eqS (xd_op od_ixT (x_var rfl rfl) (x_int rfl) ⟨_, _, _, rfl, rfl, rfl, rfl⟩) (x_str rfl) ⟨_, _, rfl, rfl, rfl⟩) rfl) (fun _ => ?_) (fun h => absurd h (by decide))
    have hs : Rt.Sz 1000 l := hs
    exact sd_ret (xd_tup (ad_cons (xd_call (ad_cons (x_var rfl rfl) (ad_cons (xd_call (ad_cons (xd_op od_ixT (x_var rfl rfl) (x_int rfl) ⟨_, _, _, rfl, rfl, rfl, rfl⟩) (ad_cons (x_var rfl rfl) ad_nil)) (sp_multiply (hs.mono (by decide)) (h1.mono (by decide)) rfl)) ad_nil)) (sp_add (h0.mono (by decide)) (Sz.mono (Sz.mul hs h1) (by decide)) rfl)) (ad_cons (x_var rfl rfl) ad_nil)) (Nat.le_of_ble_eq_true rfl) rfl) hR
  | lens p o =>
    rw [app_lens] at hR
    refine sd_when (td_test (xd_op od_eqS (xd_op od_ixT (x_var rfl rfl) (x_int rfl) ⟨_, _, _, rfl, rfl, rfl, rfl⟩) (x_str rfl) ⟨_, _, rfl, rfl, rfl⟩) rfl) (fun h => absurd h (by decide)) (fun _ => ?_)
    refine sd_when (td_test (xd_op od_eqS (xd_op od_ixT (x_var rfl rfl) (x_int rfl) ⟨_, _, _, rfl, rfl, rfl, rfl⟩) (x_str rfl) ⟨_, _, rfl, rfl, rfl⟩) rfl) (fun _ => ?_) (fun h => absurd h (by decide))
    exact sd_ret (xd_tup (ad_cons (x_var rfl rfl) (ad_cons (xd_call (ad_cons (x_var rfl rfl) (ad_cons (xd_call (ad_cons (xd_op od_ixT (x_var rfl rfl) (x_int rfl) ⟨_, _, _, rfl, rfl, rfl, rfl⟩) (ad_cons (xd_call (ad_cons (x_var rfl rfl) (ad_cons (xd_op od_ixT (x_var rfl rfl) (x_int rfl) ⟨_, _, _, rfl, rfl, rfl, rfl⟩) ad_nil)) (sp_subtract (h0.mono (by decide)) (hs.2.mono (by decide)) rfl)) ad_nil)) (sp_multiply (hs.1.mono (by decide)) (Sz.mono (Sz.sub h0 hs.2) (by decide)) rfl)) ad_nil)) (sp_subtract (h1.mono (by decide)) (Sz.mono (Sz.mul hs.1 (Sz.sub h0 hs.2)) (by decide)) rfl)) ad_nil)) (Nat.le_of_ble_eq_true rfl) rfl) hR
  | prism f =>
    rw [app_prism] at hR
    have hs : Rt.Sz 1000 f := hs
    refine sd_when (td_test (xd_op od_eqS (xd_op od_ixT (x_var rfl rfl) (x_int rfl) ⟨_, _, _, rfl, rfl, rfl, rfl⟩) (x_str rfl) ⟨_, _, rfl, rfl, rfl⟩) rfl) (fun h => absurd h (by decide)) (fun _ => ?_)
    refine sd_when (td_test (xd_op od_eqS (xd_op od_ixT (x_var rfl rfl) (x_int rfl) ⟨_, _, _, rfl, rfl, rfl, rfl⟩) (x_str rfl) ⟨_, _, rfl, rfl, rfl⟩) rfl) (fun h => absurd h (by decide)) (fun _ => ?_)
    refine sd_when (td_test (xd_op od_eqS (xd_op od_ixT (x_var rfl rfl) (x_int rfl) ⟨_, _, _, rfl, rfl, rfl, rfl⟩) (x_str rfl) ⟨_, _, rfl, rfl, rfl⟩) rfl) (fun _ => ?_) (fun h => absurd h (by decide))
    exact sd_ret (xd_tup (ad_cons (x_var rfl rfl) (ad_cons (xd_call (ad_cons (x_var rfl rfl) (ad_cons (xd_op od_ixT (x_var rfl rfl) (x_int rfl) ⟨_, _, _, rfl, rfl, rfl, rfl⟩) ad_nil)) (sp_add (h1.mono (by decide)) (hs.mono (by decide)) rfl)) ad_nil)) (Nat.le_of_ble_eq_true rfl) rfl) hR
  | afocal m =>
    rw [app_afocal] at hR
    refine sd_when (td_test (xd_op od_eqS (xd_op od_ixT (x_var rfl rfl) (x_int rfl) ⟨_, _, _, rfl, rfl, rfl, rfl⟩) (x_str rfl) ⟨_, _, rfl, rfl, rfl⟩) rfl) (fun h => absurd h (by decide)) (fun _ => ?_)
    refine sd_when (td_test (xd_op od_eqS (xd_op od_ixT (x_var rfl rfl) (x_int rfl) ⟨_, _, _, rfl, rfl, rfl, rfl⟩) (x_str rfl) ⟨_, _, rfl, rfl, rfl⟩) rfl) (fun h => absurd h (by decide)) (fun _ => ?_)
    refine sd_when (td_test (xd_op od_eqS (xd_op od_ixT (x_var rfl rfl) (x_int rfl) ⟨_, _, _, rfl, rfl, rfl, rfl⟩) (x_str rfl) ⟨_, _, rfl, rfl, rfl⟩) rfl) (fun h => absurd h (by decide)) (fun _ => ?_)
    refine sd_when (td_test (xd_op od_eqS (xd_op od_ixT (x_var rfl rfl) (x_int rfl) ⟨_, _, _, rfl, rfl, rfl, rfl⟩) (x_str rfl) ⟨_, _, rfl, rfl, rfl⟩) rfl) (fun _ => ?_) (fun h => absurd h (by decide))
    exact sd_ret (xd_tup (ad_cons (xd_call (ad_cons (xd_op od_ixT (x_var rfl rfl) (x_int rfl) ⟨_, _, _, rfl, rfl, rfl, rfl⟩) (ad_cons (x_var rfl rfl) ad_nil)) (sp_multiply (hs.1.mono (by decide)) (h0.mono (by decide)) rfl)) (ad_cons (xd_call (ad_cons (x_var rfl rfl) (ad_cons (xd_op od_ixT (x_var rfl rfl) (x_int rfl) ⟨_, _, _, rfl, rfl, rfl, rfl⟩) ad_nil)) (sp_divide (h1.mono (by decide)) (hs.1.mono (by decide)) hs.2 rfl)) ad_nil)) (Nat.le_of_ble_eq_true rfl) rfl) hR
  | stop lo hi =>
    rw [show (El.stop lo hi).map = Mp.one from rfl, one_app] at hR
    refine sd_when (td_test (xd_op od_eqS (xd_op od_ixT (x_var rfl rfl) (x_int rfl) ⟨_, _, _, rfl, rfl, rfl, rfl⟩) (x_str rfl) ⟨_, _, rfl, rfl, rfl⟩) rfl) (fun h => absurd h (by decide)) (fun _ => ?_)
    refine sd_when (td_test (xd_op od_eqS (xd_op od_ixT (x_var rfl rfl) (x_int rfl) ⟨_, _, _, rfl, rfl, rfl, rfl⟩) (x_str rfl) ⟨_, _, rfl, rfl, rfl⟩) rfl) (fun h => absurd h (by decide)) (fun _ => ?_)
    refine sd_when (td_test (xd_op od_eqS (xd_op od_ixT (x_var rfl rfl) (x_int rfl) ⟨_, _, _, rfl, rfl, rfl, rfl⟩) (x_str rfl) ⟨_, _, rfl, rfl, rfl⟩) rfl) (fun h => absurd h (by decide)) (fun _ => ?_)
    refine sd_when (td_test (xd_op od_eqS (xd_op od_ixT (x_var rfl rfl) (x_int rfl) ⟨_, _, _, rfl, rfl, rfl, rfl⟩) (x_str rfl) ⟨_, _, rfl, rfl, rfl⟩) rfl) (fun h => absurd h (by decide)) (fun _ => ?_)
    exact sd_ret (x_var (d := dR r) rfl rfl) hR
def blk : El → Rat × Rat → Bool
  | .stop lo hi, r => !stopB lo hi r.1
  | _, _ => false
def F__law_blocks (ds : List D) (R : D → Prop) : Prop := ∃ (e : El) (r : Rat × Rat), ds = [dE e, dR r] ∧ e.Sz 1000 ∧ RSz 1000 r ∧ R (.bool (blk e r))
theorem len__law_blocks : ∀ ds R, F__law_blocks ds R → ds.length = 2 := fun _ _ ⟨_, _, h, _⟩ => by rw [h]; rfl
abbrev N__law_blocks : List Str := ["_law_element", "_law_ray_here"]
theorem sc__law_blocks : FnScope N__law_blocks ["_law_element", "_law_ray_here"] (defScope (topS 97)) := ⟨rfl, rfl, rfl, by decide +kernel, rfl, by decide +kernel, by decide +kernel⟩
theorem ok__law_blocks (T : Tc P w K mg base cs) : Good P w K mg base cs "_law_blocks" ["_law_element", "_law_ray_here"] 2 F__law_blocks := by
  obtain ⟨f, c, fd, D0, m0, t0⟩ := T.fn 79 _ rfl
  obtain ⟨f__law_less, d__law_less, m__law_less, k__law_less, b__law_less, G__law_less⟩ := ok__law_less T
  refine ⟨f, fd, m0, D0.kp, D0.funD.bindsN (fun _ _ _ _ _ _ us hl => match us, hl with | [_, _], _ => rfl), D0.ok sc__law_blocks (fun vs H Q E h => pm_len len__law_blocks h) (fun A outer s H vs Q E hr h => ⟨_, (pss_cons (ps_if (pt_cmpR op_ne (pe_ix (r := rIxT K) L2.ix_tup (pv 0) pe_int (fun _ _ => rfl)) pe_str (nomark _)) (pss_one (ps_ret pe_bl)) pss_nil)
      (pss_cons (ps_if (PW.pt (pw_and (pt_cmp (pc_notN (pe_ix (r := rIxT K) L2.ix_tup (pv 0) pe_int (fun _ _ => rfl)))) (pw_and1 (pt_val (pe_call G__law_less (hr.mono (by decide)) rfl m__law_less k__law_less b__law_less .nil pass0 (pa_cons (pe_ix (r := rIxT K) L2.ix_tup (pv 1) pe_int (fun _ _ => rfl)) (pa_cons (pe_ix (r := rIxT K) L2.ix_tup (pv 0) pe_int (fun _ _ => rfl)) pa_nil))))))) (pss_one (ps_ret pe_bl)) pss_nil)
      (pss_one (ps_ret (pe_and (pe_cmp (pc_notN (pe_ix (r := rIxT K) L2.ix_tup (pv 0) pe_int (fun _ _ => rfl)))) (pe_one (pe_call G__law_less (hr.mono (by decide)) rfl m__law_less k__law_less b__law_less .nil pass0 (pa_cons (pe_ix (r := rIxT K) L2.ix_tup (pv 0) pe_int (fun _ _ => rfl)) (pa_cons (pe_ix (r := rIxT K) L2.ix_tup (pv 1) pe_int (fun _ _ => rfl)) pa_nil))))))))), pm_body rfl ?_ h⟩)⟩
  intro ds R hF
  obtain ⟨e, r, rfl, hs, ⟨h0, h1⟩, hR⟩ := hF
  cases e with
  | gap l => exact sd_when (td_test (xd_op od_neS (xd_op od_ixT (x_var rfl rfl) (x_int rfl) ⟨_, _, _, rfl, rfl, rfl, rfl⟩) (x_str rfl) ⟨_, _, rfl, rfl, rfl⟩) rfl) (fun _ => sd_ret (x_bl rfl) hR) (fun h => absurd h (by decide))
  | lens p o => exact sd_when (td_test (xd_op od_neS (xd_op od_ixT (x_var rfl rfl) (x_int rfl) ⟨_, _, _, rfl, rfl, rfl, rfl⟩) (x_str rfl) ⟨_, _, rfl, rfl, rfl⟩) rfl) (fun _ => sd_ret (x_bl rfl) hR) (fun h => absurd h (by decide))
  | prism f => exact sd_when (td_test (xd_op od_neS (xd_op od_ixT (x_var rfl rfl) (x_int rfl) ⟨_, _, _, rfl, rfl, rfl, rfl⟩) (x_str rfl) ⟨_, _, rfl, rfl, rfl⟩) rfl) (fun _ => sd_ret (x_bl rfl) hR) (fun h => absurd h (by decide))
  | afocal m => exact sd_when (td_test (xd_op od_neS (xd_op od_ixT (x_var rfl rfl) (x_int rfl) ⟨_, _, _, rfl, rfl, rfl, rfl⟩) (x_str rfl) ⟨_, _, rfl, rfl, rfl⟩) rfl) (fun _ => sd_ret (x_bl rfl) hR) (fun h => absurd h (by decide))
  | stop lo hi =>
    refine sd_when (td_test (xd_op od_neS (xd_op od_ixT (x_var rfl rfl) (x_int rfl) ⟨_, _, _, rfl, rfl, rfl, rfl⟩) (x_str rfl) ⟨_, _, rfl, rfl, rfl⟩) rfl) (fun h => absurd h (by decide)) (fun _ => ?_)
    have hR : R (.bool (!stopB lo hi r.1)) := hR
    unfold stopB at hR
    have fin : loB lo r.1 = true → Sx K cs (tRet (tAndV (tNotN (tOp (rIxT K) (tVar 0) (tC (.int 2)))) (tCall (Pm K cs F_is_less) [] E0 (tCons (tOp (rIxT K) (tVar 0) (tC (.int 2))) (tCons (tOp (rIxT K) (tVar 1) (tC (.int 0))) tNil))))) [.val (dE (.stop lo hi)), .val (dR r)] (fun _ => R .none) R := by
      intro h1
      rw [h1, Bool.true_and] at hR
      cases hi with
      | none => exact sd_ret (xd_andV (b := false) (xd_notN (xd_op od_ixT (x_var rfl rfl) (x_int rfl) ⟨_, _, _, rfl, rfl, rfl, rfl⟩)) fun h => by cases h) hR
      | some h =>
        refine sd_ret (xd_andV (xd_notN (xd_op od_ixT (x_var rfl rfl) (x_int rfl) ⟨_, _, _, rfl, rfl, rfl, rfl⟩)) (fun _ => (xd_call (ad_cons (xd_op od_ixT (x_var rfl rfl) (x_int rfl) ⟨_, _, _, rfl, rfl, rfl, rfl⟩) (ad_cons (xd_op od_ixT (x_var rfl rfl) (x_int rfl) ⟨_, _, _, rfl, rfl, rfl, rfl⟩) ad_nil)) (sp_is_less ((hs.2 h rfl).mono (by decide)) (h0.mono (by decide)) rfl)))) ?_
        have hR : R (.bool (!decide (r.1 ≤ h))) := hR
        have e : (true && decide (h < r.1)) = !decide (r.1 ≤ h) := by
          rw [Bool.true_and, ← decide_not]
          exact decide_eq_decide.mpr Rat.not_le.symm
        show R (.bool (true && decide (h < r.1)))
        rw [e]
        exact hR
    cases lo with
    | none => exact sd_when (td_and (b := false) (td_B (xd_notN (xd_op od_ixT (x_var rfl rfl) (x_int rfl) ⟨_, _, _, rfl, rfl, rfl, rfl⟩)) rfl) fun h => by cases h) (fun h => by cases h) (fun _ => fin rfl)
    | some l =>
      refine sd_when (td_and (td_B (xd_notN (xd_op od_ixT (x_var rfl rfl) (x_int rfl) ⟨_, _, _, rfl, rfl, rfl, rfl⟩)) rfl) (fun _ => (td_B (xd_call (ad_cons (xd_op od_ixT (x_var rfl rfl) (x_int rfl) ⟨_, _, _, rfl, rfl, rfl, rfl⟩) (ad_cons (xd_op od_ixT (x_var rfl rfl) (x_int rfl) ⟨_, _, _, rfl, rfl, rfl, rfl⟩) ad_nil)) (sp_is_less (h0.mono (by decide)) ((hs.1 l rfl).mono (by decide)) rfl)) rfl))) (fun hc => ?_) (fun hc => fin ?_)
      · have hc2 : (true && decide (r.1 < l)) = true := hc
        rw [Bool.true_and, decide_eq_true_eq] at hc2
        have hl : loB (some l) r.1 = false := decide_eq_false (Rat.not_le.mpr hc2)
        rw [hl] at hR
        exact sd_ret (x_bl rfl) hR
      · have hc2 : (true && decide (r.1 < l)) = false := hc
        rw [Bool.true_and, decide_eq_false_iff_not] at hc2
        exact decide_eq_true (Rat.not_lt.mp hc2)
def F__law_out (ds : List D) (R : D → Prop) : Prop := ∃ (t : List El) (r : Rat × Rat), ds = [dT t, dR r] ∧ RayOk t r ∧ R (dR ((tmap t).app r))
theorem len__law_out : ∀ ds R, F__law_out ds R → ds.length = 2 := fun _ _ ⟨_, _, h, _⟩ => by rw [h]; rfl
theorem sp__law_out {t : List El} {r : Rat × Rat} {R : D → Prop} (h : RayOk t r) (k : R (dR ((tmap t).app r))) : F__law_out [dT t, dR r] R := ⟨t, r, rfl, h, k⟩
abbrev N__law_out : List Str := ["_law_train", "_law_ray_here", "_law_element"]
theorem sc__law_out : FnScope N__law_out ["_law_train", "_law_ray_here"] (defScope (topS 98)) := ⟨rfl, rfl, rfl, by decide +kernel, rfl, by decide +kernel, by decide +kernel⟩
theorem ok__law_out (T : Tc P w K mg base cs) : Good P w K mg base cs "_law_out" ["_law_train", "_law_ray_here"] 5 F__law_out := by
  obtain ⟨f, c, fd, D0, m0, t0⟩ := T.fn 80 _ rfl
  obtain ⟨f__law_go, d__law_go, m__law_go, k__law_go, b__law_go, G__law_go⟩ := ok__law_go T
  refine ⟨f, fd, m0, D0.kp, D0.funD.bindsN (fun _ _ _ _ _ _ us hl => match us, hl with | [_, _], _ => rfl), D0.ok sc__law_out (fun vs H Q E h => pm_len len__law_out h) (fun A outer s H vs Q E hr h => ⟨_, (pss_cons (ps_for PassesOwn.never rfl (pi_list (pv 0)) (pg_name (i := 2) sc__law_out.nd rfl (.inl rfl)) (pss_one (ps_set (i := 1) sc__law_out.nd rfl (.inl rfl) (pe_call G__law_go (hr.mono (by decide)) rfl m__law_go k__law_go b__law_go .nil pass0 (pa_cons (pv 2) (pa_cons (pv 1) pa_nil))))))
      (pss_one (ps_ret (pv 1)))), pm_body rfl ?_ h⟩)⟩
  intro ds R hF
  obtain ⟨t, r, rfl, ⟨hs, ht, hm⟩, hR⟩ := hF
  have z0 : (tmap (t.take 0)).app r = r := by rw [List.take_zero]; exact one_app r
  refine s_seq (sd_for (ixd_list (ds := t.map dE) (x_var rfl rfl)) tg_name (fun i Γ => ∃ z, Γ = [.val (dT t), .val (dR ((tmap (t.take i)).app r)), z]) ⟨.no, by rw [z0]; rfl⟩ ?_ ?_)
  · rintro i d Γ' hd ⟨z, rfl⟩
    obtain ⟨e, ee, rfl⟩ := gmapE hd
    refine ⟨_, rfl, sd_asg (d := dR ((tmap (t.take (i + 1))).app r)) (xd_call (ad_cons (x_var (d := dE e) rfl rfl) (ad_cons (x_var (d := dR ((tmap (t.take i)).app r)) rfl rfl) ad_nil)) ⟨e, _, rfl, (hs e (List.mem_of_getElem? ee)).mono (by decide), hm i, by rw [take_snoc ee, tmap_snoc, then_app]⟩) ⟨_, rfl⟩⟩
  · rintro Γ' ⟨z, rfl⟩
    rw [List.length_map, List.take_length]
    exact sd_ret (x_var rfl rfl) hR
theorem len__law_exit : ∀ ds R, F_exit_ray ds R → ds.length = 2 := len_exit_ray
theorem gone_blk {e : El} {r : Rat × Rat} : gone e r = if blk e r then none else some (e.map.app r) := by
  cases e with
  | stop lo hi =>
    show (if stopB lo hi r.1 then some r else none) = if (!stopB lo hi r.1) then none else some ((El.stop lo hi).map.app r)
    rw [show (El.stop lo hi).map = Mp.one from rfl, one_app]
    cases stopB lo hi r.1 <;> rfl
  | gap l => rfl
  | lens p o => rfl
  | prism f => rfl
  | afocal m => rfl
abbrev N__law_exit : List Str := ["_law_train", "_law_ray_here", "_law_element"]
theorem sc__law_exit : FnScope N__law_exit ["_law_train", "_law_ray_here"] (defScope (topS 99)) := ⟨rfl, rfl, rfl, by decide +kernel, rfl, by decide +kernel, by decide +kernel⟩
theorem ok__law_exit (T : Tc P w K mg base cs) : Good P w K mg base cs "_law_exit" ["_law_train", "_law_ray_here"] 5 F_exit_ray := by
  obtain ⟨f, c, fd, D0, m0, t0⟩ := T.fn 81 _ rfl
  obtain ⟨f__law_go, d__law_go, m__law_go, k__law_go, b__law_go, G__law_go⟩ := ok__law_go T
  obtain ⟨f__law_blocks, d__law_blocks, m__law_blocks, k__law_blocks, b__law_blocks, G__law_blocks⟩ := ok__law_blocks T
  refine ⟨f, fd, m0, D0.kp, D0.funD.bindsN (fun _ _ _ _ _ _ us hl => match us, hl with | [_, _], _ => rfl), D0.ok sc__law_exit (fun vs H Q E h => pm_len len_exit_ray h) (fun A outer s H vs Q E hr h => ⟨_, (pss_cons (ps_for PassesOwn.never rfl (pi_list (pv 0)) (pg_name (i := 2) sc__law_exit.nd rfl (.inl rfl)) (pss_cons (ps_if (pt_val (pe_call G__law_blocks (hr.mono (by decide)) rfl m__law_blocks k__law_blocks b__law_blocks .nil pass0 (pa_cons (pv 2) (pa_cons (pv 1) pa_nil)))) (pss_one (ps_ret pe_non)) pss_nil)
      (pss_one (ps_set (i := 1) sc__law_exit.nd rfl (.inl rfl) (pe_call G__law_go (hr.mono (by decide)) rfl m__law_go k__law_go b__law_go .nil pass0 (pa_cons (pv 2) (pa_cons (pv 1) pa_nil)))))))
      (pss_one (ps_ret (pv 1)))), pm_body rfl ?_ h⟩)⟩
  intro ds R hF
  obtain ⟨t, r, rfl, ⟨hs, ht, hm⟩, hR⟩ := hF
  have z0 : (tmap (t.take 0)).app r = r := by rw [List.take_zero]; exact one_app r
  refine s_seq (sd_for (ixd_list (ds := t.map dE) (x_var rfl rfl)) tg_name (fun i Γ => ∃ z, Γ = [.val (dT t), .val (dR ((tmap (t.take i)).app r)), z] ∧ exitR t r = exitR (t.drop i) ((tmap (t.take i)).app r)) ⟨.no, by rw [z0]; rfl, by rw [z0, List.drop_zero]⟩ ?_ ?_)
  · rintro i d Γ' hd ⟨z, rfl, he⟩
    obtain ⟨e, ee, rfl⟩ := gmapE hd
    have me := List.mem_of_getElem? ee
    have hi2 : i < t.length := (List.getElem?_eq_some_iff.mp ee).1
    have hdrop : t.drop i = e :: t.drop (i + 1) := by
      rw [List.drop_eq_getElem_cons hi2]
      congr 1
      exact (List.getElem?_eq_some_iff.mp ee).2
    rw [hdrop] at he
    have he : exitR t r = match gone e ((tmap (t.take i)).app r) with | some r' => exitR (t.drop (i + 1)) r' | none => none := he
    rw [gone_blk] at he
    refine ⟨_, rfl, ?_⟩
    try simp only [entG, setG, List.map_cons, List.map_nil, List.cons_append, List.nil_append, List.length_cons, List.length_nil, Nat.reduceAdd, Nat.reduceSub, List.replicate_succ, List.replicate_zero, List.set_cons_zero, List.set_cons_succ]
    refine sd_when (td_B (xd_call (ad_cons (x_var (d := dE e) rfl rfl) (ad_cons (x_var (d := dR ((tmap (t.take i)).app r)) rfl rfl) ad_nil)) ⟨e, _, rfl, (hs e me).mono (by decide), hm i, rfl⟩) rfl) (fun hc => ?_) (fun hc => ?_)
    · rw [hc] at he
      have hx : exitR t r = none := he
      rw [hx] at hR
      exact sd_ret (x_non rfl) hR
    · rw [hc] at he
      have hx : exitR t r = exitR (t.drop (i + 1)) (e.map.app ((tmap (t.take i)).app r)) := he
      refine sd_asg (d := dR ((tmap (t.take (i + 1))).app r)) (xd_call (ad_cons (x_var (d := dE e) rfl rfl) (ad_cons (x_var (d := dR ((tmap (t.take i)).app r)) rfl rfl) ad_nil)) ⟨e, _, rfl, (hs e me).mono (by decide), hm i, by rw [take_snoc ee, tmap_snoc, then_app]⟩) ⟨_, rfl, ?_⟩
      rw [take_snoc ee, tmap_snoc, then_app]
      exact hx
  · rintro Γ' ⟨z, rfl, he⟩
    rw [List.length_map, List.drop_length] at he
    rw [List.length_map]
    have hx : exitR t r = some ((tmap (t.take t.length)).app r) := he
    rw [hx] at hR
    exact sd_ret (x_var rfl rfl) hR
def F__law_map (ds : List D) (R : D → Prop) : Prop := ∃ t : List El, ds = [dT t] ∧ (∀ x y : Rat, (x = 0 ∨ x = 1) → (y = 0 ∨ y = 1) → RayOk t (x, y)) ∧ R (dM (tmap t))
theorem len__law_map : ∀ ds R, F__law_map ds R → ds.length = 1 := fun _ _ ⟨_, h, _⟩ => by rw [h]; rfl
abbrev N__law_map : List Str := ["_law_train", "_law_zero", "_law_one", "_law_two", "_law_top", "_law_bottom"]
theorem sc__law_map : FnScope N__law_map ["_law_train"] (defScope (topS 100)) := ⟨rfl, rfl, rfl, by decide +kernel, rfl, by decide +kernel, by decide +kernel⟩
theorem ok__law_map (T : Tc P w K mg base cs) : Good P w K mg base cs "_law_map" ["_law_train"] 6 F__law_map := by
  obtain ⟨f, c, fd, D0, m0, t0⟩ := T.fn 82 _ rfl
  obtain ⟨f__law_sub, d__law_sub, m__law_sub, k__law_sub, b__law_sub, G__law_sub⟩ := ok__law_sub T
  obtain ⟨f__law_out, d__law_out, m__law_out, k__law_out, b__law_out, G__law_out⟩ := ok__law_out T
  refine ⟨f, fd, m0, D0.kp, D0.funD.bindsN (fun _ _ _ _ _ _ us hl => match us, hl with | [_], _ => rfl), D0.ok sc__law_map (fun vs H Q E h => pm_len len__law_map h) (fun A outer s H vs Q E hr h => ⟨_, (pss_cons (ps_set (i := 1) sc__law_map.nd rfl (.inl rfl) (pe_call G__law_out (hr.mono (by decide)) rfl m__law_out k__law_out b__law_out .nil pass0 (pa_cons (pv 0) (pa_cons (pe_tup (pa_cons (pe_tup (pa_cons pe_int (pa_cons pe_int pa_nil))) (pa_cons (pe_tup (pa_cons pe_int (pa_cons pe_int pa_nil))) pa_nil))) pa_nil))))
      (pss_cons (ps_set (i := 2) sc__law_map.nd rfl (.inl rfl) (pe_call G__law_out (hr.mono (by decide)) rfl m__law_out k__law_out b__law_out .nil pass0 (pa_cons (pv 0) (pa_cons (pe_tup (pa_cons (pe_tup (pa_cons pe_int (pa_cons pe_int pa_nil))) (pa_cons (pe_tup (pa_cons pe_int (pa_cons pe_int pa_nil))) pa_nil))) pa_nil))))
      (pss_cons (ps_set (i := 3) sc__law_map.nd rfl (.inl rfl) (pe_call G__law_out (hr.mono (by decide)) rfl m__law_out k__law_out b__law_out .nil pass0 (pa_cons (pv 0) (pa_cons (pe_tup (pa_cons (pe_tup (pa_cons pe_int (pa_cons pe_int pa_nil))) (pa_cons (pe_tup (pa_cons pe_int (pa_cons pe_int pa_nil))) pa_nil))) pa_nil))))
      (pss_cons (ps_set (i := 4) sc__law_map.nd rfl (.inl rfl) (pe_tup (pa_cons (pe_call G__law_sub (hr.mono (by decide)) rfl m__law_sub k__law_sub b__law_sub .nil pass0 (pa_cons (pe_ix (r := rIxT K) L2.ix_tup (pv 2) pe_int (fun _ _ => rfl)) (pa_cons (pe_ix (r := rIxT K) L2.ix_tup (pv 1) pe_int (fun _ _ => rfl)) pa_nil))) (pa_cons (pe_call G__law_sub (hr.mono (by decide)) rfl m__law_sub k__law_sub b__law_sub .nil pass0 (pa_cons (pe_ix (r := rIxT K) L2.ix_tup (pv 3) pe_int (fun _ _ => rfl)) (pa_cons (pe_ix (r := rIxT K) L2.ix_tup (pv 1) pe_int (fun _ _ => rfl)) pa_nil))) pa_nil))))
      (pss_cons (ps_set (i := 5) sc__law_map.nd rfl (.inl rfl) (pe_tup (pa_cons (pe_call G__law_sub (hr.mono (by decide)) rfl m__law_sub k__law_sub b__law_sub .nil pass0 (pa_cons (pe_ix (r := rIxT K) L2.ix_tup (pv 2) pe_int (fun _ _ => rfl)) (pa_cons (pe_ix (r := rIxT K) L2.ix_tup (pv 1) pe_int (fun _ _ => rfl)) pa_nil))) (pa_cons (pe_call G__law_sub (hr.mono (by decide)) rfl m__law_sub k__law_sub b__law_sub .nil pass0 (pa_cons (pe_ix (r := rIxT K) L2.ix_tup (pv 3) pe_int (fun _ _ => rfl)) (pa_cons (pe_ix (r := rIxT K) L2.ix_tup (pv 1) pe_int (fun _ _ => rfl)) pa_nil))) pa_nil))))
      (pss_one (ps_ret (pe_op op_catT (pe_op op_catT (pv 4) (pv 5)) (pv 1))))))))), pm_body rfl ?_ h⟩)⟩
  intro ds R hF
  obtain ⟨t, rfl, hk, hR⟩ := hF
  have k00 := hk 0 0 (.inl rfl) (.inl rfl)
  have k10 := hk 1 0 (.inr rfl) (.inl rfl)
  have k01 := hk 0 1 (.inl rfl) (.inr rfl)
  have full : ∀ {x : Rat × Rat}, RayOk t x → RSz 1000 ((tmap t).app x) := fun h => by
    have := h.2.2 t.length
    rw [List.take_length] at this
    exact this
  refine sd_set (xd_call (ad_cons (x_var (d := dT t) rfl rfl) (ad_cons (Xd.to (xd_tup (ad_cons (xd_tup (ad_cons (x_int rfl) (ad_cons (x_int rfl) ad_nil)) (Nat.le_of_ble_eq_true rfl) rfl) (ad_cons (xd_tup (ad_cons (x_int rfl) (ad_cons (x_int rfl) ad_nil)) (Nat.le_of_ble_eq_true rfl) rfl) ad_nil)) (Nat.le_of_ble_eq_true rfl) rfl) (show _ = dR (0, 0) from rfl)) ad_nil)) (sp__law_out k00 rfl)) ?_
  try simp only [entG, setG, List.map_cons, List.map_nil, List.cons_append, List.nil_append, List.length_cons, List.length_nil, Nat.reduceAdd, Nat.reduceSub, List.replicate_succ, List.replicate_zero, List.set_cons_zero, List.set_cons_succ]
  refine sd_set (xd_call (ad_cons (x_var (d := dT t) rfl rfl) (ad_cons (Xd.to (xd_tup (ad_cons (xd_tup (ad_cons (x_int rfl) (ad_cons (x_int rfl) ad_nil)) (Nat.le_of_ble_eq_true rfl) rfl) (ad_cons (xd_tup (ad_cons (x_int rfl) (ad_cons (x_int rfl) ad_nil)) (Nat.le_of_ble_eq_true rfl) rfl) ad_nil)) (Nat.le_of_ble_eq_true rfl) rfl) (show _ = dR (1, 0) from rfl)) ad_nil)) (sp__law_out k10 rfl)) ?_
  try simp only [entG, setG, List.map_cons, List.map_nil, List.cons_append, List.nil_append, List.length_cons, List.length_nil, Nat.reduceAdd, Nat.reduceSub, List.replicate_succ, List.replicate_zero, List.set_cons_zero, List.set_cons_succ]
  refine sd_set (xd_call (ad_cons (x_var (d := dT t) rfl rfl) (ad_cons (Xd.to (xd_tup (ad_cons (xd_tup (ad_cons (x_int rfl) (ad_cons (x_int rfl) ad_nil)) (Nat.le_of_ble_eq_true rfl) rfl) (ad_cons (xd_tup (ad_cons (x_int rfl) (ad_cons (x_int rfl) ad_nil)) (Nat.le_of_ble_eq_true rfl) rfl) ad_nil)) (Nat.le_of_ble_eq_true rfl) rfl) (show _ = dR (0, 1) from rfl)) ad_nil)) (sp__law_out k01 rfl)) ?_
  try simp only [entG, setG, List.map_cons, List.map_nil, List.cons_append, List.nil_append, List.length_cons, List.length_nil, Nat.reduceAdd, Nat.reduceSub, List.replicate_succ, List.replicate_zero, List.set_cons_zero, List.set_cons_succ]
  have e1 : ((tmap t).app (1, 0)).1 - ((tmap t).app (0, 0)).1 = (tmap t).a := by unfold Mp.app; grind
  have e2 : ((tmap t).app (0, 1)).1 - ((tmap t).app (0, 0)).1 = (tmap t).b := by unfold Mp.app; grind
  have e3 : ((tmap t).app (1, 0)).2 - ((tmap t).app (0, 0)).2 = (tmap t).c := by unfold Mp.app; grind
  have e4 : ((tmap t).app (0, 1)).2 - ((tmap t).app (0, 0)).2 = (tmap t).d := by unfold Mp.app; grind
  have e5 : (tmap t).app (0, 0) = ((tmap t).e, (tmap t).f) := by unfold Mp.app; exact Prod.ext (by dsimp only; grind) (by dsimp only; grind)
  refine sd_set (xd_tup (ad_cons (xd_call (ad_cons (xd_op od_ixT (x_var rfl rfl) (x_int rfl) ⟨_, _, _, rfl, rfl, rfl, rfl⟩) (ad_cons (xd_op od_ixT (x_var rfl rfl) (x_int rfl) ⟨_, _, _, rfl, rfl, rfl, rfl⟩) ad_nil)) (sp_subtract ((full k10).1.mono (by decide)) ((full k00).1.mono (by decide)) rfl)) (ad_cons (xd_call (ad_cons (xd_op od_ixT (x_var rfl rfl) (x_int rfl) ⟨_, _, _, rfl, rfl, rfl, rfl⟩) (ad_cons (xd_op od_ixT (x_var rfl rfl) (x_int rfl) ⟨_, _, _, rfl, rfl, rfl, rfl⟩) ad_nil)) (sp_subtract ((full k01).1.mono (by decide)) ((full k00).1.mono (by decide)) rfl)) ad_nil)) (Nat.le_of_ble_eq_true rfl) rfl) ?_
  try simp only [entG, setG, List.map_cons, List.map_nil, List.cons_append, List.nil_append, List.length_cons, List.length_nil, Nat.reduceAdd, Nat.reduceSub, List.replicate_succ, List.replicate_zero, List.set_cons_zero, List.set_cons_succ]
  refine sd_set (xd_tup (ad_cons (xd_call (ad_cons (xd_op od_ixT (x_var rfl rfl) (x_int rfl) ⟨_, _, _, rfl, rfl, rfl, rfl⟩) (ad_cons (xd_op od_ixT (x_var rfl rfl) (x_int rfl) ⟨_, _, _, rfl, rfl, rfl, rfl⟩) ad_nil)) (sp_subtract ((full k10).2.mono (by decide)) ((full k00).2.mono (by decide)) rfl)) (ad_cons (xd_call (ad_cons (xd_op od_ixT (x_var rfl rfl) (x_int rfl) ⟨_, _, _, rfl, rfl, rfl, rfl⟩) (ad_cons (xd_op od_ixT (x_var rfl rfl) (x_int rfl) ⟨_, _, _, rfl, rfl, rfl, rfl⟩) ad_nil)) (sp_subtract ((full k01).2.mono (by decide)) ((full k00).2.mono (by decide)) rfl)) ad_nil)) (Nat.le_of_ble_eq_true rfl) rfl) ?_
  try simp only [entG, setG, List.map_cons, List.map_nil, List.cons_append, List.nil_append, List.length_cons, List.length_nil, Nat.reduceAdd, Nat.reduceSub, List.replicate_succ, List.replicate_zero, List.set_cons_zero, List.set_cons_succ]
  rw [e1, e2, e3, e4, e5]
  exact sd_ret (xd_op od_catT (xd_op od_catT (x_var rfl rfl) (x_var rfl rfl) ⟨_, _, rfl, rfl, (by simp), (by simp), (by simp), rfl⟩) (x_var rfl rfl) ⟨_, _, rfl, rfl, (by simp), (by simp), (by simp), rfl⟩) hR
end Rt
set_option Elab.async false
set_option linter.all false
set_option maxRecDepth 100000
set_option maxHeartbeats 4000000
set_option exponentiation.threshold 100000
/-! The walk, part 13: digits, the drawn train. -/
namespace Rt
open PySem PySem.Spec PyProof.Rows L2 GxR Gx RZ
variable {P : Program} {w : World} {K : PySem.W.Frag} {mg : Str → Option Value} {base : Heap} {cs : List Addr}
def GoodS (P : Program) (w : World) (K : PySem.W.Frag) (mg : Str → Option Value) (base : Heap) (x : Str) (ps : List Str) (k : Nat) (sp : Sp) : Prop :=
  ∃ f fd, mg x = some (.ref f) ∧ PySem.W.keepIn K (.ref f) = true ∧ Binds K fd ps [] ∧ FnOk P w K mg base CX0 k f fd ps sp
/-! ### cells -/
def F__law_cell (K : PySem.W.Frag) : Sp := spCell K
theorem len__law_cell {vs : List V} {H : Hp} {Q : VK} {E : XK} (h : F__law_cell K vs H Q E) : vs.length = 2 := by
  obtain ⟨l, ns, j, rfl, _⟩ := h
  rfl
abbrev N__law_cell : List Str := ["_law_script", "_law_k"]
theorem sc__law_cell : FnScope N__law_cell ["_law_script", "_law_k"] (defScope (topS 81)) := ⟨rfl, rfl, rfl, by decide +kernel, rfl, by decide +kernel, by decide +kernel⟩
theorem ok__law_cell (T : Tc P w K mg base cs) : GoodS P w K mg base "_law_cell" ["_law_script", "_law_k"] 1 (F__law_cell K) := by
  obtain ⟨f, c, fd, D0, m0, t0⟩ := T.fn 63 _ rfl
  have z_len := T.fr "len" (by decide)
  refine ⟨f, fd, m0, D0.kp, D0.funD.bindsN (fun _ _ _ _ _ _ us hl => match us, hl with | [_, _], _ => rfl), D0.ok sc__law_cell (fun vs H Q E h => len__law_cell h) (fun A outer s H vs Q E hr h => ⟨_, (pss_cons (ps_if (pt_cmpR op_lt (pv 1) (pe_callB call_len_seq rfl z_len PySem.boot_len (pa_cons (pv 0) pa_nil)) (nomark _)) (pss_one (ps_ret (pe_ix (r := rIxL K) L2.ix_list (pv 0) (pv 1) (fun _ _ => rfl)))) pss_nil)
      (pss_one (ps_ret pe_int))), ?_⟩)⟩
  obtain ⟨l, ns, j, rfl, hs, q⟩ := h
  refine ⟨_, rfl, _, rfl, l, _, rfl, .inl hs, _, _, rfl, rfl, _, rfl, ?_⟩
  have hl : (ns.map V.int).length = ns.length := List.length_map _
  refine ite2 (fun c => ?_) (fun c => ?_)
  · have c' : ((j : Nat) : Int) < (((ns.map V.int).length : Nat) : Int) := of_decide_eq_true c
    rw [hl] at c'
    exact ⟨_, rfl, _, rfl, l, _, _, _, rfl, rfl, hs, atI_cell (by omega), q⟩
  · have c' : ¬ ((j : Nat) : Int) < (((ns.map V.int).length : Nat) : Int) := of_decide_eq_false (Bool.eq_false_iff.mpr c)
    rw [hl] at c'
    rw [cell_out (by omega)] at q
    exact q
/-! ### a row of digits -/
def F__law_row (ds : List D) (R : D → Prop) : Prop := ∃ c k : Int, ds = [.int c, .int k, .int 12] ∧ k.natAbs < 2 ^ 62 ∧ ∀ row : List Int, row.length ≤ 60 → R (.list (row.map PyData.int))
theorem len__law_row : ∀ ds R, F__law_row ds R → ds.length = 3 := fun _ _ ⟨_, _, h, _⟩ => by rw [h]; rfl
theorem p18 : ((10 : Int) ^ (18 : Int).toNat) = 1000000000000000000 := by decide
abbrev N__law_row : List Str := ["_law_cell_here", "_law_k", "_law_many", "_law_row_here", "_law_turn", "_law_seed"]
theorem sc__law_row : FnScope N__law_row ["_law_cell_here", "_law_k", "_law_many"] (defScope (topS 82)) := ⟨rfl, rfl, rfl, by decide +kernel, rfl, by decide +kernel, by decide +kernel⟩
theorem ok__law_row (T : Tc P w K mg base cs) : Good P w K mg base cs "_law_row" ["_law_cell_here", "_law_k", "_law_many"] 1 F__law_row := by
  obtain ⟨f, c, fd, D0, m0, t0⟩ := T.fn 64 _ rfl
  have z_range := T.fr "range" (by decide)
  have z_int := T.fr "int" (by decide)
  have z_len := T.fr "len" (by decide)
  refine ⟨f, fd, m0, D0.kp, D0.funD.bindsN (fun _ _ _ _ _ _ us hl => match us, hl with | [_, _, _], _ => rfl), D0.ok sc__law_row (fun vs H Q E h => pm_len len__law_row h) (fun A outer s H vs Q E hr h => ⟨_, (pss_cons (ps_set (i := 3) sc__law_row.nd rfl (.inl rfl) (pe_lst pa_nil))
      (pss_cons (ps_if (pt_cmpR op_lt (pv 0) pe_int (nomark _)) (pss_one (ps_set (i := 0) sc__law_row.nd rfl (.inl rfl) (pe_op op_sub pe_int (pe_op op_mul pe_int (pv 0))))) pss_nil)
      (pss_cons (ps_if (pt_cmpR op_ge (pv 0) (pe_op op_pow pe_int pe_int) (nomark _)) (pss_cons (ps_for PassesOwn.never rfl (pi_range1 rfl z_range (pa_cons pe_int pa_nil)) (pg_name (i := 4) sc__law_row.nd rfl (.inl rfl)) (pss_one (ps_if (PW.pt (pw_and (pt_cmpR op_gt (pv 0) pe_int (nomark _)) (pw_and1 (pt_cmpR op_lt (pe_callB call_len_seq rfl z_len PySem.boot_len (pa_cons (pv 3) pa_nil)) (pv 2) (nomark _))))) (pss_cons (ps_expr (pe_bm PySem.F.plainAttrs_list PySem.F.slot_list_append PySem.F.type_list_append mt_append (pv 3) (pa_cons (pe_op op_modN (pe_callTy call_int1 rfl z_int (by rfl) (pa_cons (pv 0) pa_nil)) pe_int) pa_nil)))
      (pss_one (ps_set (i := 0) sc__law_row.nd rfl (.inl rfl) (pe_op op_fdivZ (pv 0) pe_int)))) pss_nil)))
      (pss_one (ps_ret (pv 3)))) pss_nil)
      (pss_cons (ps_set (i := 5) sc__law_row.nd rfl (.inl rfl) (pe_op op_modN (pe_callTy call_int1 rfl z_int (by rfl) (pa_cons (pe_op op_add (pe_op op_add (pe_op op_mulW (pv 0) pe_int) (pe_op op_mulW (pv 1) pe_int)) pe_int) pa_nil)) pe_int))
      (pss_cons (ps_for PassesOwn.never rfl (pi_range1 rfl z_range (pa_cons (pv 2) pa_nil)) (pg_name (i := 4) sc__law_row.nd rfl (.inl rfl)) (pss_cons (ps_set (i := 5) sc__law_row.nd rfl (.inl rfl) (pe_op op_modN (pe_callTy call_int1 rfl z_int (by rfl) (pa_cons (pe_op op_add (pe_op op_add (pe_op op_mulW (pv 5) pe_int) (pe_op op_mul pe_int (pv 4))) pe_int) pa_nil)) pe_int))
      (pss_one (ps_expr (pe_bm PySem.F.plainAttrs_list PySem.F.slot_list_append PySem.F.type_list_append mt_append (pv 3) (pa_cons (pe_op op_modN (pe_callTy call_int1 rfl z_int (by rfl) (pa_cons (pe_op op_fdivZ (pv 5) pe_int) pa_nil)) pe_int) pa_nil))))))
      (pss_one (ps_ret (pv 3)))))))), pm_body rfl ?_ h⟩)⟩
  intro ds R hF
  obtain ⟨c0, k, rfl, hk, hR⟩ := hF
  refine s_seq (s_newL ad_nil (Nat.le_of_ble_eq_true rfl) ?_)
  try simp only [entG, setG, List.map_cons, List.map_nil, List.cons_append, List.nil_append, List.length_cons, List.length_nil, Nat.reduceAdd, Nat.reduceSub, List.replicate_succ, List.replicate_zero, List.set_cons_zero, List.set_cons_succ]
  refine s_seq (Sx.mono (N := fun Γ => ∃ c : Int, 0 ≤ c ∧ Γ = [.val (.int c), .val (.int k), .val (.int 12), .own [], .no, .no]) (sd_if (td_test (xd_op od_B0 (x_var rfl rfl) (x_int rfl) ⟨_, _, rfl, rfl, rfl⟩) rfl) (fun h => ?_) (fun h => s_next ⟨c0, by have := of_decide_eq_false h; omega, rfl⟩)) (fun g hg => ?_) (fun d h => h))
  · have hc := of_decide_eq_true h
    exact sd_asg (d := .int (1 - 2 * c0)) (xd_op od_I0 (x_int rfl) (xd_op od_I (x_int rfl) (x_var rfl rfl) ⟨_, _, rfl, rfl, .inl ⟨by decide, by decide⟩, rfl⟩) ⟨_, _, rfl, rfl, rfl⟩) ⟨_, by omega, rfl⟩
  · obtain ⟨c, hc, rfl⟩ := hg
    refine sd_when (td_test (xd_op od_B0 (x_var rfl rfl) (xd_op od_I (x_int rfl) (x_int rfl) ⟨_, _, rfl, rfl, ⟨by decide, by decide, by decide⟩, rfl⟩) ⟨_, _, rfl, rfl, rfl⟩) rfl) (fun h1 => ?_) (fun h1 => ?_)
    · refine s_seq (sd_for (ixd_rng1 (ad_cons (x_int rfl) ad_nil) (by decide) (by decide)) tg_name (fun i Γ => ∃ (c : Int) (row : List Int) (z : Sl), Γ = [.val (.int c), .val (.int k), .val (.int 12), .own (row.map PyData.int), z, .no] ∧ row.length ≤ i ∧ i ≤ 60) ⟨c, [], .no, rfl, Nat.le_refl _, by decide⟩ ?_ ?_)
      · rintro i d Γ' hd ⟨c, row, z, rfl, hl, hi⟩
        obtain ⟨hi2, rfl⟩ := rngD_get hd
        have hi2 : i < 60 := hi2
        refine ⟨_, rfl, ?_⟩
        try simp only [entG, setG, List.map_cons, List.map_nil, List.cons_append, List.nil_append, List.length_cons, List.length_nil, Nat.reduceAdd, Nat.reduceSub, List.replicate_succ, List.replicate_zero, List.set_cons_zero, List.set_cons_succ]
        refine sd_if (td_and (td_test (xd_op od_B0 (x_var rfl rfl) (x_int rfl) ⟨_, _, rfl, rfl, rfl⟩) rfl) fun _ => td_test (xd_op od_B0 (x_lenOwn (i := 3) rfl rfl) (x_var rfl rfl) ⟨_, _, rfl, rfl, rfl⟩) rfl) (fun _ => ?_) (fun _ => s_next ⟨c, row, _, rfl, by omega, by omega⟩)
        refine s_seq (sd_app (i := 3) rfl (by rw [List.length_map]; omega) (xd_op od_I (xd_cb cb_int (ad_cons (x_var (d := .int c) rfl rfl) ad_nil) ⟨_, rfl, rfl⟩) (x_int rfl) ⟨_, _, rfl, rfl, by decide, rfl⟩) ?_)
        try simp only [entG, setG, List.map_cons, List.map_nil, List.cons_append, List.nil_append, List.length_cons, List.length_nil, Nat.reduceAdd, Nat.reduceSub, List.replicate_succ, List.replicate_zero, List.set_cons_zero, List.set_cons_succ]
        refine sd_asg (xd_op od_I (x_var (d := .int c) rfl rfl) (x_int rfl) ⟨_, _, rfl, rfl, ⟨by decide, by decide⟩, rfl⟩) ⟨_, row ++ [c.fmod 1000], _, by rw [List.map_append]; rfl, by rw [List.length_append, List.length_singleton]; omega, by omega⟩
      · rintro Γ' ⟨c, row, z, rfl, hl, hi⟩
        exact s_show (i := 3) rfl (sd_ret (x_var rfl rfl) (hR row (by rw [rngD_length] at hl; exact hl)))
    · have hlt : c < 1000000000000000000 := by
        have := of_decide_eq_false h1
        rw [p18] at this
        omega
      have sc : c.natAbs < 2 ^ 60 := by
        have : (2 : Nat) ^ 60 = 1152921504606846976 := by decide
        omega
      refine sd_set (d := .int ((c * 48271 + k * 69621 + 11).fmod 2147483647)) (xd_op od_I (xd_cb cb_int (ad_cons (xd_op od_I0 (xd_op od_I0 (xd_op od_I (x_var rfl rfl) (x_int rfl) ⟨_, _, rfl, rfl, wmul sc (show (48271 : Int).natAbs < 2 ^ 20 by decide) (by decide) (by decide) (by decide), rfl⟩) (xd_op od_I (x_var rfl rfl) (x_int rfl) ⟨_, _, rfl, rfl, wmul hk (show (69621 : Int).natAbs < 2 ^ 20 by decide) (by decide) (by decide) (by decide), rfl⟩) ⟨_, _, rfl, rfl, rfl⟩) (x_int rfl) ⟨_, _, rfl, rfl, rfl⟩) ad_nil) ⟨_, rfl, rfl⟩) (x_int rfl) ⟨_, _, rfl, rfl, by decide, rfl⟩) ?_
      try simp only [entG, setG, List.map_cons, List.map_nil, List.cons_append, List.nil_append, List.length_cons, List.length_nil, Nat.reduceAdd, Nat.reduceSub, List.replicate_succ, List.replicate_zero, List.set_cons_zero, List.set_cons_succ]
      refine s_seq (sd_for (ixd_rng1 (ad_cons (x_var (d := .int 12) rfl rfl) ad_nil) (by decide) (by decide)) tg_name (fun i Γ => ∃ (s : Int) (row : List Int) (z : Sl), Γ = [.val (.int c), .val (.int k), .val (.int 12), .own (row.map PyData.int), z, .val (.int s)] ∧ row.length ≤ i ∧ i ≤ 12 ∧ 0 ≤ s ∧ s < 2147483647) ⟨_, [], .no, rfl, Nat.le_refl _, by decide, ?_, ?_⟩ ?_ ?_)
      · rw [Int.fmod_eq_emod_of_nonneg _ (by decide)]
        exact Int.emod_nonneg _ (by decide)
      · rw [Int.fmod_eq_emod_of_nonneg _ (by decide)]
        exact Int.emod_lt_of_pos _ (by decide)
      · rintro i d Γ' hd ⟨s, row, z, rfl, hl, hi, hs0, hs1⟩
        obtain ⟨hi2, rfl⟩ := rngD_get hd
        have hi2 : i < 12 := hi2
        have ss : s.natAbs < 2 ^ 40 := by
          have : (2 : Nat) ^ 40 = 1099511627776 := by decide
          omega
        refine ⟨_, rfl, ?_⟩
        try simp only [entG, setG, List.map_cons, List.map_nil, List.cons_append, List.nil_append, List.length_cons, List.length_nil, Nat.reduceAdd, Nat.reduceSub, List.replicate_succ, List.replicate_zero, List.set_cons_zero, List.set_cons_succ]
        refine sd_set (d := .int ((s * 16807 + 7 * (0 + (i : Int)) + 1).fmod 2147483647)) (xd_op od_I (xd_cb cb_int (ad_cons (xd_op od_I0 (xd_op od_I0 (xd_op od_I (x_var rfl rfl) (x_int rfl) ⟨_, _, rfl, rfl, wmul ss (show (16807 : Int).natAbs < 2 ^ 20 by decide) (by decide) (by decide) (by decide), rfl⟩) (xd_op od_I (x_int rfl) (x_var rfl rfl) ⟨_, _, rfl, rfl, .inl ⟨by decide, by decide⟩, rfl⟩) ⟨_, _, rfl, rfl, rfl⟩) (x_int rfl) ⟨_, _, rfl, rfl, rfl⟩) ad_nil) ⟨_, rfl, rfl⟩) (x_int rfl) ⟨_, _, rfl, rfl, by decide, rfl⟩) ?_
        try simp only [entG, setG, List.map_cons, List.map_nil, List.cons_append, List.nil_append, List.length_cons, List.length_nil, Nat.reduceAdd, Nat.reduceSub, List.replicate_succ, List.replicate_zero, List.set_cons_zero, List.set_cons_succ]
        refine sd_app (i := 3) rfl (by rw [List.length_map]; omega) (xd_op od_I (xd_cb cb_int (ad_cons (xd_op od_I (x_var rfl rfl) (x_int rfl) ⟨_, _, rfl, rfl, ⟨by decide, by decide⟩, rfl⟩) ad_nil) ⟨_, rfl, rfl⟩) (x_int rfl) ⟨_, _, rfl, rfl, by decide, rfl⟩) ⟨_, row ++ [((((s * 16807 + 7 * (0 + (i : Int)) + 1).fmod 2147483647)).fdiv 997).fmod 1000], _, by rw [List.map_append]; rfl, by rw [List.length_append, List.length_singleton]; omega, by omega, ?_, ?_⟩
        · rw [Int.fmod_eq_emod_of_nonneg _ (by decide)]
          exact Int.emod_nonneg _ (by decide)
        · rw [Int.fmod_eq_emod_of_nonneg _ (by decide)]
          exact Int.emod_lt_of_pos _ (by decide)
      · rintro Γ' ⟨s, row, z, rfl, hl, hi, _, _⟩
        exact s_show (i := 3) rfl (sd_ret (x_var rfl rfl) (hR row (by omega)))
end Rt
set_option Elab.async false
set_option linter.all false
set_option maxRecDepth 100000
set_option maxHeartbeats 4000000
set_option exponentiation.threshold 100000
/-! The walk, part 14: the drawn train. -/
namespace Rt
open PySem PySem.Spec PyProof.Rows L2 GxR Gx RZ
variable {P : Program} {w : World} {K : PySem.W.Frag} {mg : Str → Option Value} {base : Heap} {cs : List Addr}
/-- the box: its digits, and how many are drawn -/
def Bx (row : List Int) (n : Nat) : List D := [.list (row.map PyData.int), .int (n : Int)]
def F__law_draw (es ds : List D) (R : D → List D → Prop) : Prop := ∃ (row : List Int) (n : Nat) (m : Int), es = Bx row n ∧ ds = [.int m] ∧ 0 < m ∧ n ≤ 1000000 ∧ ∀ v : Int, 0 ≤ v → v < m → R (.int v) (Bx row (n + 1))
theorem len__law_draw : ∀ es ds R, F__law_draw es ds R → ds.length + 1 = 2 := fun _ _ _ ⟨_, _, _, _, h, _⟩ => by rw [h]; rfl
theorem fmod_rng {a m : Int} (h : 0 < m) : 0 ≤ a.fmod m ∧ a.fmod m < m := by
  rw [Int.fmod_eq_emod_of_nonneg _ (by omega)]
  exact ⟨Int.emod_nonneg _ (by omega), Int.emod_lt_of_pos _ h⟩
abbrev N__law_draw : List Str := ["_law_box_here", "_law_many", "_law_at"]
theorem sc__law_draw : FnScope N__law_draw ["_law_box_here", "_law_many"] (defScope (topS 84)) := ⟨rfl, rfl, rfl, by decide +kernel, rfl, by decide +kernel, by decide +kernel⟩
theorem ok__law_draw (T : Tc P w K mg base cs) : GoodB P w K mg base cs "_law_draw" ["_law_box_here", "_law_many"] 1 F__law_draw := by
  obtain ⟨f, c, fd, D0, m0, t0⟩ := T.fn 66 _ rfl
  have z_int := T.fr "int" (by decide)
  have z_len := T.fr "len" (by decide)
  refine ⟨f, fd, m0, D0.kp, D0.funD.bindsN (fun _ _ _ _ _ _ us hl => match us, hl with | [_, _], _ => rfl), D0.ok sc__law_draw (fun vs H Q E h => pmb_len len__law_draw h) (fun A outer s H vs Q E hr h => ⟨_, (pss_cons (ps_set (i := 2) sc__law_draw.nd rfl (.inl rfl) (pe_ix (r := rIxL K) L2.ix_list (pv 0) pe_int (fun _ _ => rfl)))
      (pss_cons (ps_asg (pe_op op_add (pv 2) pe_int) (pg_sub (pv 0) pe_int set_list))
      (pss_cons (ps_if (pt_cmpR op_lt (pv 2) (pe_callB call_len_seq rfl z_len PySem.boot_len (pa_cons (pe_ix (r := rIxL K) L2.ix_list (pv 0) pe_int (fun _ _ => rfl)) pa_nil)) (nomark _)) (pss_one (ps_ret (pe_op op_modN (pe_callTy call_int1 rfl z_int (by rfl) (pa_cons (pe_ix (r := rIxL K) L2.ix_list (pe_ix (r := rIxL K) L2.ix_list (pv 0) pe_int (fun _ _ => rfl)) (pv 2) (fun _ _ => rfl)) pa_nil)) (pv 1)))) pss_nil)
      (pss_one (ps_ret (pe_op op_modN (pe_callTy call_int1 rfl z_int (by rfl) (pa_cons (pe_op op_add (pe_op op_mulW (pv 2) pe_int) pe_int) pa_nil)) (pv 1))))))), pmb_body rfl ?_ h⟩)⟩
  intro es ds R hF
  obtain ⟨row, n, m, rfl, rfl, hm, hn, hR⟩ := hF
  refine sm_set (by decide) (xm_of (x_ixOwn (i := 0) (j := 1) (f := .int (n : Int)) rfl (x_int rfl) rfl rfl) ?_)
  refine sm_seq (sm_put (i := 0) (j := 1) rfl (by show 1 < 2; decide) (xd_op od_I0 (x_var (d := .int (n : Int)) rfl rfl) (x_int rfl) ⟨_, _, rfl, rfl, rfl⟩) ?_)
  show Sxm K cs _ [.own (Bx row (n + 1)), .val (.int m), .val (.int (n : Int))] _ _
  have hx : Xd K cs (tOp (rIxL K) (tVar 0) (tC (.int 0))) [.own (Bx row (n + 1)), .val (.int m), .val (.int (n : Int))] (.list (row.map PyData.int)) := x_ixOwn (i := 0) (j := 0) rfl (x_int rfl) rfl rfl
  refine sm_when (P := fun b g => b = decide ((n : Int) < ((row.map PyData.int).length : Int)) ∧ g = [.own (Bx row (n + 1)), .val (.int m), .val (.int (n : Int))]) (tm_of (td_test (xd_op od_B0 (x_var rfl rfl) (xd_cb cb_len (ad_cons hx ad_nil) ⟨_, .inl rfl, rfl⟩) ⟨_, _, rfl, rfl, rfl⟩) rfl) ⟨rfl, rfl⟩) (fun g ⟨hb, hg⟩ => ?_) (fun g ⟨hb, hg⟩ => ?_)
  · subst hg
    have hlt := of_decide_eq_true hb.symm
    rw [List.length_map] at hlt
    have hlt2 : n < row.length := by omega
    have ha : atI (row.map PyData.int) (n : Int) = some (.int row[n]) := atI_nat (by rw [List.getElem?_map, List.getElem?_eq_getElem hlt2]; rfl)
    refine sm_ret (xm_of (xd_op od_I (xd_cb cb_int (ad_cons (xd_op od_ixL hx (x_var rfl rfl) ⟨_, _, _, rfl, rfl, ha, rfl⟩) ad_nil) ⟨_, rfl, rfl⟩) (x_var rfl rfl) ⟨_, _, rfl, rfl, by omega, rfl⟩) ⟨_, rfl, ?_⟩)
    have := fmod_rng (a := row[n]) hm
    exact hR _ this.1 this.2
  · subst hg
    have sn : (n : Int).natAbs < 2 ^ 40 := by
      have : (2 : Nat) ^ 40 = 1099511627776 := by decide
      omega
    refine sm_ret (xm_of (xd_op od_I (xd_cb cb_int (ad_cons (xd_op od_I0 (xd_op od_I (x_var rfl rfl) (x_int rfl) ⟨_, _, rfl, rfl, wmul sn (show (7 : Int).natAbs < 2 ^ 20 by decide) (by decide) (by decide) (by decide), rfl⟩) (x_int rfl) ⟨_, _, rfl, rfl, rfl⟩) ad_nil) ⟨_, rfl, rfl⟩) (x_var rfl rfl) ⟨_, _, rfl, rfl, by omega, rfl⟩) ⟨_, rfl, ?_⟩)
    have := fmod_rng (a := (n : Int) * 7 + 3) hm
    exact hR _ this.1 this.2
/-! ### fractions, stops, rays -/
def FrOk (q : Rat) : Prop := ∃ v d : Int, -4 ≤ v ∧ v ≤ 4 ∧ (d = 1 ∨ d = 2 ∨ d = 3) ∧ q = Rat.divInt v d
def F__law_fraction (es ds : List D) (R : D → List D → Prop) : Prop := ∃ (row : List Int) (n : Nat), es = Bx row n ∧ ds = [] ∧ n ≤ 100000 ∧ ∀ (q : Rat) (k : Nat), FrOk q → k ≤ n + 2 → R (dQ q) (Bx row k)
theorem len__law_fraction : ∀ es ds R, F__law_fraction es ds R → ds.length + 1 = 1 := fun _ _ _ ⟨_, _, _, h, _⟩ => by rw [h]; rfl
/-- a draw as an expression -/
theorem xm_draw {Γ : Gm} {te : TE} {E : XK} {R : D → Gm → Prop} {i : Nat} {row : List Int} {n : Nat} {m : Int} (hi : Γ[i]? = some (.own (Bx row n))) (hm : 0 < m) (hn : n ≤ 1000000) (k : ∀ v : Int, 0 ≤ v → v < m → R (.int v) (Γ.set i (.own (Bx row (n + 1))))) :
    Exm K cs (tCall (PmB K cs F__law_draw) [] E (tCons (tVar i) (tCons (tC (.int m)) tNil))) Γ R := xm_box hi (ad_cons (x_int rfl) ad_nil) ⟨row, n, m, rfl, rfl, hm, hn, k⟩
theorem at_lst {ds : List D} {v : Int} (h0 : 0 ≤ v) (h : v < (ds.length : Int)) : ∃ f, atI ds v = some f ∧ f ∈ ds := by
  have e : v = ((v.toNat : Nat) : Int) := by omega
  have h2 : v.toNat < ds.length := by omega
  rw [e]
  exact ⟨ds[v.toNat], atI_nat (List.getElem?_eq_getElem h2), List.getElem_mem h2⟩
/-- a list display at a drawn place -/
theorem xm_pick {Γ : Gm} {tl td : TE} {ds : List D} {m : Int} {G : Gm} {R : D → Gm → Prop} (hl : Xd K cs tl Γ (.list ds)) (hd : Exm K cs td Γ (fun d g => ∃ v : Int, d = .int v ∧ 0 ≤ v ∧ v < m ∧ g = G)) (e : (ds.length : Int) = m) (k : ∀ d ∈ ds, R d G) : Exm K cs (tOp (rIxL K) tl td) Γ R :=
  xm_op (Ra := fun d g => d = .list ds ∧ g = Γ) od_ixL ((Ex.m hl).mono fun d g ⟨e1, e2⟩ => ⟨e1.symm, e2⟩) fun d g ⟨e1, e2⟩ => by
    subst e1 e2
    exact hd.mono fun x g2 ⟨v, e3, h0, h1, e4⟩ => by
      obtain ⟨f, hf, mf⟩ := at_lst (ds := ds) h0 (by omega)
      exact ⟨ds, v, f, rfl, e3, hf, by rw [e4]; exact k f mf⟩
theorem small_num {n : Nat} {v : Int} (h : v.natAbs ≤ 1000) (hn : 10 ≤ n) : v.natAbs < 2 ^ n := Nat.lt_of_lt_of_le (by omega : v.natAbs < 2 ^ 10) (pow_le hn)
abbrev N__law_fraction : List Str := ["_law_box_here"]
theorem sc__law_fraction : FnScope N__law_fraction ["_law_box_here"] (defScope (topS 93)) := ⟨rfl, rfl, rfl, by decide +kernel, rfl, by decide +kernel, by decide +kernel⟩
theorem ok__law_fraction (T : Tc P w K mg base cs) : GoodB P w K mg base cs "_law_fraction" ["_law_box_here"] 2 F__law_fraction := by
  obtain ⟨f, c, fd, D0, m0, t0⟩ := T.fn 75 _ rfl
  obtain ⟨f__law_frac, d__law_frac, m__law_frac, k__law_frac, b__law_frac, G__law_frac⟩ := ok__law_frac T
  obtain ⟨f__law_draw, d__law_draw, m__law_draw, k__law_draw, b__law_draw, G__law_draw⟩ := ok__law_draw T
  refine ⟨f, fd, m0, D0.kp, D0.funD.bindsN (fun _ _ _ _ _ _ us hl => match us, hl with | [_], _ => rfl), D0.ok sc__law_fraction (fun vs H Q E h => pmb_len len__law_fraction h) (fun A outer s H vs Q E hr h => ⟨_, (pss_one (ps_ret (pe_call G__law_frac (hr.mono (by decide)) rfl m__law_frac k__law_frac b__law_frac .nil pass0 (pa_cons (pe_op op_sub (pe_call G__law_draw (hr.mono (by decide)) rfl m__law_draw k__law_draw b__law_draw .nil pass0 (pa_cons (pv 0) (pa_cons pe_int pa_nil))) pe_int) (pa_cons (pe_ix (r := rIxL K) L2.ix_list (pe_lst (pa_cons pe_int (pa_cons pe_int (pa_cons pe_int (pa_cons pe_int pa_nil))))) (pe_call G__law_draw (hr.mono (by decide)) rfl m__law_draw k__law_draw b__law_draw .nil pass0 (pa_cons (pv 0) (pa_cons pe_int pa_nil))) (fun _ _ => rfl)) pa_nil))))), pmb_body rfl ?_ h⟩)⟩
  intro es ds R hF
  obtain ⟨row, n, rfl, rfl, hn, hR⟩ := hF
  refine sm_ret (xm_call (am_cons (Ra := fun d g => ∃ v : Int, d = .int v ∧ -4 ≤ v ∧ v ≤ 4 ∧ g = [.own (Bx row (n + 1))]) (xm_op (Ra := fun d g => ∃ v : Int, d = .int v ∧ 0 ≤ v ∧ v < 9 ∧ g = [.own (Bx row (n + 1))]) od_I0 (xm_draw (te := fun _ _ _ => True) (i := 0) rfl (by decide) (by omega) fun v h0 h1 => ⟨v, rfl, h0, h1, rfl⟩) fun d g ⟨v, e, h0, h1, hg⟩ => xm_of (x_int rfl) ⟨v, 4, e, rfl, _, rfl, by omega, by omega, hg⟩) fun d g ⟨v, e, h0, h1, hg⟩ => ?_))
  subst e hg
  refine am_cons (Ra := fun d g => ∃ c : Int, d = .int c ∧ (c = 1 ∨ c = 2 ∨ c = 3) ∧ g = [.own (Bx row (n + 1 + 1))]) (xm_pick (ds := [.int 1, .int 1, .int 2, .int 3]) (m := 4) (G := [.own (Bx row (n + 1 + 1))]) (xd_lst (ad_cons (x_int rfl) (ad_cons (x_int rfl) (ad_cons (x_int rfl) (ad_cons (x_int rfl) ad_nil)))) (Nat.le_of_ble_eq_true rfl) rfl) (xm_draw (te := fun _ _ _ => True) (i := 0) rfl (by decide) (by omega) fun v h0 h1 => ⟨v, rfl, h0, h1, rfl⟩) rfl fun d hd => ?_) fun d g ⟨c, e, hc, hg⟩ => ?_
  · simp only [List.mem_cons, List.not_mem_nil, or_false] at hd
    rcases hd with rfl | rfl | rfl | rfl
    · exact ⟨1, rfl, .inl rfl, rfl⟩
    · exact ⟨1, rfl, .inl rfl, rfl⟩
    · exact ⟨2, rfl, .inr (.inl rfl), rfl⟩
    · exact ⟨3, rfl, .inr (.inr rfl), rfl⟩
  · subst e hg
    exact am_nil ⟨v, c, rfl, by omega, small_num (by omega) (by decide), ⟨_, rfl, hR _ (n + 2) ⟨v, c, h0, h1, hc, rfl⟩ (Nat.le_refl _)⟩⟩
theorem FrOk.sz {q : Rat} (h : FrOk q) : Sz 10 q := by
  obtain ⟨v, d, h1, h2, hd, rfl⟩ := h
  exact Sz.ofDivInt (small_num (by omega) (by decide)) (small_num (by omega) (by decide)) (by omega) (by decide)
/-- a drawn stop -/
def StopOk (e : El) : Prop := ∃ (lo : Rat) (k : Int), FrOk lo ∧ 0 ≤ k ∧ k ≤ 8 ∧ (e = .stop none (some (lo + Rat.divInt k 2)) ∨ e = .stop (some lo) none ∨ e = .stop (some lo) (some (lo + Rat.divInt k 2)))
def F__law_stop (es ds : List D) (R : D → List D → Prop) : Prop := ∃ (row : List Int) (n : Nat), es = Bx row n ∧ ds = [] ∧ n ≤ 10000 ∧ ∀ (e : El) (k : Nat), StopOk e → k ≤ n + 4 → R (dE e) (Bx row k)
theorem len__law_stop : ∀ es ds R, F__law_stop es ds R → ds.length + 1 = 1 := fun _ _ _ ⟨_, _, _, h, _⟩ => by rw [h]; rfl
abbrev N__law_stop : List Str := ["_law_box_here", "_law_lower", "_law_upper", "_law_kind"]
theorem sc__law_stop : FnScope N__law_stop ["_law_box_here"] (defScope (topS 94)) := ⟨rfl, rfl, rfl, by decide +kernel, rfl, by decide +kernel, by decide +kernel⟩
theorem ok__law_stop (T : Tc P w K mg base cs) : GoodB P w K mg base cs "_law_stop" ["_law_box_here"] 3 F__law_stop := by
  obtain ⟨f, c, fd, D0, m0, t0⟩ := T.fn 76 _ rfl
  obtain ⟨f__law_draw, d__law_draw, m__law_draw, k__law_draw, b__law_draw, G__law_draw⟩ := ok__law_draw T
  obtain ⟨f__law_add, d__law_add, m__law_add, k__law_add, b__law_add, G__law_add⟩ := ok__law_add T
  obtain ⟨f__law_frac, d__law_frac, m__law_frac, k__law_frac, b__law_frac, G__law_frac⟩ := ok__law_frac T
  obtain ⟨f__law_fraction, d__law_fraction, m__law_fraction, k__law_fraction, b__law_fraction, G__law_fraction⟩ := ok__law_fraction T
  refine ⟨f, fd, m0, D0.kp, D0.funD.bindsN (fun _ _ _ _ _ _ us hl => match us, hl with | [_], _ => rfl), D0.ok sc__law_stop (fun vs H Q E h => pmb_len len__law_stop h) (fun A outer s H vs Q E hr h => ⟨_, (pss_cons (ps_set (i := 1) sc__law_stop.nd rfl (.inl rfl) (pe_call G__law_fraction (hr.mono (by decide)) rfl m__law_fraction k__law_fraction b__law_fraction .nil pass0 (pa_cons (pv 0) pa_nil)))
      (pss_cons (ps_set (i := 2) sc__law_stop.nd rfl (.inl rfl) (pe_call G__law_add (hr.mono (by decide)) rfl m__law_add k__law_add b__law_add .nil pass0 (pa_cons (pv 1) (pa_cons (pe_call G__law_frac (hr.mono (by decide)) rfl m__law_frac k__law_frac b__law_frac .nil pass0 (pa_cons (pe_call G__law_draw (hr.mono (by decide)) rfl m__law_draw k__law_draw b__law_draw .nil pass0 (pa_cons (pv 0) (pa_cons pe_int pa_nil))) (pa_cons pe_int pa_nil))) pa_nil))))
      (pss_cons (ps_set (i := 3) sc__law_stop.nd rfl (.inl rfl) (pe_call G__law_draw (hr.mono (by decide)) rfl m__law_draw k__law_draw b__law_draw .nil pass0 (pa_cons (pv 0) (pa_cons pe_int pa_nil))))
      (pss_cons (ps_if (pt_cmpR op_eq (pv 3) pe_int (nomark _)) (pss_one (ps_ret (pe_tup (pa_cons pe_str (pa_cons pe_non (pa_cons (pv 2) pa_nil)))))) pss_nil)
      (pss_cons (ps_if (pt_cmpR op_eq (pv 3) pe_int (nomark _)) (pss_one (ps_ret (pe_tup (pa_cons pe_str (pa_cons (pv 1) (pa_cons pe_non pa_nil)))))) pss_nil)
      (pss_one (ps_ret (pe_tup (pa_cons pe_str (pa_cons (pv 1) (pa_cons (pv 2) pa_nil))))))))))), pmb_body rfl ?_ h⟩)⟩
  intro es ds R hF
  obtain ⟨row, n, rfl, rfl, hn, hR⟩ := hF
  refine sm_set (by decide) (xm_box (i := 0) rfl ad_nil ⟨row, n, rfl, rfl, by omega, fun lo k0 hlo hk0 => ?_⟩)
  have hh : Sz 10 lo := hlo.sz
  refine sm_set (by decide) ((xm_call (R := fun d g => ∃ k : Int, d = dQ (lo + Rat.divInt k 2) ∧ 0 ≤ k ∧ k ≤ 8 ∧ g = [.own (Bx row (k0 + 1)), .val (dQ lo), .no, .no]) (am_cons (Ra := fun d g => d = dQ lo ∧ g = [.own (Bx row k0), .val (dQ lo), .no, .no]) (xm_of (x_var (d := dQ lo) rfl rfl) ⟨rfl, rfl⟩) fun d g ⟨e, hg⟩ => ?_)).mono fun d g ⟨k, e, h0, h1, hg⟩ => ?_)
  · subst e hg
    refine am_cons (Ra := fun d g => ∃ k : Int, d = dQ (Rat.divInt k 2) ∧ 0 ≤ k ∧ k ≤ 8 ∧ g = [.own (Bx row (k0 + 1)), .val (dQ lo), .no, .no]) (xm_call (am_cons (Ra := fun d g => ∃ v : Int, d = .int v ∧ 0 ≤ v ∧ v < 9 ∧ g = [.own (Bx row (k0 + 1)), .val (dQ lo), .no, .no]) (xm_draw (te := fun _ _ _ => True) (i := 0) rfl (by decide) (by omega) fun v h0 h1 => ⟨v, rfl, h0, h1, rfl⟩) fun d g ⟨v, e, h0, h1, hg⟩ => am_of (ds := [.int 2]) (ad_cons (x_int rfl) ad_nil) ?_)) fun d g ⟨k, e, h0, h1, hg⟩ => ?_
    · subst e hg
      exact ⟨v, 2, rfl, by decide, small_num (by decide) (by decide), v, rfl, h0, by omega, rfl⟩
    · subst e hg
      exact am_nil ⟨lo, _, rfl, hh.mono (by decide), (Sz.ofDivInt (n := 10) (small_num (by omega) (by decide)) (small_num (by decide) (by decide)) (by decide) (by decide)).mono (by decide), k, rfl, h0, h1, rfl⟩
  subst e hg
  refine sm_set (by decide) ((xm_draw (te := fun _ _ _ => True) (i := 0) (row := row) (n := k0 + 1) rfl (by decide) (by omega) fun v _ _ => ?_))
  show Sxm K cs _ [.own (Bx row (k0 + 2)), .val (dQ lo), .val (dQ (lo + Rat.divInt k 2)), .val (.int v)] _ _
  refine sm_when (P := fun b g => g = [.own (Bx row (k0 + 2)), .val (dQ lo), .val (dQ (lo + Rat.divInt k 2)), .val (.int v)]) (tm_of (td_test (xd_op od_eqI (x_var rfl rfl) (x_int rfl) ⟨_, _, rfl, rfl, rfl⟩) rfl) rfl) (fun g hg => ?_) (fun g hg => ?_)
  · subst hg
    exact sm_ret (xm_of (xd_tup (ad_cons (x_str rfl) (ad_cons (x_non rfl) (ad_cons (x_var rfl rfl) ad_nil))) (Nat.le_of_ble_eq_true rfl) rfl) ⟨_, rfl, hR (.stop none (some (lo + Rat.divInt k 2))) (k0 + 2) ⟨lo, k, hlo, h0, h1, .inl rfl⟩ (by omega)⟩)
  · subst hg
    refine sm_when (P := fun b g => g = [.own (Bx row (k0 + 2)), .val (dQ lo), .val (dQ (lo + Rat.divInt k 2)), .val (.int v)]) (tm_of (td_test (xd_op od_eqI (x_var rfl rfl) (x_int rfl) ⟨_, _, rfl, rfl, rfl⟩) rfl) rfl) (fun g hg => ?_) (fun g hg => ?_)
    · subst hg
      exact sm_ret (xm_of (xd_tup (ad_cons (x_str rfl) (ad_cons (x_var rfl rfl) (ad_cons (x_non rfl) ad_nil))) (Nat.le_of_ble_eq_true rfl) rfl) ⟨_, rfl, hR (.stop (some lo) none) (k0 + 2) ⟨lo, k, hlo, h0, h1, .inr (.inl rfl)⟩ (by omega)⟩)
    · subst hg
      exact sm_ret (xm_of (xd_tup (ad_cons (x_str rfl) (ad_cons (x_var rfl rfl) (ad_cons (x_var rfl rfl) ad_nil))) (Nat.le_of_ble_eq_true rfl) rfl) ⟨_, rfl, hR (.stop (some lo) (some (lo + Rat.divInt k 2))) (k0 + 2) ⟨lo, k, hlo, h0, h1, .inr (.inr rfl)⟩ (by omega)⟩)
def F__law_ray (es ds : List D) (R : D → List D → Prop) : Prop := ∃ (row : List Int) (n : Nat), es = Bx row n ∧ ds = [] ∧ n ≤ 10000 ∧ ∀ (p q : Rat) (k : Nat), FrOk p → FrOk q → k ≤ n + 4 → R (dR (p, q)) (Bx row k)
theorem len__law_ray : ∀ es ds R, F__law_ray es ds R → ds.length + 1 = 1 := fun _ _ _ ⟨_, _, _, h, _⟩ => by rw [h]; rfl
abbrev N__law_ray : List Str := ["_law_box_here"]
theorem sc__law_ray : FnScope N__law_ray ["_law_box_here"] (defScope (topS 95)) := ⟨rfl, rfl, rfl, by decide +kernel, rfl, by decide +kernel, by decide +kernel⟩
theorem ok__law_ray (T : Tc P w K mg base cs) : GoodB P w K mg base cs "_law_ray" ["_law_box_here"] 3 F__law_ray := by
  obtain ⟨f, c, fd, D0, m0, t0⟩ := T.fn 77 _ rfl
  obtain ⟨f__law_fraction, d__law_fraction, m__law_fraction, k__law_fraction, b__law_fraction, G__law_fraction⟩ := ok__law_fraction T
  refine ⟨f, fd, m0, D0.kp, D0.funD.bindsN (fun _ _ _ _ _ _ us hl => match us, hl with | [_], _ => rfl), D0.ok sc__law_ray (fun vs H Q E h => pmb_len len__law_ray h) (fun A outer s H vs Q E hr h => ⟨_, (pss_one (ps_ret (pe_tup (pa_cons (pe_call G__law_fraction (hr.mono (by decide)) rfl m__law_fraction k__law_fraction b__law_fraction .nil pass0 (pa_cons (pv 0) pa_nil)) (pa_cons (pe_call G__law_fraction (hr.mono (by decide)) rfl m__law_fraction k__law_fraction b__law_fraction .nil pass0 (pa_cons (pv 0) pa_nil)) pa_nil))))), pmb_body rfl ?_ h⟩)⟩
  intro es ds R hF
  obtain ⟨row, n, rfl, rfl, hn, hR⟩ := hF
  refine sm_ret (xm_tup (am_cons (Ra := fun d g => ∃ (p : Rat) (k : Nat), d = dQ p ∧ FrOk p ∧ k ≤ n + 2 ∧ g = [.own (Bx row k)]) (xm_box (i := 0) rfl ad_nil ⟨row, n, rfl, rfl, by omega, fun p k hp hk => ⟨p, k, rfl, hp, hk, rfl⟩⟩) fun d g ⟨p, k, e, hp, hk, hg⟩ => ?_))
  subst e hg
  refine am_cons (Ra := fun d g => ∃ (q : Rat) (j : Nat), d = dQ q ∧ FrOk q ∧ j ≤ k + 2 ∧ g = [.own (Bx row j)]) (xm_box (i := 0) rfl ad_nil ⟨row, k, rfl, rfl, by omega, fun p j hp hj => ⟨p, j, rfl, hp, hj, rfl⟩⟩) fun d g ⟨q, j, e, hq, hj, hg⟩ => ?_
  subst e hg
  exact am_nil ⟨Nat.le_of_ble_eq_true rfl, _, rfl, hR p q j hp hq (by omega)⟩
/-! ### the train -/
def GapOk (l : Rat) : Prop := l = Rat.divInt 1 1 ∨ l = Rat.divInt 2 1 ∨ l = Rat.divInt 1 2 ∨ l = Rat.divInt (-1) 1
def PowOk (p : Rat) : Prop := p = Rat.divInt 1 1 ∨ p = Rat.divInt 2 1 ∨ p = Rat.divInt 1 2 ∨ p = Rat.divInt 3 1 ∨ p = Rat.divInt 4 1 ∨ p = Rat.divInt (-1) 1 ∨ p = Rat.divInt 3 2
def OffOk (o : Rat) : Prop := o = Rat.divInt 0 1 ∨ o = Rat.divInt 1 2
def AfoOk (m : Rat) : Prop := m = Rat.divInt 2 1 ∨ m = Rat.divInt (-1) 1 ∨ m = Rat.divInt 1 2
/-- what stands between the stops -/
def CoreOk (c : List El) : Prop := (∃ l p o, GapOk l ∧ PowOk p ∧ OffOk o ∧ c = [.gap l, .lens p o]) ∨ (∃ l p o f, GapOk l ∧ PowOk p ∧ OffOk o ∧ FrOk f ∧ c = [.gap l, .lens p o, .prism f]) ∨ (∃ m, AfoOk m ∧ c = [.afocal m]) ∨ ∃ l, GapOk l ∧ c = [.gap l]
def Cav (t : List El) : Prop := ∃ c, CoreOk c ∧ ((∃ s, StopOk s ∧ t = s :: c) ∨ (∃ s s', StopOk s ∧ StopOk s' ∧ t = s :: c ++ [s']) ∨ t = c ++ [.stop (some (Rat.divInt (-4) 1)) (some (Rat.divInt 4 1))])
def F__law_cavity (es ds : List D) (R : D → List D → Prop) : Prop := ∃ row : List Int, es = Bx row 0 ∧ ds = [] ∧ ∀ (t : List El) (k : Nat), Cav t → k ≤ 1000 → R (dT t) (Bx row k)
theorem len__law_cavity : ∀ es ds R, F__law_cavity es ds R → ds.length + 1 = 1 := fun _ _ _ ⟨_, _, h, _⟩ => by rw [h]; rfl
def nonStop : El → Bool
  | .stop _ _ => false
  | _ => true
theorem StopOk.non {s : El} (h : StopOk s) : nonStop s = false := by
  obtain ⟨lo, k, _, _, _, rfl | rfl | rfl⟩ := h <;> rfl
theorem core_filter {s : El} {c ss : List El} (hs : StopOk s) (hc : CoreOk c) (hss : ss = [] ∨ ∃ s', StopOk s' ∧ ss = [s']) : (s :: c ++ ss).filter nonStop = c := by
  have e1 : ss.filter nonStop = [] := by
    rcases hss with rfl | ⟨s', hs', rfl⟩
    · rfl
    · rw [List.filter_cons, hs'.non]
      rfl
  have e2 : c.filter nonStop = c := by
    rcases hc with ⟨_, _, _, _, _, _, rfl⟩ | ⟨_, _, _, _, _, _, _, _, rfl⟩ | ⟨_, _, rfl⟩ | ⟨_, _, rfl⟩ <;> rfl
  rw [List.cons_append, List.filter_cons, hs.non, if_neg (by decide), List.filter_append, e1, e2, List.append_nil]
theorem Sxm.monoN {t : TS} {Γ : Gm} {N N' : Gm → Prop} {R : D → Gm → Prop} (h : Sxm K cs t Γ N R) (k : ∀ g, N g → N' g) : Sxm K cs t Γ N' R := fun B0 H0 σ B H st r E q1 q2 => h B0 H0 σ B H st r E (fun σ' B' H' Γ' s1 r1 e n => q1 σ' B' H' Γ' s1 r1 e (k _ n)) q2
abbrev N__law_cavity : List Str := ["_law_box_here", "_law_gap", "_law_lens", "_law_found", "_law_kind", "_law_element"]
theorem sc__law_cavity : FnScope N__law_cavity ["_law_box_here"] (defScope (topS 101)) := ⟨rfl, rfl, rfl, by decide +kernel, rfl, by decide +kernel, by decide +kernel⟩
theorem ok__law_cavity (T : Tc P w K mg base cs) : GoodB P w K mg base cs "_law_cavity" ["_law_box_here"] 4 F__law_cavity := by
  obtain ⟨f, c, fd, D0, m0, t0⟩ := T.fn 83 _ rfl
  obtain ⟨f__law_draw, d__law_draw, m__law_draw, k__law_draw, b__law_draw, G__law_draw⟩ := ok__law_draw T
  obtain ⟨f__law_stop, d__law_stop, m__law_stop, k__law_stop, b__law_stop, G__law_stop⟩ := ok__law_stop T
  obtain ⟨f__law_fraction, d__law_fraction, m__law_fraction, k__law_fraction, b__law_fraction, G__law_fraction⟩ := ok__law_fraction T
  refine ⟨f, fd, m0, D0.kp, D0.funD.bindsN (fun _ _ _ _ _ _ us hl => match us, hl with | [_], _ => rfl), D0.ok sc__law_cavity (fun vs H Q E h => pmb_len len__law_cavity h) (fun A outer s H vs Q E hr h => ⟨_, (pss_cons (ps_set (i := 1) sc__law_cavity.nd rfl (.inl rfl) (pe_tup (pa_cons pe_str (pa_cons (pe_ix (r := rIxL K) L2.ix_list (pe_lst (pa_cons (pe_tup (pa_cons pe_int (pa_cons pe_int pa_nil))) (pa_cons (pe_tup (pa_cons pe_int (pa_cons pe_int pa_nil))) (pa_cons (pe_tup (pa_cons pe_int (pa_cons pe_int pa_nil))) (pa_cons (pe_tup (pa_cons (pe_un un_neg pe_int) (pa_cons pe_int pa_nil))) pa_nil))))) (pe_call G__law_draw (hr.mono (by decide)) rfl m__law_draw k__law_draw b__law_draw .nil pass0 (pa_cons (pv 0) (pa_cons pe_int pa_nil))) (fun _ _ => rfl)) pa_nil))))
      (pss_cons (ps_set (i := 2) sc__law_cavity.nd rfl (.inl rfl) (pe_tup (pa_cons pe_str (pa_cons (pe_ix (r := rIxL K) L2.ix_list (pe_lst (pa_cons (pe_tup (pa_cons pe_int (pa_cons pe_int pa_nil))) (pa_cons (pe_tup (pa_cons pe_int (pa_cons pe_int pa_nil))) (pa_cons (pe_tup (pa_cons pe_int (pa_cons pe_int pa_nil))) (pa_cons (pe_tup (pa_cons pe_int (pa_cons pe_int pa_nil))) (pa_cons (pe_tup (pa_cons pe_int (pa_cons pe_int pa_nil))) (pa_cons (pe_tup (pa_cons (pe_un un_neg pe_int) (pa_cons pe_int pa_nil))) (pa_cons (pe_tup (pa_cons pe_int (pa_cons pe_int pa_nil))) pa_nil)))))))) (pe_call G__law_draw (hr.mono (by decide)) rfl m__law_draw k__law_draw b__law_draw .nil pass0 (pa_cons (pv 0) (pa_cons pe_int pa_nil))) (fun _ _ => rfl)) (pa_cons (pe_ix (r := rIxL K) L2.ix_list (pe_lst (pa_cons (pe_tup (pa_cons pe_int (pa_cons pe_int pa_nil))) (pa_cons (pe_tup (pa_cons pe_int (pa_cons pe_int pa_nil))) (pa_cons (pe_tup (pa_cons pe_int (pa_cons pe_int pa_nil))) pa_nil)))) (pe_call G__law_draw (hr.mono (by decide)) rfl m__law_draw k__law_draw b__law_draw .nil pass0 (pa_cons (pv 0) (pa_cons pe_int pa_nil))) (fun _ _ => rfl)) pa_nil)))))
      (pss_cons (ps_set (i := 3) sc__law_cavity.nd rfl (.inl rfl) (pe_lst (pa_cons (pe_call G__law_stop (hr.mono (by decide)) rfl m__law_stop k__law_stop b__law_stop .nil pass0 (pa_cons (pv 0) pa_nil)) (pa_cons (pv 1) (pa_cons (pv 2) pa_nil)))))
      (pss_cons (ps_set (i := 4) sc__law_cavity.nd rfl (.inl rfl) (pe_call G__law_draw (hr.mono (by decide)) rfl m__law_draw k__law_draw b__law_draw .nil pass0 (pa_cons (pv 0) (pa_cons pe_int pa_nil))))
      (pss_cons (ps_if (pt_cmpR op_eq (pv 4) pe_int (nomark _)) (pss_one (ps_set (i := 3) sc__law_cavity.nd rfl (.inl rfl) (pe_lst (pa_cons (pe_call G__law_stop (hr.mono (by decide)) rfl m__law_stop k__law_stop b__law_stop .nil pass0 (pa_cons (pv 0) pa_nil)) (pa_cons (pe_tup (pa_cons pe_str (pa_cons (pe_ix (r := rIxL K) L2.ix_list (pe_lst (pa_cons (pe_tup (pa_cons pe_int (pa_cons pe_int pa_nil))) (pa_cons (pe_tup (pa_cons (pe_un un_neg pe_int) (pa_cons pe_int pa_nil))) (pa_cons (pe_tup (pa_cons pe_int (pa_cons pe_int pa_nil))) pa_nil)))) (pe_call G__law_draw (hr.mono (by decide)) rfl m__law_draw k__law_draw b__law_draw .nil pass0 (pa_cons (pv 0) (pa_cons pe_int pa_nil))) (fun _ _ => rfl)) pa_nil))) pa_nil))))) pss_nil)
      (pss_cons (ps_if (pt_cmpR op_eq (pv 4) pe_int (nomark _)) (pss_one (ps_set (i := 3) sc__law_cavity.nd rfl (.inl rfl) (pe_lst (pa_cons (pe_call G__law_stop (hr.mono (by decide)) rfl m__law_stop k__law_stop b__law_stop .nil pass0 (pa_cons (pv 0) pa_nil)) (pa_cons (pv 1) pa_nil))))) pss_nil)
      (pss_cons (ps_if (pt_cmpR op_eq (pv 4) pe_int (nomark _)) (pss_one (ps_expr (pe_bm PySem.F.plainAttrs_list PySem.F.slot_list_append PySem.F.type_list_append mt_append (pv 3) (pa_cons (pe_tup (pa_cons pe_str (pa_cons (pe_call G__law_fraction (hr.mono (by decide)) rfl m__law_fraction k__law_fraction b__law_fraction .nil pass0 (pa_cons (pv 0) pa_nil)) pa_nil))) pa_nil)))) pss_nil)
      (pss_cons (ps_if (pt_cmpR op_eq (pe_call G__law_draw (hr.mono (by decide)) rfl m__law_draw k__law_draw b__law_draw .nil pass0 (pa_cons (pv 0) (pa_cons pe_int pa_nil))) pe_int (nomark _)) (pss_one (ps_expr (pe_bm PySem.F.plainAttrs_list PySem.F.slot_list_append PySem.F.type_list_append mt_append (pv 3) (pa_cons (pe_call G__law_stop (hr.mono (by decide)) rfl m__law_stop k__law_stop b__law_stop .nil pass0 (pa_cons (pv 0) pa_nil)) pa_nil)))) pss_nil)
      (pss_cons (ps_if (pt_cmpR op_eq (pe_call G__law_draw (hr.mono (by decide)) rfl m__law_draw k__law_draw b__law_draw .nil pass0 (pa_cons (pv 0) (pa_cons pe_int pa_nil))) pe_int (nomark _)) (pss_one (ps_set (i := 3) sc__law_cavity.nd rfl (.inl rfl) (pe_op op_catLL (pe_lc (own := [("_law_element", 5)]) rfl sc__law_cavity.nd (pi_list (pv 3)) (blkOk_by (N := N__law_cavity) (sc := defScope (topS 101)) (by decide +kernel)) (fun s H C cl fp => (pg_name (i := 5) sc__law_cavity.nd rfl (.inl rfl) (.inr rfl))) (fun s H C cl fp => (pts_one (pt_cmpR op_ne (pe_ix (r := rIxT K) L2.ix_tup (pv 5) pe_int (fun _ _ => rfl)) pe_str (nomark _)))) (fun s H C cl fp => (pv 5))) (pe_lst (pa_cons (pe_tup (pa_cons pe_str (pa_cons (pe_tup (pa_cons (pe_un un_neg pe_int) (pa_cons pe_int pa_nil))) (pa_cons (pe_tup (pa_cons pe_int (pa_cons pe_int pa_nil))) pa_nil)))) pa_nil))))) pss_nil)
      (pss_one (ps_ret (pv 3)))))))))))), pmb_body rfl ?_ h⟩)⟩
  intro es ds R hF
  obtain ⟨row, rfl, rfl, hR⟩ := hF
  -- gap
  refine sm_set (by decide) ((xm_tup (R := fun d g => ∃ l, GapOk l ∧ d = dE (.gap l) ∧ g = [.own (Bx row 1), .no, .no, .no, .no, .no]) (am_cons (Ra := fun d g => d = .str "gap" ∧ g = [.own (Bx row 0), .no, .no, .no, .no, .no]) (xm_of (x_str rfl) ⟨rfl, rfl⟩) fun d g ⟨e, hg⟩ => ?_)).mono fun d g ⟨l, hl, e, hg⟩ => ?_)
  · subst e hg
    refine am_cons (Ra := fun d g => ∃ l, GapOk l ∧ d = dQ l ∧ g = [.own (Bx row 1), .no, .no, .no, .no, .no]) (xm_pick (ds := [dQ (Rat.divInt 1 1), dQ (Rat.divInt 2 1), dQ (Rat.divInt 1 2), dQ (Rat.divInt (-1) 1)]) (m := 4) (Xd.to (xd_lst (ad_cons (xd_tup (ad_cons (x_int rfl) (ad_cons (x_int rfl) ad_nil)) (Nat.le_of_ble_eq_true rfl) rfl) (ad_cons (xd_tup (ad_cons (x_int rfl) (ad_cons (x_int rfl) ad_nil)) (Nat.le_of_ble_eq_true rfl) rfl) (ad_cons (xd_tup (ad_cons (x_int rfl) (ad_cons (x_int rfl) ad_nil)) (Nat.le_of_ble_eq_true rfl) rfl) (ad_cons (xd_tup (ad_cons (xd_neg (x_int rfl)) (ad_cons (x_int rfl) ad_nil)) (Nat.le_of_ble_eq_true rfl) rfl) ad_nil)))) (Nat.le_of_ble_eq_true rfl) rfl) rfl) (xm_draw (te := fun _ _ _ => True) (i := 0) rfl (by decide) (by omega) fun v h0 h1 => ⟨v, rfl, h0, h1, rfl⟩) rfl fun d hd => ?_) fun d g ⟨l, hl, e, hg⟩ => ?_
    · simp only [List.mem_cons, List.not_mem_nil, or_false] at hd
      rcases hd with rfl | rfl | rfl | rfl
      · exact ⟨_, .inl rfl, rfl, rfl⟩
      · exact ⟨_, .inr (.inl rfl), rfl, rfl⟩
      · exact ⟨_, .inr (.inr (.inl rfl)), rfl, rfl⟩
      · exact ⟨_, .inr (.inr (.inr rfl)), rfl, rfl⟩
    · subst e hg
      exact am_nil ⟨Nat.le_of_ble_eq_true rfl, l, hl, rfl, rfl⟩
  subst e hg
  try simp only [entG, setG, List.map_cons, List.map_nil, List.cons_append, List.nil_append, List.length_cons, List.length_nil, Nat.reduceAdd, Nat.reduceSub, List.replicate_succ, List.replicate_zero, List.set_cons_zero, List.set_cons_succ]
  -- lens
  refine sm_set (by decide) ((xm_tup (R := fun d g => ∃ p o, PowOk p ∧ OffOk o ∧ d = dE (.lens p o) ∧ g = [.own (Bx row 3), .val (dE (.gap l)), .no, .no, .no, .no]) (am_cons (Ra := fun d g => d = .str "lens" ∧ g = [.own (Bx row 1), .val (dE (.gap l)), .no, .no, .no, .no]) (xm_of (x_str rfl) ⟨rfl, rfl⟩) fun d g ⟨e, hg⟩ => ?_)).mono fun d g ⟨p, o, hp, ho, e, hg⟩ => ?_)
  · subst e hg
    refine am_cons (Ra := fun d g => ∃ p, PowOk p ∧ d = dQ p ∧ g = [.own (Bx row 2), .val (dE (.gap l)), .no, .no, .no, .no]) (xm_pick (ds := [dQ (Rat.divInt 1 1), dQ (Rat.divInt 2 1), dQ (Rat.divInt 1 2), dQ (Rat.divInt 3 1), dQ (Rat.divInt 4 1), dQ (Rat.divInt (-1) 1), dQ (Rat.divInt 3 2)]) (m := 7) (Xd.to (xd_lst (ad_cons (xd_tup (ad_cons (x_int rfl) (ad_cons (x_int rfl) ad_nil)) (Nat.le_of_ble_eq_true rfl) rfl) (ad_cons (xd_tup (ad_cons (x_int rfl) (ad_cons (x_int rfl) ad_nil)) (Nat.le_of_ble_eq_true rfl) rfl) (ad_cons (xd_tup (ad_cons (x_int rfl) (ad_cons (x_int rfl) ad_nil)) (Nat.le_of_ble_eq_true rfl) rfl) (ad_cons (xd_tup (ad_cons (x_int rfl) (ad_cons (x_int rfl) ad_nil)) (Nat.le_of_ble_eq_true rfl) rfl) (ad_cons (xd_tup (ad_cons (x_int rfl) (ad_cons (x_int rfl) ad_nil)) (Nat.le_of_ble_eq_true rfl) rfl) (ad_cons (xd_tup (ad_cons (xd_neg (x_int rfl)) (ad_cons (x_int rfl) ad_nil)) (Nat.le_of_ble_eq_true rfl) rfl) (ad_cons (xd_tup (ad_cons (x_int rfl) (ad_cons (x_int rfl) ad_nil)) (Nat.le_of_ble_eq_true rfl) rfl) ad_nil))))))) (Nat.le_of_ble_eq_true rfl) rfl) rfl) (xm_draw (te := fun _ _ _ => True) (i := 0) rfl (by decide) (by omega) fun v h0 h1 => ⟨v, rfl, h0, h1, rfl⟩) rfl fun d hd => ?_) fun d g ⟨p, hp, e, hg⟩ => ?_
    · simp only [List.mem_cons, List.not_mem_nil, or_false] at hd
      rcases hd with rfl | rfl | rfl | rfl | rfl | rfl | rfl
      · exact ⟨_, .inl rfl, rfl, rfl⟩
      · exact ⟨_, .inr (.inl rfl), rfl, rfl⟩
      · exact ⟨_, .inr (.inr (.inl rfl)), rfl, rfl⟩
      · exact ⟨_, .inr (.inr (.inr (.inl rfl))), rfl, rfl⟩
      · exact ⟨_, .inr (.inr (.inr (.inr (.inl rfl)))), rfl, rfl⟩
      · exact ⟨_, .inr (.inr (.inr (.inr (.inr (.inl rfl))))), rfl, rfl⟩
      · exact ⟨_, .inr (.inr (.inr (.inr (.inr (.inr rfl))))), rfl, rfl⟩
    subst e hg
    refine am_cons (Ra := fun d g => ∃ o, OffOk o ∧ d = dQ o ∧ g = [.own (Bx row 3), .val (dE (.gap l)), .no, .no, .no, .no]) (xm_pick (ds := [dQ (Rat.divInt 0 1), dQ (Rat.divInt 0 1), dQ (Rat.divInt 1 2)]) (m := 3) (Xd.to (xd_lst (ad_cons (xd_tup (ad_cons (x_int rfl) (ad_cons (x_int rfl) ad_nil)) (Nat.le_of_ble_eq_true rfl) rfl) (ad_cons (xd_tup (ad_cons (x_int rfl) (ad_cons (x_int rfl) ad_nil)) (Nat.le_of_ble_eq_true rfl) rfl) (ad_cons (xd_tup (ad_cons (x_int rfl) (ad_cons (x_int rfl) ad_nil)) (Nat.le_of_ble_eq_true rfl) rfl) ad_nil))) (Nat.le_of_ble_eq_true rfl) rfl) rfl) (xm_draw (te := fun _ _ _ => True) (i := 0) rfl (by decide) (by omega) fun v h0 h1 => ⟨v, rfl, h0, h1, rfl⟩) rfl fun d hd => ?_) fun d g ⟨o, ho, e, hg⟩ => ?_
    · simp only [List.mem_cons, List.not_mem_nil, or_false] at hd
      rcases hd with rfl | rfl | rfl
      · exact ⟨_, .inl rfl, rfl, rfl⟩
      · exact ⟨_, .inl rfl, rfl, rfl⟩
      · exact ⟨_, .inr rfl, rfl, rfl⟩
    · subst e hg
      exact am_nil ⟨Nat.le_of_ble_eq_true rfl, p, o, hp, ho, rfl, rfl⟩
  subst e hg
  try simp only [entG, setG, List.map_cons, List.map_nil, List.cons_append, List.nil_append, List.length_cons, List.length_nil, Nat.reduceAdd, Nat.reduceSub, List.replicate_succ, List.replicate_zero, List.set_cons_zero, List.set_cons_succ]
  -- found
  refine sm_seq (sm_newL (by decide) (am_cons (Ra := fun d g => ∃ (s : El) (k : Nat), StopOk s ∧ k ≤ 7 ∧ d = dE s ∧ g = [.own (Bx row k), .val (dE (.gap l)), .val (dE (.lens p o)), .no, .no, .no]) (xm_box (i := 0) rfl ad_nil ⟨row, 3, rfl, rfl, by decide, fun s k hs hk => ⟨s, k, hs, hk, rfl, rfl⟩⟩) fun d g ⟨s, k, hs, hk, e, hg⟩ => ?_))
  subst e hg
  refine am_of (ds := [dE (.gap l), dE (.lens p o)]) (ad_cons (x_var rfl rfl) (ad_cons (x_var rfl rfl) ad_nil)) ⟨Nat.le_of_ble_eq_true rfl, ?_⟩
  try simp only [entG, setG, List.map_cons, List.map_nil, List.cons_append, List.nil_append, List.length_cons, List.length_nil, Nat.reduceAdd, Nat.reduceSub, List.replicate_succ, List.replicate_zero, List.set_cons_zero, List.set_cons_succ]
  -- kind
  refine sm_set (by decide) (xm_draw (te := fun _ _ _ => True) (i := 0) rfl (by decide) (by omega) fun v v0 v6 => ?_)
  try simp only [entG, setG, List.map_cons, List.map_nil, List.cons_append, List.nil_append, List.length_cons, List.length_nil, Nat.reduceAdd, Nat.reduceSub, List.replicate_succ, List.replicate_zero, List.set_cons_zero, List.set_cons_succ]
  -- by the kind: a stop and a core, in a list of one's own
  refine sm_seq (Sxm.monoN (N := fun g => ∃ (s : El) (c : List El) (k : Nat), StopOk s ∧ (v ≠ 1 → v ≠ 2 → CoreOk c) ∧ (v = 2 → c = [.gap l, .lens p o]) ∧ k ≤ 30 ∧ g = [.own (Bx row k), .val (dE (.gap l)), .val (dE (.lens p o)), .own ((s :: c).map dE), .val (.int v), .no]) (sm_if (P := fun b g => b = decide (v = 0) ∧ g = [.own (Bx row (k + 1)), .val (dE (.gap l)), .val (dE (.lens p o)), .own [dE s, dE (.gap l), dE (.lens p o)], .val (.int v), .no]) (tm_of (td_test (xd_op od_eqI (x_var rfl rfl) (x_int rfl) ⟨_, _, rfl, rfl, rfl⟩) rfl) ⟨rfl, rfl⟩) (fun g ⟨hb, hg⟩ => ?_) (fun g ⟨hb, hg⟩ => sm_next ?_)) fun g hg => ?_)
  · subst hg
    have hv : v = 0 := of_decide_eq_true hb.symm
    refine sm_newL (by decide) (am_cons (Ra := fun d g => ∃ (s : El) (j : Nat), StopOk s ∧ j ≤ 12 ∧ d = dE s ∧ g.length = 6 ∧ g = [.own (Bx row j), .val (dE (.gap l)), .val (dE (.lens p o)), g.getD 3 .no, .val (.int v), .no]) (xm_box (i := 0) rfl ad_nil ⟨row, k + 1, rfl, rfl, by omega, fun s j hs hj => ⟨s, j, hs, by omega, rfl, rfl, rfl⟩⟩) fun d g ⟨s2, j, hs2, hj, e, hlen, hg⟩ => ?_)
    subst e
    rw [hg]
    refine am_cons (Ra := fun d g2 => ∃ m, AfoOk m ∧ d = dE (.afocal m) ∧ g2 = [.own (Bx row (j + 1)), .val (dE (.gap l)), .val (dE (.lens p o)), g.getD 3 .no, .val (.int v), .no]) (xm_tup (am_cons (Ra := fun d g2 => d = .str "afocal" ∧ g2 = [.own (Bx row j), .val (dE (.gap l)), .val (dE (.lens p o)), g.getD 3 .no, .val (.int v), .no]) (xm_of (x_str rfl) ⟨rfl, rfl⟩) fun d g2 ⟨e, hg2⟩ => ?_)) fun d g2 ⟨m, hm, e, hg2⟩ => ?_
    · subst e hg2
      refine am_cons (Ra := fun d g2 => ∃ m, AfoOk m ∧ d = dQ m ∧ g2 = [.own (Bx row (j + 1)), .val (dE (.gap l)), .val (dE (.lens p o)), g.getD 3 .no, .val (.int v), .no]) (xm_pick (ds := [dQ (Rat.divInt 2 1), dQ (Rat.divInt (-1) 1), dQ (Rat.divInt 1 2)]) (m := 3) (Xd.to (xd_lst (ad_cons (xd_tup (ad_cons (x_int rfl) (ad_cons (x_int rfl) ad_nil)) (Nat.le_of_ble_eq_true rfl) rfl) (ad_cons (xd_tup (ad_cons (xd_neg (x_int rfl)) (ad_cons (x_int rfl) ad_nil)) (Nat.le_of_ble_eq_true rfl) rfl) (ad_cons (xd_tup (ad_cons (x_int rfl) (ad_cons (x_int rfl) ad_nil)) (Nat.le_of_ble_eq_true rfl) rfl) ad_nil))) (Nat.le_of_ble_eq_true rfl) rfl) rfl) (xm_draw (te := fun _ _ _ => True) (i := 0) rfl (by decide) (by omega) fun v h0 h1 => ⟨v, rfl, h0, h1, rfl⟩) rfl fun d hd => ?_) fun d g3 ⟨m, hm, e, hg3⟩ => ?_
      · simp only [List.mem_cons, List.not_mem_nil, or_false] at hd
        rcases hd with rfl | rfl | rfl
        · exact ⟨_, .inl rfl, rfl, rfl⟩
        · exact ⟨_, .inr (.inl rfl), rfl, rfl⟩
        · exact ⟨_, .inr (.inr rfl), rfl, rfl⟩
      · subst e hg3
        exact am_nil ⟨Nat.le_of_ble_eq_true rfl, m, hm, rfl, rfl⟩
    · subst e hg2
      exact am_nil ⟨Nat.le_of_ble_eq_true rfl, s2, [.afocal m], j + 1, hs2, fun _ _ => .inr (.inr (.inl ⟨m, hm, rfl⟩)), fun h => by omega, by omega, rfl⟩
  · exact ⟨s, [.gap l, .lens p o], k + 1, hs, fun _ _ => .inl ⟨l, p, o, hl, hp, ho, rfl⟩, fun _ => rfl, by omega, hg⟩
  obtain ⟨s3, c3, k3, hs3, hc3, hc3', hk3, rfl⟩ := hg
  refine sm_seq (Sxm.monoN (N := fun g => ∃ (s : El) (c : List El) (k : Nat), StopOk s ∧ (v ≠ 2 → CoreOk c) ∧ (v = 2 → c = [.gap l, .lens p o]) ∧ k ≤ 40 ∧ g = [.own (Bx row k), .val (dE (.gap l)), .val (dE (.lens p o)), .own ((s :: c).map dE), .val (.int v), .no]) (sm_if (P := fun b g => b = decide (v = 1) ∧ g = [.own (Bx row k3), .val (dE (.gap l)), .val (dE (.lens p o)), .own ((s3 :: c3).map dE), .val (.int v), .no]) (tm_of (td_test (xd_op od_eqI (x_var rfl rfl) (x_int rfl) ⟨_, _, rfl, rfl, rfl⟩) rfl) ⟨rfl, rfl⟩) (fun g ⟨hb, hg⟩ => ?_) (fun g ⟨hb, hg⟩ => sm_next ?_)) fun g hg => ?_)
  · subst hg
    have hv : v = 1 := of_decide_eq_true hb.symm
    refine sm_newL (by decide) (am_cons (Ra := fun d g => ∃ (s : El) (j : Nat), StopOk s ∧ j ≤ 40 ∧ d = dE s ∧ g = [.own (Bx row j), .val (dE (.gap l)), .val (dE (.lens p o)), g.getD 3 .no, .val (.int v), .no]) (xm_box (i := 0) rfl ad_nil ⟨row, k3, rfl, rfl, by omega, fun s j hs hj => ⟨s, j, hs, by omega, rfl, rfl⟩⟩) fun d g ⟨s2, j, hs2, hj, e, hg⟩ => ?_)
    subst e
    rw [hg]
    exact am_of (ds := [dE (.gap l)]) (ad_cons (x_var rfl rfl) ad_nil) ⟨Nat.le_of_ble_eq_true rfl, s2, [.gap l], j, hs2, fun _ => .inr (.inr (.inr ⟨l, hl, rfl⟩)), fun h => by omega, hj, rfl⟩
  · have hv : v ≠ 1 := of_decide_eq_false hb.symm
    exact ⟨s3, c3, k3, hs3, hc3 hv, hc3', by omega, hg⟩
  obtain ⟨s4, c4, k4, hs4, hc4, hc4', hk4, rfl⟩ := hg
  have hc4l : c4.length ≤ 3 := by
    by_cases h2 : v = 2
    · rw [hc4' h2]
      exact Nat.le_of_ble_eq_true rfl
    · rcases hc4 h2 with ⟨_, _, _, _, _, _, rfl⟩ | ⟨_, _, _, _, _, _, _, _, rfl⟩ | ⟨_, _, rfl⟩ | ⟨_, _, rfl⟩ <;> simp
  refine sm_seq (Sxm.monoN (N := fun g => ∃ (s : El) (c : List El) (k : Nat), StopOk s ∧ CoreOk c ∧ k ≤ 50 ∧ g = [.own (Bx row k), .val (dE (.gap l)), .val (dE (.lens p o)), .own ((s :: c).map dE), .val (.int v), .no]) (sm_if (P := fun b g => b = decide (v = 2) ∧ g = [.own (Bx row k4), .val (dE (.gap l)), .val (dE (.lens p o)), .own ((s4 :: c4).map dE), .val (.int v), .no]) (tm_of (td_test (xd_op od_eqI (x_var rfl rfl) (x_int rfl) ⟨_, _, rfl, rfl, rfl⟩) rfl) ⟨rfl, rfl⟩) (fun g ⟨hb, hg⟩ => ?_) (fun g ⟨hb, hg⟩ => sm_next ?_)) fun g hg => ?_)
  · subst hg
    have hv : v = 2 := of_decide_eq_true hb.symm
    have hc := hc4' hv
    subst hc
    refine sm_app (i := 3) rfl (xm_tup (am_cons (Ra := fun d g => d = .str "prism" ∧ g = [.own (Bx row k4), .val (dE (.gap l)), .val (dE (.lens p o)), .own (([s4, .gap l, .lens p o] : List El).map dE), .val (.int v), .no]) (xm_of (x_str rfl) ⟨rfl, rfl⟩) fun d g ⟨e, hg⟩ => ?_))
    subst e hg
    refine am_cons (Ra := fun d g => ∃ (f : Rat) (j : Nat), FrOk f ∧ j ≤ 50 ∧ d = dQ f ∧ g = [.own (Bx row j), .val (dE (.gap l)), .val (dE (.lens p o)), .own (([s4, .gap l, .lens p o] : List El).map dE), .val (.int v), .no]) (xm_box (i := 0) rfl ad_nil ⟨row, k4, rfl, rfl, by omega, fun f j hf hj => ⟨f, j, hf, by omega, rfl, rfl⟩⟩) fun d g ⟨f, j, hf, hj, e, hg⟩ => ?_
    subst e hg
    exact am_nil ⟨Nat.le_of_ble_eq_true rfl, _, rfl, by show 3 < 100000; decide, s4, [.gap l, .lens p o, .prism f], j, hs4, .inr (.inl ⟨l, p, o, f, hl, hp, ho, hf, rfl⟩), hj, rfl⟩
  · have hv : v ≠ 2 := of_decide_eq_false hb.symm
    exact ⟨s4, c4, k4, hs4, hc4 hv, by omega, hg⟩
  obtain ⟨s5, c5, k5, hs5, hc5, hk5, rfl⟩ := hg
  have hc5l : c5.length ≤ 3 := by
    rcases hc5 with ⟨_, _, _, _, _, _, rfl⟩ | ⟨_, _, _, _, _, _, _, _, rfl⟩ | ⟨_, _, rfl⟩ | ⟨_, _, rfl⟩ <;> simp
  -- a second stop
  refine sm_seq (Sxm.monoN (N := fun g => ∃ (ss : List El) (k : Nat), (ss = [] ∨ ∃ s', StopOk s' ∧ ss = [s']) ∧ k ≤ 100 ∧ g = [.own (Bx row k), .val (dE (.gap l)), .val (dE (.lens p o)), .own ((s5 :: c5 ++ ss).map dE), .val (.int v), .no]) (sm_if (P := fun b g => g = [.own (Bx row (k5 + 1)), .val (dE (.gap l)), .val (dE (.lens p o)), .own ((s5 :: c5).map dE), .val (.int v), .no]) (tm_test (xm_op (Ra := fun d g => ∃ x : Int, d = .int x ∧ g = [.own (Bx row (k5 + 1)), .val (dE (.gap l)), .val (dE (.lens p o)), .own ((s5 :: c5).map dE), .val (.int v), .no]) od_eqI (xm_draw (te := fun _ _ _ => True) (i := 0) rfl (by decide) (by omega) fun x _ _ => ⟨x, rfl, rfl⟩) fun d g ⟨x, e, hg⟩ => xm_of (x_int rfl) ⟨x, 0, e, rfl, _, rfl, hg⟩)) (fun g hg => ?_) (fun g hg => sm_next ?_)) fun g hg => ?_)
  · subst hg
    refine sm_app (i := 3) rfl (xm_box (i := 0) rfl ad_nil ⟨row, k5 + 1, rfl, rfl, by omega, fun s' j hs' hj => ⟨_, rfl, by rw [List.length_map, List.length_cons]; omega, [s'], j, .inr ⟨s', hs', rfl⟩, by omega, ?_⟩⟩)
    rw [List.map_append]
    rfl
  · exact ⟨[], k5 + 1, .inl rfl, by omega, by rw [List.append_nil]; exact hg⟩
  obtain ⟨ss, k6, hss, hk6, rfl⟩ := hg
  have hssl : ss.length ≤ 1 := by rcases hss with rfl | ⟨_, _, rfl⟩ <;> simp
  refine sm_show (i := 3) rfl ?_
  try simp only [entG, setG, List.map_cons, List.map_nil, List.cons_append, List.nil_append, List.length_cons, List.length_nil, Nat.reduceAdd, Nat.reduceSub, List.replicate_succ, List.replicate_zero, List.set_cons_zero, List.set_cons_succ]
  have cav : Cav (s5 :: c5 ++ ss) := by
    rcases hss with rfl | ⟨s', hs', rfl⟩
    · exact ⟨c5, hc5, .inl ⟨s5, hs5, by rw [List.append_nil]⟩⟩
    · exact ⟨c5, hc5, .inr (.inl ⟨s5, s', hs5, hs', rfl⟩)⟩
  -- or stops taken away
  refine sm_when (P := fun b g => g = [.own (Bx row (k6 + 1)), .val (dE (.gap l)), .val (dE (.lens p o)), .val (dT (s5 :: c5 ++ ss)), .val (.int v), .no]) (tm_test (xm_op (Ra := fun d g => ∃ x : Int, d = .int x ∧ g = [.own (Bx row (k6 + 1)), .val (dE (.gap l)), .val (dE (.lens p o)), .val (dT (s5 :: c5 ++ ss)), .val (.int v), .no]) od_eqI (xm_draw (te := fun _ _ _ => True) (i := 0) rfl (by decide) (by omega) fun x _ _ => ⟨x, rfl, rfl⟩) fun d g ⟨x, e, hg⟩ => xm_of (x_int rfl) ⟨x, 0, e, rfl, _, rfl, hg⟩)) (fun g hg => ?_) (fun g hg => ?_)
  · subst hg
    refine sm_asg (by decide) (xm_of (d := dT (c5 ++ [.stop (some (Rat.divInt (-4) 1)) (some (Rat.divInt 4 1))])) (xd_op od_catL (x_lc (R := Eq (.list (c5.map dE))) (ixd_list (ds := (s5 :: c5 ++ ss).map dE) (x_var rfl rfl)) tg_name (by decide) fun ds e => ?_) (Xd.to (xd_lst (ad_cons (xd_tup (ad_cons (x_str rfl) (ad_cons (xd_tup (ad_cons (xd_neg (x_int rfl)) (ad_cons (x_int rfl) ad_nil)) (Nat.le_of_ble_eq_true rfl) rfl) (ad_cons (xd_tup (ad_cons (x_int rfl) (ad_cons (x_int rfl) ad_nil)) (Nat.le_of_ble_eq_true rfl) rfl) ad_nil))) (Nat.le_of_ble_eq_true rfl) rfl) ad_nil) (Nat.le_of_ble_eq_true rfl) rfl) (show _ = PyData.list [dE (.stop (some (Rat.divInt (-4) 1)) (some (Rat.divInt 4 1)))] from rfl)) ⟨_, _, rfl, rfl, by rw [List.length_map]; simp only [List.length_cons, List.length_nil]; omega, by unfold dT; rw [List.map_append]; rfl⟩) ?_)
    · subst e
      refine ⟨by rw [List.length_map]; simp only [List.length_append, List.length_cons]; omega, fun pre acc => ∃ i, pre = ((s5 :: c5 ++ ss).map dE).take i ∧ i ≤ (s5 :: c5 ++ ss).length ∧ acc = (((s5 :: c5 ++ ss).take i).filter nonStop).map dE, ⟨0, rfl, Nat.zero_le _, rfl⟩, fun i d acc hd ha => ?_, fun rs h => ?_⟩
      · obtain ⟨e, ee, rfl⟩ := gmapE hd
        obtain ⟨j, hj, hj2, rfl⟩ := ha
        have hi2 : i < (s5 :: c5 ++ ss).length := (List.getElem?_eq_some_iff.mp ee).1
        have ej : j = i := by
          have := congrArg List.length hj
          rw [List.length_take, List.length_take, List.length_map] at this
          omega
        subst ej
        refine ⟨_, rfl, fun b => b = nonStop e, ?_, fun hb => (show Xd K cs _ _ (dE e) from x_var rfl rfl).mono fun z ez => ⟨j + 1, rfl, hi2, ?_⟩, fun hb => ⟨j + 1, rfl, hi2, ?_⟩⟩
        · cases e with
          | gap q => exact (show Td K cs _ _ _ from td_test (xd_op od_neS (xd_op od_ixT (x_var (d := dE (.gap q)) rfl rfl) (x_int rfl) ⟨_, _, _, rfl, rfl, rfl, rfl⟩) (x_str rfl) ⟨_, _, rfl, rfl, rfl⟩) rfl).mono fun b hb => hb.symm.trans (show (!decide (("gap" : Str) = "stop")) = true by decide)
          | lens q r => exact (show Td K cs _ _ _ from td_test (xd_op od_neS (xd_op od_ixT (x_var (d := dE (.lens q r)) rfl rfl) (x_int rfl) ⟨_, _, _, rfl, rfl, rfl, rfl⟩) (x_str rfl) ⟨_, _, rfl, rfl, rfl⟩) rfl).mono fun b hb => hb.symm.trans (show (!decide (("lens" : Str) = "stop")) = true by decide)
          | prism q => exact (show Td K cs _ _ _ from td_test (xd_op od_neS (xd_op od_ixT (x_var (d := dE (.prism q)) rfl rfl) (x_int rfl) ⟨_, _, _, rfl, rfl, rfl, rfl⟩) (x_str rfl) ⟨_, _, rfl, rfl, rfl⟩) rfl).mono fun b hb => hb.symm.trans (show (!decide (("prism" : Str) = "stop")) = true by decide)
          | afocal q => exact (show Td K cs _ _ _ from td_test (xd_op od_neS (xd_op od_ixT (x_var (d := dE (.afocal q)) rfl rfl) (x_int rfl) ⟨_, _, _, rfl, rfl, rfl, rfl⟩) (x_str rfl) ⟨_, _, rfl, rfl, rfl⟩) rfl).mono fun b hb => hb.symm.trans (show (!decide (("afocal" : Str) = "stop")) = true by decide)
          | stop q r => exact (show Td K cs _ _ _ from td_test (xd_op od_neS (xd_op od_ixT (x_var (d := dE (.stop q r)) rfl rfl) (x_int rfl) ⟨_, _, _, rfl, rfl, rfl, rfl⟩) (x_str rfl) ⟨_, _, rfl, rfl, rfl⟩) rfl).mono fun b hb => hb.symm.trans (show (!decide (("stop" : Str) = "stop")) = false by decide)
        · rw [take_snoc ee, List.filter_append, List.map_append, List.filter_cons, if_pos hb.symm, ← ez]
          rfl
        · rw [take_snoc ee, List.filter_append, List.map_append, List.filter_cons, if_neg (by rw [← hb]; decide)]
          show _ = _ ++ []
          rw [List.append_nil]
      · obtain ⟨i, hi, hi2, rfl⟩ := h
        have ei : i = (s5 :: c5 ++ ss).length := by
          have := congrArg List.length hi
          rw [List.length_take, List.length_map] at this
          omega
        subst ei
        rw [List.take_length, core_filter hs5 hc5 hss]
    · try simp only [entG, setG, List.map_cons, List.map_nil, List.cons_append, List.nil_append, List.length_cons, List.length_nil, Nat.reduceAdd, Nat.reduceSub, List.replicate_succ, List.replicate_zero, List.set_cons_zero, List.set_cons_succ]
      exact sm_ret (xm_of (x_var rfl rfl) ⟨_, rfl, hR _ (k6 + 1) ⟨c5, hc5, .inr (.inr rfl)⟩ (by omega)⟩)
  · subst hg
    exact sm_ret (xm_of (x_var rfl rfl) ⟨_, rfl, hR _ (k6 + 1) cav (by omega)⟩)
end Rt
set_option Elab.async false
set_option linter.all false
set_option maxRecDepth 100000
set_option maxHeartbeats 4000000
set_option exponentiation.threshold 100000
/-! The walk, part 15: the box, the law. -/
namespace Rt
open PySem PySem.Spec PyProof.Rows L2 GxR Gx RZ
variable {P : Program} {w : World} {K : PySem.W.Frag} {mg : Str → Option Value} {base : Heap} {cs : List Addr}
def F__law_box (K : PySem.W.Frag) (cs : List Addr) : Sp := fun vs H Q _ => ∃ (B : Hp) (l : Addr) (ns : List Int), vs = [.ref l, .int 0, .int 40] ∧ Gr B H ∧ (∀ P ∈ cs, TabG B P) ∧ SqL K H l (ns.map V.int) ∧
  ∀ (b r : Addr) (row : List Int) (B' H' : Hp), Stp B H B' H' → B' b = none → H b = none → H' b = some (.lst [.ref r, .int 0]) → Dq K B' (.ref r) (.list (row.map PyData.int)) → Q (.ref b) H'
theorem len__law_box {vs : List V} {H : Hp} {Q : VK} {E : XK} (h : F__law_box K cs vs H Q E) : vs.length = 3 := by
  obtain ⟨B, l, ns, rfl, _⟩ := h
  rfl
abbrev N__law_box : List Str := ["_law_script", "_law_first", "_law_last", "_law_row_here", "_law_k"]
theorem sc__law_box : FnScope N__law_box ["_law_script", "_law_first", "_law_last"] (defScope (topS 83)) := ⟨rfl, rfl, rfl, by decide +kernel, rfl, by decide +kernel, by decide +kernel⟩
theorem ok__law_box (T : Tc P w K mg base cs) : GoodS P w K mg base "_law_box" ["_law_script", "_law_first", "_law_last"] 2 (F__law_box K cs) := by
  obtain ⟨f, c, fd, D0, m0, t0⟩ := T.fn 65 _ rfl
  obtain ⟨f__law_row, d__law_row, m__law_row, k__law_row, b__law_row, G__law_row⟩ := ok__law_row T
  obtain ⟨f__law_cell, d__law_cell, m__law_cell, k__law_cell, b__law_cell, G__law_cell⟩ := ok__law_cell T
  have z_range := T.fr "range" (by decide)
  refine ⟨f, fd, m0, D0.kp, D0.funD.bindsN (fun _ _ _ _ _ _ us hl => match us, hl with | [_, _, _], _ => rfl), D0.ok sc__law_box (fun vs H Q E h => len__law_box h) (fun A outer s H vs Q E hr h => ⟨_, (pss_cons (ps_set (i := 3) sc__law_box.nd rfl (.inl rfl) (pe_lst pa_nil))
      (pss_cons (ps_for PassesOwn.never rfl (pi_range2 rfl z_range (pa_cons (pv 1) (pa_cons (pv 2) pa_nil))) (pg_name (i := 4) sc__law_box.nd rfl (.inl rfl)) (pss_one (ps_set (i := 3) sc__law_box.nd rfl (.inl rfl) (pe_op op_catLL (pv 3) (pe_call G__law_row (hr.mono (by decide)) rfl m__law_row k__law_row b__law_row .nil pass0 (pa_cons (pe_call G__law_cell (hr.mono (by decide)) rfl m__law_cell k__law_cell b__law_cell .nil pass0 (pa_cons (pv 0) (pa_cons (pv 4) pa_nil))) (pa_cons (pv 4) (pa_cons pe_int pa_nil))))))))
      (pss_one (ps_ret (pe_lst (pa_cons (pv 3) (pa_cons pe_int pa_nil))))))), ?_⟩)⟩
  obtain ⟨B, l, ns, rfl, g, tb, hs, q⟩ := h
  refine ⟨szl (by simp), fun p hp => ?_⟩
  have s0 : Stp B H (upd B p (.lst [])) (upd H p (.lst [])) := Stp.new g hp
  refine ⟨_, rfl, _, rfl, 0, 40, rfl, by decide, ?_⟩
  refine ⟨fun i m σ H' => i + m = 40 ∧ ∃ (B' : Hp) (r : Addr) (row : List Int) (kv : Option V), Stp B H B' H' ∧ σ = [some (.ref l), some (.int 0), some (.int 40), some (.ref r), kv] ∧ Dq K B' (.ref r) (.list (row.map PyData.int)) ∧ row.length ≤ 60 * i, ⟨40, rfl, _, p, [], none, s0, rfl, .lst upd_same .nil, Nat.le_refl _⟩, ?_⟩
  rintro i m σ H' ⟨him, B', r, row, kv, st, rfl, dq, hl⟩
  by_cases hlt : i < 40
  · refine .inr ⟨hlt, fun σ' H'' => (i + 1) + (m - 1) = 40 ∧ ∃ (B' : Hp) (r : Addr) (row : List Int) (kv : Option V), Stp B H B' H'' ∧ σ' = [some (.ref l), some (.int 0), some (.int 40), some (.ref r), kv] ∧ Dq K B' (.ref r) (.list (row.map PyData.int)) ∧ row.length ≤ 60 * (i + 1), fun σ' H'' z => ⟨m - 1, by omega, z⟩, ?_⟩
    rintro x H'' ⟨rfl, rfl⟩
    refine ⟨_, rfl, _, rfl, _, rfl, l, ns, i, ?_, st.h.seqL hs, ?_⟩
    · exact congrArg (fun t : Int => [V.ref l, V.int t]) (Int.zero_add (i : Int))
    refine ⟨_, rfl, B', [.int (cellOf ns i), .int (0 + (i : Int)), .int 12], fun d => ∃ row2 : List Int, row2.length ≤ 60 ∧ d = .list (row2.map PyData.int), st.v, fun P hP => st.b.tab (tb P hP), ?_, ⟨_, _, rfl, ?_, fun row2 h2 => ⟨row2, h2, rfl⟩⟩, fun v B2 H2 d st2 dv hd => ?_⟩
    · exact .cons (.int _) (.cons (.int _) (.cons (.int _) .nil))
    · have : (2 : Nat) ^ 62 = 4611686018427387904 := by decide
      omega
    obtain ⟨row2, h2, rfl⟩ := hd
    obtain ⟨a1, xs, ea, hx, hxa⟩ := dp_list (st2.b.dp _ _ dq)
    obtain ⟨a2, ys, rfl, hy, hya⟩ := dp_list dv
    cases ea
    have l1 := hxa.length
    have l2 := hya.length
    rw [List.length_map] at l1 l2
    refine ⟨r, a2, xs, ys, rfl, rfl, SqL.of (st2.v.lst hx), SqL.of (st2.v.lst hy), szl (by omega), fun p2 hp2 => ?_⟩
    have st3 := (st.trans st2).trans (Stp.new (o := .lst (xs ++ ys)) st2.v hp2)
    refine ⟨by omega, upd B2 p2 (.lst (xs ++ ys)), p2, row ++ row2, _, st3, rfl, ?_, ?_⟩
    · rw [List.map_append]
      exact .lst upd_same ((Gr.new (st2.v.none hp2)).dpA _ _ (hxa.app hya))
    · rw [List.length_append]
      omega
  · have e : i = 40 := by omega
    subst e
    refine .inl ⟨Nat.le_refl _, ?_⟩
    refine ⟨_, rfl, szl (by simp), fun p2 hp2 => ?_⟩
    exact q p2 r row B' _ (st.hide hp2) (st.v.none hp2) (st.h.none hp2) upd_same dq
end Rt
set_option Elab.async false
set_option linter.all false
set_option maxRecDepth 100000
set_option maxHeartbeats 4000000
set_option exponentiation.threshold 100000
/-! The walk, part 16: the law. -/
namespace Rt
open PySem PySem.Spec PyProof.Rows L2 GxR Gx RZ
section
variable {K : PySem.W.Frag} {cs : List Addr} {Γ : Gm} {N : Gm → Prop} {R : D → Prop} {ta tb te : TE}
/-- x = a + b: a new list that the def goes on to fill -/
theorem s_catOwn {i : Nat} {Ra : D → Gm → Prop} (ha : Exm K cs ta Γ Ra) (hb : ∀ d g, Ra d g → Ex K cs tb g (fun e => ∃ ds es, d = .list ds ∧ e = .list es ∧ ds.length + es.length ≤ 100000 ∧ N (g.set i (.own (ds ++ es))))) : Sx K cs (tAsg (tOp (rCatL K) ta tb) (gName i)) Γ N R := fun B0 H0 σ B H st r E q _ =>
  ha B0 H0 σ B H st r _ fun x B1 H1 d g s1 g1 r1 dx rd => hb d g rd H0 σ B1 H1 r1 s1.v _ fun y B2 H2 e st2 dy ⟨ds, es, e1, e2, hl, n⟩ => by
    subst e1 e2
    obtain ⟨a, xs, rfl, hx, hxa⟩ := dp_list (st2.b.dp _ _ dx)
    obtain ⟨b, ys, rfl, hy, hya⟩ := dp_list dy
    have l1 := hxa.length
    have l2 := hya.length
    have s2 := s1.trans st2
    have r2 := r1.step st2
    refine ⟨a, b, xs, ys, rfl, rfl, SqL.of (st2.v.lst hx), SqL.of (st2.v.lst hy), szl (by omega), fun p hp => ?_⟩
    have r3 : Rs K cs H0 σ B2 (upd H2 p (.lst (xs ++ ys))) g := by
      refine ⟨r2.len, fun j s x h1 h2 => ?_, r2.sep, r2.tab⟩
      have z := r2.sl j s x h1 h2
      cases s with
      | no => trivial
      | val d => exact z
      | own es =>
        obtain ⟨a, vs, e1, e2, e3, e4, e5⟩ := z
        exact ⟨a, vs, e1, e2, e3, by rw [upd_ne (ne_of_none e4 hp)]; exact e4, e5⟩
    refine q _ B2 (upd H2 p (.lst (xs ++ ys))) _ (s2.hide hp) (setOwn r3 (s2.h.none hp) (s2.v.none hp) upd_same (hxa.app hya) fun j es hj h1 h2 => ?_) n
    obtain ⟨a, vs, e1, e2, e3, e4, e5⟩ := r2.own h1
    rw [e1] at h2
    have e : a = p := V.ref.inj (Option.some.inj (Option.some.inj h2))
    rw [e, hp] at e4
    cases e4
theorem od_notB : OpD K rNotB fun d e R => ∃ a b : Bool, d = .bool a ∧ e = .bool b ∧ R (.bool (!decide (a = b))) := fun B H x y d e R v h1 h2 p Q q => by
  obtain ⟨a, b, rfl, rfl, k⟩ := p
  exact ⟨a, b, dp_bl h1, dp_bl h2, q _ B H _ (.refl v) (.bl _) k⟩
end
variable {P : Program} {w : World} {K : PySem.W.Frag} {mg : Str → Option Value} {base : Heap} {cs : List Addr}
/-- what the law asks of one ray -/
def RayLaw (t : List El) (r : Rat × Rat) : Prop := (∀ k, k < 6 → RayOk t ((npow (tmap t) k).app r)) ∧ ∃ nf, StOk nf t r ∧ (exitR t r = none → staysB nf t r = false) ∧ (∀ r', exitR t r = some r' → ∃ nf', StOk nf' t r' ∧ staysB nf' t r' = staysB nf t r) ∧
  (∀ n, n ≤ 3 → HN t n → passN t r n = n → staysB nf t r = true) ∧ (∀ n, 0 < n → n ≤ 6 → npow (tmap t) n = Mp.one → staysB nf t r = decide (passN t r n = n)) ∧ (HN t 1 → exitR t r ≠ none → staysB nf t r = true)
/-- what is to be known of a drawn train -/
structure CavOk (t : List El) : Prop where
  hn : HnOk t 3
  unit : ∀ x y : Rat, (x = 0 ∨ x = 1) → (y = 0 ∨ y = 1) → RayOk t (x, y)
  m4 : (tmap t).Sz 400
  pw : ∀ k, k ≤ 12 → (npow (tmap t) k).Sz 1000
  pl : ∀ h ∈ ppl t 2, h.Sz 50
  fx : ∀ r, fixR (tmap t) = some r → RC 110 r
  ray : ∀ r, RC 110 r → RayLaw t r
theorem FrOk.rc {p q : Rat} (hp : FrOk p) (hq : FrOk q) : RC 110 (p, q) := by
  obtain ⟨a, b, a1, a2, hb, rfl⟩ := hp
  obtain ⟨c, d, c1, c2, hd, rfl⟩ := hq
  have hbd : b * d ≠ 0 ∧ (b * d).natAbs ≤ 9 := by
    rcases hb with rfl | rfl | rfl <;> rcases hd with rfl | rfl | rfl <;> decide
  have had : (a * d).natAbs ≤ 12 := by
    rcases hd with rfl | rfl | rfl <;> omega
  have hcb : (b * c).natAbs ≤ 12 := by
    rcases hb with rfl | rfl | rfl <;> omega
  refine ⟨b * d, a * d, b * c, hbd.1, small_num (by omega) (by decide), small_num (by omega) (by decide), small_num (by omega) (by decide), ?_⟩
  rw [Rat.divInt_mul_right (by omega), Rat.divInt_mul_left (by omega)]
theorem RC.mono {n k : Nat} {r : Rat × Rat} (h : RC n r) (e : n ≤ k) : RC k r := by
  obtain ⟨d, x, y, h0, hd, hx, hy, rfl⟩ := h
  exact ⟨d, x, y, h0, Nat.lt_of_lt_of_le hd (pow_le e), Nat.lt_of_lt_of_le hx (pow_le e), Nat.lt_of_lt_of_le hy (pow_le e), rfl⟩
def F_law (K : PySem.W.Frag) (cs : List Addr) : Sp := fun vs H Q _ => ∃ (l : Addr) (ns : List Int), vs = [.ref l] ∧ (∀ P ∈ cs, TabG H P) ∧ SqL K H l (ns.map V.int) ∧ ∀ H', Q (.bl true) H'
theorem len_law {vs : List V} {H : Hp} {Q : VK} {E : XK} (h : F_law K cs vs H Q E) : vs.length = 1 := by
  obtain ⟨l, ns, rfl, _⟩ := h
  rfl
/-- a number of passes, or None -/
def dN : Option Nat → D
  | some n => .int (n : Int)
  | none => .none
theorem dOR_isN (o : Option (Rat × Rat)) : isN (dOR o) = o.isNone := by cases o <;> rfl
theorem law_go {u : TS} {Γ : Gm} {σ : L2.St} {B H B' H' : Hp} {Q : VK} {b : Addr} (key : Sx K cs u Γ (fun _ => False) (Eq (.bool true))) (st : Stp B H B' H') (g0 : Rs K cs H (σ.set 1 (some (.ref b))) B' H' Γ) (q : ∀ H', Q (.bl true) H') :
    gName 1 (.ref b) σ H' (Ends.nx { nx := u { nx := fun _ H' => Q .non H', rt := Q }, rt := Q }) :=
  key B H _ B' H' st g0 { nx := fun _ H' => Q .non H', rt := Q } (fun _ _ _ _ _ _ f => f.elim) fun v B2 H2 d st2 dv hd => by
    subst hd
    cases dp_bl dv
    exact q H2
abbrev N_law : List Str := ["_law_script", "_law_box_here", "_law_train", "_law_transfer", "_law_number", "_law_rays", "_law_ray_here", "_law_out_here", "_law_told", "_law_many"]
theorem sc_law : FnScope N_law ["_law_script"] (defScope (topS 102)) := ⟨rfl, rfl, rfl, by decide +kernel, rfl, by decide +kernel, by decide +kernel⟩
theorem ok_law (cav : ∀ t, Cav t → CavOk t) (T : Tc P w K mg base cs) {f c : Addr} {fd : FuncData} (D0 : Fd K "law" (topS 102) [] f c fd) : FnOk P w K mg base CX0 12 f fd ["_law_script"] (F_law K cs) := by
  obtain ⟨f_is_kept, d_is_kept, m_is_kept, k_is_kept, b_is_kept, G_is_kept⟩ := ok_is_kept T
  obtain ⟨f__law_same, d__law_same, m__law_same, k__law_same, b__law_same, G__law_same⟩ := ok__law_same T
  obtain ⟨f_passes, d_passes, m_passes, k_passes, b_passes, G_passes⟩ := ok_passes T
  obtain ⟨f_order_of, d_order_of, m_order_of, k_order_of, b_order_of, G_order_of⟩ := ok_order_of T
  obtain ⟨f_stays, d_stays, m_stays, k_stays, b_stays, G_stays⟩ := ok_stays T
  obtain ⟨f__law_exit, d__law_exit, m__law_exit, k__law_exit, b__law_exit, G__law_exit⟩ := ok__law_exit T
  obtain ⟨f_fixed_ray, d_fixed_ray, m_fixed_ray, k_fixed_ray, b_fixed_ray, G_fixed_ray⟩ := ok_fixed_ray T
  obtain ⟨f__law_ray, d__law_ray, m__law_ray, k__law_ray, b__law_ray, G__law_ray⟩ := ok__law_ray T
  obtain ⟨f_corners, d_corners, m_corners, k_corners, b_corners, G_corners⟩ := ok_corners T
  obtain ⟨f_pass_planes, d_pass_planes, m_pass_planes, k_pass_planes, b_pass_planes, G_pass_planes⟩ := ok_pass_planes T
  obtain ⟨f_settled, d_settled, m_settled, k_settled, b_settled, G_settled⟩ := ok_settled T
  obtain ⟨f__law_map, d__law_map, m__law_map, k__law_map, b__law_map, G__law_map⟩ := ok__law_map T
  obtain ⟨f__law_cavity, d__law_cavity, m__law_cavity, k__law_cavity, b__law_cavity, G__law_cavity⟩ := ok__law_cavity T
  obtain ⟨f__law_box, d__law_box, m__law_box, k__law_box, b__law_box, G__law_box⟩ := ok__law_box T
  refine D0.ok sc_law (fun vs H Q E h => len_law h) (fun A outer s H vs Q E hr h => ⟨_, (pss_cons (ps_set (i := 1) sc_law.nd rfl (.inl rfl) (pe_call G__law_box (hr.mono (by decide)) rfl m__law_box k__law_box b__law_box .nil pass0 (pa_cons (pv 0) (pa_cons pe_int (pa_cons pe_int pa_nil)))))
      (pss_cons (ps_set (i := 2) sc_law.nd rfl (.inl rfl) (pe_call G__law_cavity (hr.mono (by decide)) rfl m__law_cavity k__law_cavity b__law_cavity .nil pass0 (pa_cons (pv 1) pa_nil)))
      (pss_cons (ps_set (i := 3) sc_law.nd rfl (.inl rfl) (pe_call G__law_map (hr.mono (by decide)) rfl m__law_map k__law_map b__law_map .nil pass0 (pa_cons (pv 2) pa_nil)))
      (pss_cons (ps_set (i := 4) sc_law.nd rfl (.inl rfl) (pe_call G_settled (hr.mono (by decide)) rfl m_settled k_settled b_settled .nil pass0 (pa_cons (pv 2) (pa_cons pe_int pa_nil))))
      (pss_cons (ps_set (i := 5) sc_law.nd rfl (.inl rfl) (pe_op op_catLL (pe_lst (pa_cons (pe_call G__law_ray (hr.mono (by decide)) rfl m__law_ray k__law_ray b__law_ray .nil pass0 (pa_cons (pv 1) pa_nil)) (pa_cons (pe_call G__law_ray (hr.mono (by decide)) rfl m__law_ray k__law_ray b__law_ray .nil pass0 (pa_cons (pv 1) pa_nil)) pa_nil))) (pe_slice sl_list (pe_call G_corners (hr.mono (by decide)) rfl m_corners k_corners b_corners .nil pass0 (pa_cons (pe_call G_pass_planes (hr.mono (by decide)) rfl m_pass_planes k_pass_planes b_pass_planes .nil pass0 (pa_cons (pv 2) (pa_cons pe_int pa_nil))) pa_nil)) po_none (po_some pe_int))))
      (pss_cons (ps_if (pt_cmp (pc_notN (pe_call G_fixed_ray (hr.mono (by decide)) rfl m_fixed_ray k_fixed_ray b_fixed_ray .nil pass0 (pa_cons (pv 3) pa_nil)))) (pss_one (ps_expr (pe_bm PySem.F.plainAttrs_list PySem.F.slot_list_append PySem.F.type_list_append mt_append (pv 5) (pa_cons (pe_call G_fixed_ray (hr.mono (by decide)) rfl m_fixed_ray k_fixed_ray b_fixed_ray .nil pass0 (pa_cons (pv 3) pa_nil)) pa_nil)))) pss_nil)
      (pss_cons (ps_for PassesOwn.never rfl (pi_list (pv 5)) (pg_name (i := 6) sc_law.nd rfl (.inl rfl)) (pss_cons (ps_set (i := 7) sc_law.nd rfl (.inl rfl) (pe_call G__law_exit (hr.mono (by decide)) rfl m__law_exit k__law_exit b__law_exit .nil pass0 (pa_cons (pv 2) (pa_cons (pv 6) pa_nil))))
      (pss_cons (ps_set (i := 8) sc_law.nd rfl (.inl rfl) (pe_call G_stays (hr.mono (by decide)) rfl m_stays k_stays b_stays .nil pass0 (pa_cons (pv 2) (pa_cons (pv 6) pa_nil))))
      (pss_cons (ps_if (pt_not (pt_val (pe_call G__law_same (hr.mono (by decide)) rfl m__law_same k__law_same b__law_same .nil pass0 (pa_cons (pv 8) (pa_cons (pe_and (pe_cmp (pc_notN (pv 7))) (pe_one (pe_call G_stays (hr.mono (by decide)) rfl m_stays k_stays b_stays .nil pass0 (pa_cons (pv 2) (pa_cons (pv 7) pa_nil))))) pa_nil))))) (pss_one (ps_ret pe_bl)) pss_nil)
      (pss_cons (ps_if (PW.pt (pw_and (pt_cmp (pc_notN (pv 4))) (pw_and (pt_cmpR op_eq (pe_call G_passes (hr.mono (by decide)) rfl m_passes k_passes b_passes .nil pass0 (pa_cons (pv 2) (pa_cons (pv 6) (pa_cons (pv 4) pa_nil)))) (pv 4) (nomark _)) (pw_and1 (pt_cmpR op_notBl (pv 8) pe_bl (nomark _)))))) (pss_one (ps_ret pe_bl)) pss_nil)
      (pss_cons (ps_set (i := 9) sc_law.nd rfl (.inl rfl) (pe_call G_order_of (hr.mono (by decide)) rfl m_order_of k_order_of b_order_of .nil pass0 (pa_cons (pv 3) pa_nil)))
      (pss_cons (ps_if (PW.pt (pw_and (pt_cmp (pc_notN (pv 9))) (pw_and1 (pt_not (pt_val (pe_call G__law_same (hr.mono (by decide)) rfl m__law_same k__law_same b__law_same .nil pass0 (pa_cons (pv 8) (pa_cons (pe_cmpR op_eq (pe_call G_passes (hr.mono (by decide)) rfl m_passes k_passes b_passes .nil pass0 (pa_cons (pv 2) (pa_cons (pv 6) (pa_cons (pv 9) pa_nil)))) (pv 9) (nomark _)) pa_nil)))))))) (pss_one (ps_ret pe_bl)) pss_nil)
      (pss_one (ps_if (PW.pt (pw_and (pt_val (pe_call G_is_kept (hr.mono (by decide)) rfl m_is_kept k_is_kept b_is_kept .nil pass0 (pa_cons (pv 2) pa_nil))) (pw_and (pt_cmp (pc_notN (pv 7))) (pw_and1 (pt_cmpR op_notBl (pv 8) pe_bl (nomark _)))))) (pss_one (ps_ret pe_bl)) pss_nil)))))))))
      (pss_one (ps_ret pe_bl))))))))), ?_⟩)
  obtain ⟨l, ns, rfl, tb, hs, q⟩ := h
  refine ⟨_, rfl, H, l, ns, rfl, .refl H, tb, hs, fun b r row B' H' st hb hb0 hbs dq => ?_⟩
  have g0 : Rs K cs H ((L2.start N_law [V.ref l]).set 1 (some (.ref b))) B' H' [.no, .own (Bx row 0), .no, .no, .no, .no, .no, .no, .no, .no] := by
    refine ⟨rfl, fun i s x h1 h2 => ?_, fun i j ds es p hij h1 h2 => ?_, fun P hP => st.b.tab (tb P hP)⟩
    · match i, h1, h2 with
      | 0, h1, _ => cases h1; trivial
      | 1, h1, h2 =>
        cases h1
        cases h2
        exact ⟨b, _, rfl, hb0, hb, hbs, .cons dq (.cons (.int 0) .nil)⟩
      | 2, h1, _ => cases h1; trivial
      | 3, h1, _ => cases h1; trivial
      | 4, h1, _ => cases h1; trivial
      | 5, h1, _ => cases h1; trivial
      | 6, h1, _ => cases h1; trivial
      | 7, h1, _ => cases h1; trivial
      | 8, h1, _ => cases h1; trivial
      | 9, h1, _ => cases h1; trivial
      | n + 10, h1, _ => cases h1
    · have one : ∀ {k : Nat} {es : List D}, ([.no, .own (Bx row 0), .no, .no, .no, .no, .no, .no, .no, .no] : Gm)[k]? = some (.own es) → k = 1 := fun {k es} hk => by
        match k, hk with
        | 0, hk => cases hk
        | 1, _ => rfl
        | 2, hk => cases hk
        | 3, hk => cases hk
        | 4, hk => cases hk
        | 5, hk => cases hk
        | 6, hk => cases hk
        | 7, hk => cases hk
        | 8, hk => cases hk
        | 9, hk => cases hk
        | n + 10, hk => cases hk
      exact absurd ((one h1).trans (one h2).symm) hij
  refine law_go (B := H) ?_ st g0 q
  refine s_seq (s_asgm ((xm_box (R := fun d g => ∃ (t : List El) (k : Nat), Cav t ∧ k ≤ 1000 ∧ d = dT t ∧ g = [.no, .own (Bx row k), .no, .no, .no, .no, .no, .no, .no, .no]) (i := 1) rfl ad_nil ⟨row, rfl, rfl, fun t k ht hk => ⟨t, k, ht, hk, rfl, rfl⟩⟩).mono fun d g ⟨t, k, ht, hk, e, hg⟩ => ?_))
  subst e hg
  have ok := cav t ht
  try simp only [entG, setG, List.map_cons, List.map_nil, List.cons_append, List.nil_append, List.length_cons, List.length_nil, Nat.reduceAdd, Nat.reduceSub, List.replicate_succ, List.replicate_zero, List.set_cons_zero, List.set_cons_succ]
  refine sd_set (xd_call (ad_cons (x_var (d := dT t) rfl rfl) ad_nil) ⟨t, rfl, ok.unit, rfl⟩) ?_
  try simp only [entG, setG, List.map_cons, List.map_nil, List.cons_append, List.nil_append, List.length_cons, List.length_nil, Nat.reduceAdd, Nat.reduceSub, List.replicate_succ, List.replicate_zero, List.set_cons_zero, List.set_cons_succ]
  refine s_set (Ra := fun d => ∃ o : Option Nat, d = dN o ∧ ∀ n, o = some n → n ≤ 3 ∧ HN t n) (xd_call (ad_cons (x_var (d := dT t) rfl rfl) (ad_cons (x_int rfl) ad_nil)) ⟨t, 3, rfl, ok.hn, ⟨none, rfl, fun n e => by cases e⟩, fun n hn hN => ⟨some n, rfl, fun m e => by cases e; exact ⟨hn, hN⟩⟩⟩) fun d ⟨o, e, ho⟩ => ?_
  subst e
  try simp only [entG, setG, List.map_cons, List.map_nil, List.cons_append, List.nil_append, List.length_cons, List.length_nil, Nat.reduceAdd, Nat.reduceSub, List.replicate_succ, List.replicate_zero, List.set_cons_zero, List.set_cons_succ]
  -- the rays
  refine s_seq (s_catOwn (Ra := fun d g => ∃ (p1 p2 : Rat × Rat) (k : Nat), RC 110 p1 ∧ RC 110 p2 ∧ d = .list [dR p1, dR p2] ∧ g = [.no, .own (Bx row k), .val (dT t), .val (dM (tmap t)), .val (dN o), .no, .no, .no, .no, .no]) (xm_lst (am_cons (Ra := fun d g => ∃ (p : Rat × Rat) (k : Nat), RC 110 p ∧ k ≤ 1004 ∧ d = dR p ∧ g = [.no, .own (Bx row k), .val (dT t), .val (dM (tmap t)), .val (dN o), .no, .no, .no, .no, .no]) (xm_box (i := 1) rfl ad_nil ⟨row, k, rfl, rfl, by omega, fun p q j hp hq hj => ⟨(p, q), j, hp.rc hq, by omega, rfl, rfl⟩⟩) fun d g ⟨p1, k1, hp1, hk1, e, hg⟩ => ?_)) fun d g ⟨p1, p2, k2, h1, h2, e, hg⟩ => ?_)
  · subst e hg
    refine am_cons (Ra := fun d g => ∃ (p : Rat × Rat) (k : Nat), RC 110 p ∧ d = dR p ∧ g = [.no, .own (Bx row k), .val (dT t), .val (dM (tmap t)), .val (dN o), .no, .no, .no, .no, .no]) (xm_box (i := 1) rfl ad_nil ⟨row, k1, rfl, rfl, by omega, fun p q j hp hq hj => ⟨(p, q), j, hp.rc hq, rfl, rfl⟩⟩) fun d g ⟨p2, k2, hp2, e, hg⟩ => ?_
    subst e hg
    exact am_nil ⟨Nat.le_of_ble_eq_true rfl, p1, p2, k2, hp1, hp2, rfl, rfl⟩
  subst e hg
  have hpl : (ppl t 2).length ≤ 20 := by
    rw [ppl_len]
    have : 2 * (hplsN t t.length).length ≤ 2 * 5 := Nat.mul_le_mul_left 2 ok.hn.l
    omega
  refine x_slice (Ra := fun d => ∃ rs : List (Rat × Rat), d = dRs rs ∧ rs.length ≤ 1000 ∧ ∀ r ∈ rs, RC 110 r) (xd_call (ad_cons (xd_call (ad_cons (x_var (d := dT t) rfl rfl) (ad_cons (x_int rfl) ad_nil)) (sp_pass_planes (n := 2) (ok.hn.ok.mono (by decide)) rfl)) ad_nil) ⟨ppl t 2, 50, rfl, by decide, hpl, ok.pl, fun rs h1 h2 => ⟨rs, rfl, h1, fun r hr => (h2 r hr).mono (by decide)⟩⟩) (o_none (P := fun _ => True) trivial) (o_some (P := fun _ => True) (x_int (R := Eq (.int 6)) rfl) fun d e => ⟨_, e.symm, trivial⟩) fun d lo hi ⟨rs, e, hl, hrs⟩ _ _ => ?_
  subst e
  refine ⟨rs.map dR, rfl, ?_⟩
  obtain ⟨ys, ey, hy⟩ := cut_map dR rs lo hi
  have hyl : (ys.map dR).length ≤ 1000 := by
    rw [← ey]
    have := cutD_len (rs.map dR) lo hi
    rw [List.length_map] at this
    omega
  rw [ey]
  refine ⟨[dR p1, dR p2], ys.map dR, rfl, rfl, by simp only [List.length_cons, List.length_nil]; omega, ?_⟩
  have hall : ∀ r ∈ p1 :: p2 :: ys, RC 110 r := fun r hr => by
    rcases List.mem_cons.mp hr with rfl | hr
    · exact h1
    · rcases List.mem_cons.mp hr with rfl | hr
      · exact h2
      · exact hrs r (hy r hr)
  rw [List.length_map] at hyl
  show Sx K cs _ [.no, .own (Bx row k2), .val (dT t), .val (dM (tmap t)), .val (dN o), .own ((p1 :: p2 :: ys).map dR), .no, .no, .no, .no] _ _
  have hlen : (p1 :: p2 :: ys).length ≤ 1002 := by simp only [List.length_cons]; omega
  generalize p1 :: p2 :: ys = rays at hall hlen ⊢
  -- the fixed ray
  have hfx : Xd K cs (tCall (Pm K cs F_fixed_ray) [] E0 (tCons (tVar 3) tNil)) [.no, .own (Bx row k2), .val (dT t), .val (dM (tmap t)), .val (dN o), .own (rays.map dR), .no, .no, .no, .no] (dOR (fixR (tmap t))) := xd_call (ad_cons (x_var (d := dM (tmap t)) rfl rfl) ad_nil) (sp_fixed_ray ok.m4 rfl)
  refine s_seq (Sx.mono (N := fun g => ∃ rays : List (Rat × Rat), (∀ r ∈ rays, RC 110 r) ∧ rays.length ≤ 1003 ∧ g = [.no, .own (Bx row k2), .val (dT t), .val (dM (tmap t)), .val (dN o), .own (rays.map dR), .no, .no, .no, .no]) (sd_if (td_B (xd_notN hfx) rfl) (fun hc => ?_) (fun _ => s_next ⟨rays, hall, by omega, rfl⟩)) (fun g hg => ?_) (fun d h => h))
  · rw [dOR_isN] at hc
    cases hf : fixR (tmap t) with
    | none =>
      rw [hf] at hc
      cases hc
    | some r =>
      rw [hf] at hfx
      refine sd_app (i := 5) rfl (by rw [List.length_map]; omega) hfx ⟨rays ++ [r], fun x hx => ?_, by rw [List.length_append, List.length_singleton]; omega, by rw [List.map_append]; rfl⟩
      rcases List.mem_append.mp hx with z | z
      · exact hall x z
      · rw [List.mem_singleton.mp z]
        exact ok.fx r hf
  obtain ⟨rays, hall, hlen, rfl⟩ := hg
  refine s_show (i := 5) rfl ?_
  try simp only [entG, setG, List.map_cons, List.map_nil, List.cons_append, List.nil_append, List.length_cons, List.length_nil, Nat.reduceAdd, Nat.reduceSub, List.replicate_succ, List.replicate_zero, List.set_cons_zero, List.set_cons_succ]
  refine s_seq (sd_for (ixd_list (ds := rays.map dR) (x_var rfl rfl)) tg_name (fun i Γ => ∃ z1 z2 z3 z4 : Sl, Γ = [.no, .own (Bx row k2), .val (dT t), .val (dM (tmap t)), .val (dN o), .val (dRs rays), z1, z2, z3, z4]) ⟨_, _, _, _, rfl⟩ ?_ ?_)
  · rintro i d Γ' hd ⟨z1, z2, z3, z4, rfl⟩
    obtain ⟨r, er, rfl⟩ := gmapE hd
    obtain ⟨hro, nf, hst, c1, c2, c3, c4, c5⟩ := ok.ray r (hall r (List.mem_of_getElem? er))
    have hr0 : RayOk t r := by have := hro 0 (by decide); rw [show npow (tmap t) 0 = Mp.one from rfl, one_app] at this; exact this
    refine ⟨_, rfl, ?_⟩
    try simp only [entG, setG, List.map_cons, List.map_nil, List.cons_append, List.nil_append, List.length_cons, List.length_nil, Nat.reduceAdd, Nat.reduceSub, List.replicate_succ, List.replicate_zero, List.set_cons_zero, List.set_cons_succ]
    refine sd_set (xd_call (ad_cons (x_var (d := dT t) rfl rfl) (ad_cons (x_var (d := dR r) rfl rfl) ad_nil)) (sp_exit_ray hr0 rfl)) ?_
    try simp only [entG, setG, List.map_cons, List.map_nil, List.cons_append, List.nil_append, List.length_cons, List.length_nil, Nat.reduceAdd, Nat.reduceSub, List.replicate_succ, List.replicate_zero, List.set_cons_zero, List.set_cons_succ]
    refine sd_set (xd_call (ad_cons (x_var (d := dT t) rfl rfl) (ad_cons (x_var (d := dR r) rfl rfl) ad_nil)) (sp_stays hst rfl)) ?_
    try simp only [entG, setG, List.map_cons, List.map_nil, List.cons_append, List.nil_append, List.length_cons, List.length_nil, Nat.reduceAdd, Nat.reduceSub, List.replicate_succ, List.replicate_zero, List.set_cons_zero, List.set_cons_succ]
    generalize hout : exitR t r = out at c1 c2 c5 ⊢
    generalize staysB nf t r = told at c1 c2 c3 c4 c5 ⊢
    -- its exit
    have hsec : Xd K cs (tAndV (tNotN (tVar 7)) (tCall (Pm K cs F_stays) [] E0 (tCons (tVar 2) (tCons (tVar 7) tNil)))) [.no, .own (Bx row k2), .val (dT t), .val (dM (tmap t)), .val (dN o), .val (dRs rays), .val (dR r), .val (dOR out), .val (.bool told), z4] (.bool told) := by
      cases out with
      | none =>
        rw [c1 rfl]
        exact xd_andV (b := false) (xd_notN (x_var (d := .none) rfl rfl)) fun h => by cases h
      | some r' =>
        obtain ⟨nf', hst', e'⟩ := c2 r' rfl
        rw [← e']
        exact xd_andV (a := true) (xd_notN (x_var (d := dR r') rfl rfl)) fun _ => xd_call (ad_cons (x_var (d := dT t) rfl rfl) (ad_cons (x_var (d := dR r') rfl rfl) ad_nil)) (sp_stays hst' rfl)
    refine sd_when (td_not (td_B (xd_call (ad_cons (x_var (d := .bool told) rfl rfl) (ad_cons hsec ad_nil)) ⟨told, told, rfl, rfl⟩) rfl)) (fun h => by rw [beq_self_eq_true] at h; cases h) (fun _ => ?_)
    -- behind the settled number
    have hnot : ∀ z : Sl, Td K cs (tTest (tOp rNotB (tVar 8) (tC (.bl true)))) [.no, .own (Bx row k2), .val (dT t), .val (dM (tmap t)), .val (dN o), .val (dRs rays), .val (dR r), .val (dOR out), .val (.bool told), z] (!decide (told = true)) := fun z => td_test (xd_op od_notB (x_var (d := .bool told) rfl rfl) (x_bl rfl) ⟨_, _, rfl, rfl, rfl⟩) rfl
    refine sd_when (a := false) ?_ (fun h => by cases h) (fun _ => ?_)
    · cases o with
      | none => exact td_and (a := false) (b := false) (td_B (xd_notN (x_var (d := .none) rfl rfl)) rfl) fun h => by cases h
      | some n =>
        obtain ⟨hn3, hN⟩ := ho n rfl
        refine (td_and (a := true) (b := decide ((passN t r n : Int) = (n : Int)) && !decide (told = true)) (td_B (xd_notN (x_var (d := .int (n : Int)) rfl rfl)) rfl) fun _ => td_and (td_test (xd_op od_eqI (xd_call (ad_cons (x_var (d := dT t) rfl rfl) (ad_cons (x_var (d := dR r) rfl rfl) (ad_cons (x_var (d := .int (n : Int)) rfl rfl) ad_nil))) (sp_passes (fun k hk => hro k (by omega)) rfl)) (x_var (d := .int (n : Int)) rfl rfl) ⟨_, _, rfl, rfl, rfl⟩) rfl) fun _ => hnot _).mono fun b e => ?_
        subst e
        by_cases hp : passN t r n = n
        · rw [c3 n hn3 hN hp]
          simp
        · have : ¬ ((passN t r n : Int) = (n : Int)) := fun z => hp (by omega)
          simp [this]
    -- an order
    refine s_set (Ra := fun d => ∃ o : Option Nat, d = dN o ∧ ∀ n, o = some n → 0 < n ∧ n ≤ 6 ∧ npow (tmap t) n = Mp.one) (xd_call (ad_cons (x_var (d := dM (tmap t)) rfl rfl) ad_nil) ⟨_, rfl, ok.pw, ⟨none, rfl, fun n e => by cases e⟩, fun n h1 h2 h3 => ⟨some n, rfl, fun m e => by cases e; exact ⟨h1, h2, h3⟩⟩⟩) fun d ⟨o2, e, ho2⟩ => ?_
    subst e
    try simp only [entG, setG, List.map_cons, List.map_nil, List.cons_append, List.nil_append, List.length_cons, List.length_nil, Nat.reduceAdd, Nat.reduceSub, List.replicate_succ, List.replicate_zero, List.set_cons_zero, List.set_cons_succ]
    refine sd_when (a := false) ?_ (fun h => by cases h) (fun _ => ?_)
    · cases o2 with
      | none => exact td_and (a := false) (b := false) (td_B (xd_notN (x_var (d := .none) rfl rfl)) rfl) fun h => by cases h
      | some n =>
        obtain ⟨n0, n6, hp⟩ := ho2 n rfl
        refine (td_and (a := true) (b := !(told == decide ((passN t r n : Int) = (n : Int)))) (td_B (xd_notN (x_var (d := .int (n : Int)) rfl rfl)) rfl) fun _ => td_not (td_B (xd_call (ad_cons (x_var (d := .bool told) rfl rfl) (ad_cons (xd_op od_eqI (xd_call (ad_cons (x_var (d := dT t) rfl rfl) (ad_cons (x_var (d := dR r) rfl rfl) (ad_cons (x_var (d := .int (n : Int)) rfl rfl) ad_nil))) (sp_passes (fun k hk => hro k (by omega)) rfl)) (x_var (d := .int (n : Int)) rfl rfl) ⟨_, _, rfl, rfl, rfl⟩) ad_nil)) ⟨_, _, rfl, rfl⟩) rfl)).mono fun b e => ?_
        subst e
        have e1 : decide ((passN t r n : Int) = (n : Int)) = decide (passN t r n = n) := decide_eq_decide.mpr (by omega)
        rw [e1, c4 n n0 n6 hp, beq_self_eq_true]
        rfl
    -- kept
    refine s_if (P := fun b => b = false) ?_ (fun h => by cases h) (fun _ => s_next ⟨_, _, _, _, rfl⟩)
    refine t_and (Pa := fun b => b = true → HN t 1) (t_B (Ra := fun d => ∃ b : Bool, d = .bool b ∧ (b = true → HN t 1)) (xd_call (ad_cons (x_var (d := dT t) rfl rfl) ad_nil) ⟨t, rfl, ok.hn.mono (by decide), fun b hb => ⟨b, rfl, hb⟩⟩) fun d h => h) (fun h1 => ?_) (fun _ => rfl)
    cases out with
    | none => exact (td_and (a := false) (b := false) (td_B (xd_notN (x_var (d := .none) rfl rfl)) rfl) fun h => by cases h).mono fun b e => e.symm
    | some r' =>
      refine (td_and (a := true) (b := !decide (told = true)) (td_B (xd_notN (x_var (d := dR r') rfl rfl)) rfl) fun _ => hnot _).mono fun b e => ?_
      subst e
      rw [c5 (h1 rfl) (by simp)]
      rfl
  · rintro Γ' ⟨z1, z2, z3, z4, rfl⟩
    exact sd_ret (x_bl rfl) rfl
end Rt
set_option Elab.async false
set_option linter.all false
set_option maxRecDepth 100000
set_option maxHeartbeats 4000000
/-! The decision: below 0 for ever. -/
namespace Rt
def EllT (t : Rat) : Prop := ∃ p A : Int, t * (A : Rat) = (p : Rat) ∧ p % 2 = 1 ∧ A % 2 = 0 ∧ (4 : Rat) ≤ 9 * (4 - t * t)
def TrOk (t : Rat) : Prop := t = 2 ∨ t = -1 ∨ t = 0 ∨ t = 1 ∨ t = -2 ∨ EllT t ∨ 5 / 2 ≤ t ∨ t ≤ -(5 / 2)
theorem poly_iff {u : Nat → Rat} {c : Rat} (h : Par u c) (hc : c = u 2 - u 1 - (u 1 - u 0)) : polyB (u 0) (u 1) (u 2) = true ↔ ∀ k, u k ≤ 0 := by
  rw [par_iff h]
  unfold polyB
  rw [← hc]
  by_cases a : 0 < c ∨ 0 < u 0
  · rw [if_pos a]
    exact ⟨(fun z => by cases z), fun z => absurd a z.1⟩
  · rw [if_neg a]
    by_cases b : c = 0
    · rw [if_pos b, decide_eq_true_eq]
      exact ⟨fun z => ⟨a, fun _ => z, fun q => absurd b q⟩, fun z => z.2.1 b⟩
    · rw [if_neg b]
      by_cases d : u 1 - u 0 ≤ 0
      · rw [if_pos d]
        exact ⟨fun _ => ⟨a, fun q => absurd q b, fun _ q => absurd d (Rat.not_le.mpr q)⟩, fun _ => rfl⟩
      · rw [if_neg d, decide_eq_true_eq]
        exact ⟨fun z => ⟨a, fun q => absurd q b, fun _ _ => z⟩, fun z => z.2.2 b (Rat.not_le.mp d)⟩
theorem cyc_iff {e : Nat → Rat} {t b : Rat} {n : Nat} (hr : Rec e t) (hn : 0 < n) (hp : ∀ k, e (k + n) = e k) : cycB n (e 0) (e 1) t b = true ↔ ∀ k, e k ≤ b := by
  rw [period hn hp]
  unfold cycB
  rw [List.all_eq_true]
  constructor
  · intro h k hk
    have := h k (List.mem_range.mpr hk)
    rw [decide_eq_true_eq, ← rec_eq hr k] at this
    exact this
  · intro h k hk
    rw [decide_eq_true_eq, ← rec_eq hr k]
    exact h k (List.mem_range.mp hk)
theorem below_iff {u : Nat → Rat} {t c : Rat} (hu : ∀ k, u (k + 2) = t * u (k + 1) - u k + c) (ht : TrOk t) {n : Nat}
    (hend : t ≠ 2 → ¬ t * t < 4 → formQ (u 0 - midQ (u 0) (u 1) (u 2) t) (u 1 - midQ (u 0) (u 1) (u 2) t) t ≠ 0 → ¬ t < 0 → growEnd (-midQ (u 0) (u 1) (u 2) t) (esq t n (u 0 - midQ (u 0) (u 1) (u 2) t) (u 1 - midQ (u 0) (u 1) (u 2) t)) (esq t (n + 1) (u 0 - midQ (u 0) (u 1) (u 2) t) (u 1 - midQ (u 0) (u 1) (u 2) t))) :
    belowB n (u 0) (u 1) (u 2) t = true ↔ ∀ k, u k ≤ 0 := by
  have c0 : c = u 2 - t * u 1 + u 0 := by have := hu 0; grind
  unfold belowB
  by_cases t2 : t = 2
  · rw [if_pos t2]
    refine poly_iff (c := c) (fun k => ?_) (by rw [c0, t2]; grind)
    have := hu k
    rw [t2] at this
    grind
  rw [if_neg t2]
  have hend := hend t2
  have hm : midQ (u 0) (u 1) (u 2) t * (2 - t) = c := by
    unfold midQ
    rw [Rat.div_mul_cancel (by grind), c0]
  generalize midQ (u 0) (u 1) (u 2) t = m at hm hend ⊢
  -- about the middle
  have hr : Rec (fun k => u k - m) t := fun k => by
    have := hu k
    show u (k + 2) - m = t * (u (k + 1) - m) - (u k - m)
    grind
  have all : (∀ k, u k ≤ 0) ↔ ∀ k, u k - m ≤ -m := ⟨fun h k => by have := h k; grind, fun h k => by have := h k; grind⟩
  rw [all]
  have x0 : u 0 - m = (fun k => u k - m) 0 := rfl
  have x1 : u 1 - m = (fun k => u k - m) 1 := rfl
  rw [x0, x1] at hend ⊢
  show _ ↔ ∀ k, (fun k => u k - m) k ≤ -m
  generalize (fun k => u k - m) = e at hr hend ⊢
  generalize -m = b at hend ⊢
  by_cases h1 : t = -1
  · rw [if_pos h1]
    exact cyc_iff hr (by decide) (fun k => cyc3 (by rw [← h1]; exact hr) k)
  rw [if_neg h1]
  by_cases h2 : t = 0
  · rw [if_pos h2]
    exact cyc_iff hr (by decide) (fun k => cyc4 (by rw [← h2]; exact hr) k)
  rw [if_neg h2]
  by_cases h3 : t = 1
  · rw [if_pos h3]
    exact cyc_iff hr (by decide) (fun k => cyc6 (by rw [← h3]; exact hr) k)
  rw [if_neg h3]
  by_cases h4 : t = -2
  · rw [if_pos h4, turn2 (by rw [← h4]; exact hr)]
    unfold turnB
    by_cases q : e 0 + e 1 = 0
    · rw [if_neg (fun z => z q), Bool.and_eq_true, decide_eq_true_eq, decide_eq_true_eq]
      exact ⟨fun z => ⟨q, z⟩, fun z => z.2⟩
    · rw [if_pos q]
      exact ⟨(fun z => by cases z), fun z => absurd z.1 q⟩
  rw [if_neg h4]
  have hT : EllT t ∨ 5 / 2 ≤ t ∨ t ≤ -(5 / 2) := by
    rcases ht with h | h | h | h | h | h
    · exact absurd h t2
    · exact absurd h h1
    · exact absurd h h2
    · exact absurd h h3
    · exact absurd h h4
    · exact h
  by_cases h5 : t * t < 4
  · rw [if_pos h5]
    have hC : 0 < 4 - t * t := by grind
    rcases hT with ⟨p, A, ha, hp, hA, h9⟩ | h | h
    · unfold ellB formQ
      by_cases q : b < 0
      · rw [if_pos q]
        exact ⟨(fun z => by cases z), fun z => absurd (ell_complete hr h9 ha hp hA z).1 (Rat.not_le.mpr q)⟩
      · rw [if_neg q, decide_eq_true_eq]
        exact ⟨fun z k => ell_sound hr hC (Rat.not_lt.mp q) z k, fun z => (ell_complete hr h9 ha hp hA z).2⟩
    · exfalso
      have : 0 ≤ (t - 5 / 2) * (t + 5 / 2) := Rat.mul_nonneg (by grind) (by grind)
      grind
    · exfalso
      have : 0 ≤ (-t - 5 / 2) * (-t + 5 / 2) := Rat.mul_nonneg (by grind) (by grind)
      grind
  rw [if_neg h5]
  have hT : 5 / 2 ≤ t ∨ t ≤ -(5 / 2) := by
    rcases hT with ⟨p, A, ha, hp, hA, h9⟩ | h
    · exact absurd (show t * t < 4 by grind) h5
    · exact h
  by_cases h6 : formQ (e 0) (e 1) t = 0
  · rw [if_pos h6, line_iff hr hT h6]
    unfold lineB
    by_cases q : e 0 ≤ b ∧ e 1 ≤ b
    · rw [if_neg (fun z => z.elim (fun k => k q.1) fun k => k q.2)]
      by_cases q2 : e 0 * e 0 < e 1 * e 1
      · rw [if_pos q2, Bool.and_eq_true, decide_eq_true_eq, decide_eq_true_eq]
        exact ⟨fun z => ⟨q, fun _ => z, fun k => absurd q2 k⟩, fun z => z.2.1 q2⟩
      · rw [if_neg q2, decide_eq_true_eq]
        exact ⟨fun z => ⟨q, fun k => absurd k q2, fun _ => z⟩, fun z => z.2.2 q2⟩
    · rw [if_pos (Classical.byContradiction fun z => q ⟨Classical.byContradiction fun k => z (.inl k), Classical.byContradiction fun k => z (.inr k)⟩)]
      exact ⟨(fun z => by cases z), fun z => absurd z.1 q⟩
  rw [if_neg h6]
  by_cases h7 : t < 0
  · rw [if_pos h7]
    refine ⟨(fun z => by cases z), fun z => ?_⟩
    have ht2 : t ≤ -(5 / 2) := by
      rcases hT with h | h
      · exfalso; grind
      · exact h
    obtain ⟨k, hk⟩ := neg_form hr ht2 h6 b
    exact absurd (z k) (Rat.not_le.mpr hk)
  rw [if_neg h7]
  have ht2 : 5 / 2 ≤ t := by
    rcases hT with h | h
    · exact h
    · exfalso; grind
  have hz : ¬ (e 0 = 0 ∧ e 1 = 0) := fun z => h6 (by unfold formQ; rw [z.1, z.2]; grind)
  refine grow_iff ht2 n e hr hz ?_
  rw [rec_eq hr n, rec_eq hr (n + 1)]
  exact hend h5 h6 h7
end Rt
set_option Elab.async false
set_option linter.all false
set_option maxRecDepth 100000
set_option maxHeartbeats 4000000
/-! Half-planes mapped, passes, what follows for a ray. -/
namespace Rt
theorem mkPl_has {p q r : Rat} (h : p ≠ 0 ∨ q ≠ 0) (x : Rat × Rat) : (mkPl p q r).has x ↔ p * x.1 + q * x.2 ≤ r := by
  have g0 : plG p q r ≠ 0 := plG_ne h
  have gp : (0 : Rat) < (plG p q r : Rat) := Rat.intCast_pos.mpr (by have := plG_nn p q r; omega)
  obtain ⟨d1, d2, d3⟩ := plG_dvd p q r
  have m : ∀ {a : Int}, plG p q r ∣ a → (plG p q r : Rat) * ((a / plG p q r : Int) : Rat) = (a : Rat) := fun {a} hd => by
    rw [← Rat.intCast_mul, Int.mul_ediv_cancel' hd]
  have e1 := m d1
  have e2 := m d2
  have e3 := m d3
  have nd : ∀ y : Rat, (y.num : Rat) = y * (y.den : Rat) := fun y => by
    have h0 : (y.den : Rat) ≠ 0 := fun z => y.den_nz (Rat.natCast_eq_zero_iff.mp z)
    have h1 : y = (y.num : Rat) / (y.den : Rat) := by
      conv => lhs; rw [← Rat.num_divInt_den y]
      rw [Rat.divInt_eq_div, Rat.intCast_natCast]
    have h2 := Rat.div_mul_cancel (a := (y.num : Rat)) h0
    rw [← h1] at h2
    exact h2.symm
  have sp : (0 : Rat) < (p.den : Rat) * ((q.den : Rat) * (r.den : Rat)) := Rat.mul_pos (Rat.natCast_pos.mpr p.den_pos) (Rat.mul_pos (Rat.natCast_pos.mpr q.den_pos) (Rat.natCast_pos.mpr r.den_pos))
  have f1 : ((plP p q r : Int) : Rat) = p * ((p.den : Rat) * ((q.den : Rat) * (r.den : Rat))) := by
    unfold plP
    rw [Rat.intCast_mul, Rat.intCast_mul, Rat.intCast_natCast, Rat.intCast_natCast, nd p]
    grind
  have f2 : ((plQ p q r : Int) : Rat) = q * ((p.den : Rat) * ((q.den : Rat) * (r.den : Rat))) := by
    unfold plQ
    rw [Rat.intCast_mul, Rat.intCast_mul, Rat.intCast_natCast, Rat.intCast_natCast, nd q]
    grind
  have f3 : ((plR p q r : Int) : Rat) = r * ((p.den : Rat) * ((q.den : Rat) * (r.den : Rat))) := by
    unfold plR
    rw [Rat.intCast_mul, Rat.intCast_mul, Rat.intCast_natCast, Rat.intCast_natCast, nd r]
    grind
  unfold Pl.has Pl.at mkPl
  dsimp only
  generalize ((plP p q r / plG p q r : Int) : Rat) = X at e1 ⊢
  generalize ((plQ p q r / plG p q r : Int) : Rat) = Y at e2 ⊢
  generalize ((plR p q r / plG p q r : Int) : Rat) = Z at e3 ⊢
  rw [f1] at e1
  rw [f2] at e2
  rw [f3] at e3
  generalize (plG p q r : Rat) = G at gp e1 e2 e3
  generalize (p.den : Rat) * ((q.den : Rat) * (r.den : Rat)) = s at sp e1 e2 e3
  have a : G * (X * x.1 + Y * x.2) = (p * x.1 + q * x.2) * s := by
    have : G * (X * x.1 + Y * x.2) = (G * X) * x.1 + (G * Y) * x.2 := by grind
    rw [this, e1, e2]
    grind
  constructor
  · intro hh
    have b := Rat.mul_le_mul_of_nonneg_left hh (Rat.le_of_lt gp)
    rw [a, e3] at b
    exact Rat.le_of_mul_le_mul_right b sp
  · intro hh
    have b := Rat.mul_le_mul_of_nonneg_right hh (Rat.le_of_lt sp)
    rw [← a, ← e3] at b
    exact Rat.le_of_mul_le_mul_left b gp
theorem mapPl_has {m : Mp} {h : Pl} (ho : mapOk m h) (r : Rat × Rat) : (mapPl m h).has r ↔ h.has (m.inv.app r) := by
  unfold mapPl
  rw [mkPl_has ho.2]
  unfold Pl.has Pl.at Mp.app
  dsimp only
  constructor <;> intro q <;> grind
/-! ### maps of determinant 1 -/
def Det1 (m : Mp) : Prop := m.a * m.d - m.b * m.c = 1
theorem det_one : Det1 Mp.one := by unfold Det1 Mp.one; grind
theorem det_then {m n : Mp} (h : Det1 m) (k : Det1 n) : Det1 (m.then n) := by
  unfold Det1 Mp.then at *
  dsimp only
  grind
theorem det_inv {m : Mp} (h : Det1 m) : Det1 m.inv := by
  unfold Det1 Mp.inv at *
  dsimp only
  grind
theorem det_pow {m : Mp} (h : Det1 m) : ∀ n, Det1 (npow m n)
  | 0 => det_one
  | n + 1 => det_then (det_pow h n) h
theorem inv_inv {m : Mp} (h : Det1 m) : m.inv.inv = m := by
  obtain ⟨a, b, c, d, e, f⟩ := m
  unfold Det1 at h
  unfold Mp.inv
  simp only [Mp.mk.injEq] at *
  refine ⟨?_, ?_, ?_, ?_, ?_, ?_⟩ <;> grind
theorem inv_then {m n : Mp} (h : Det1 m) (k : Det1 n) : (m.then n).inv = n.inv.then m.inv := by
  obtain ⟨a, b, c, d, e, f⟩ := m
  obtain ⟨a', b', c', d', e', f'⟩ := n
  unfold Det1 at h k
  unfold Mp.inv Mp.then
  simp only [Mp.mk.injEq] at *
  refine ⟨?_, ?_, ?_, ?_, ?_, ?_⟩ <;> grind
theorem one_inv : Mp.one.inv = Mp.one := by
  unfold Mp.one Mp.inv
  simp only [Mp.mk.injEq]
  refine ⟨?_, ?_, ?_, ?_, ?_, ?_⟩ <;> grind
/-- the inverse of a power of the way back is the power of the way -/
theorem inv_pow {m : Mp} (h : Det1 m) : ∀ k, (npow m.inv k).inv = npow m k
  | 0 => one_inv
  | k + 1 => by
    show ((npow m.inv k).then m.inv).inv = _
    rw [inv_then (det_pow (det_inv h) k) (det_inv h), inv_inv h, inv_pow h k, npow_succ']
/-! ### passing -/
def loPl (m : Mp) : Option Rat → List Pl
  | some l => [mkPl (-m.a) (-m.b) (m.e - l)]
  | none => []
def hiPl (m : Mp) : Option Rat → List Pl
  | some h => [mkPl m.a m.b (h - m.e)]
  | none => []
theorem edgePl_eq (lo hi : Option Rat) (m : Mp) : edgePl lo hi m = loPl m lo ++ hiPl m hi := by cases lo <;> cases hi <;> rfl
theorem edge_has {lo hi : Option Rat} {m : Mp} (h : m.a ≠ 0 ∨ m.b ≠ 0) (r : Rat × Rat) : (∀ k ∈ edgePl lo hi m, k.has r) ↔ stopB lo hi (m.app r).1 = true := by
  have hn : -m.a ≠ 0 ∨ -m.b ≠ 0 := by
    rcases h with z | z
    · exact .inl (by grind)
    · exact .inr (by grind)
  rw [edgePl_eq]
  unfold stopB
  rw [Bool.and_eq_true]
  have e1 : (∀ k ∈ loPl m lo, k.has r) ↔ loB lo (m.app r).1 = true := by
    cases lo with
    | none => exact ⟨fun _ => rfl, fun _ k hk => by cases hk⟩
    | some l =>
      show (∀ k ∈ [mkPl (-m.a) (-m.b) (m.e - l)], k.has r) ↔ decide (l ≤ (m.app r).1) = true
      rw [decide_eq_true_eq]
      have := mkPl_has (r := m.e - l) hn r
      unfold Mp.app
      dsimp only
      constructor
      · intro q
        have := this.mp (q _ (List.mem_singleton.mpr rfl))
        grind
      · intro q k hk
        rw [List.mem_singleton.mp hk]
        exact this.mpr (by grind)
  have e2 : (∀ k ∈ hiPl m hi, k.has r) ↔ hiB hi (m.app r).1 = true := by
    cases hi with
    | none => exact ⟨fun _ => rfl, fun _ k hk => by cases hk⟩
    | some l =>
      show (∀ k ∈ [mkPl m.a m.b (l - m.e)], k.has r) ↔ decide ((m.app r).1 ≤ l) = true
      rw [decide_eq_true_eq]
      have := mkPl_has (r := l - m.e) h r
      unfold Mp.app
      dsimp only
      constructor
      · intro q
        have := this.mp (q _ (List.mem_singleton.mpr rfl))
        grind
      · intro q k hk
        rw [List.mem_singleton.mp hk]
        exact this.mpr (by grind)
  rw [← e1, ← e2]
  constructor
  · intro q
    exact ⟨fun k hk => q k (List.mem_append_left _ hk), fun k hk => q k (List.mem_append_right _ hk)⟩
  · rintro ⟨a, b⟩ k hk
    rcases List.mem_append.mp hk with z | z
    · exact a k z
    · exact b k z
theorem el_has {e : El} {m : Mp} (h : ∀ lo hi, e = .stop lo hi → m.a ≠ 0 ∨ m.b ≠ 0) (r : Rat × Rat) : (∀ k ∈ elPl m e, k.has r) ↔ gone e (m.app r) = some (e.map.app (m.app r)) := by
  cases e with
  | stop lo hi =>
    have g : gone (.stop lo hi) (m.app r) = if stopB lo hi (m.app r).1 then some (m.app r) else none := rfl
    rw [g, show (El.stop lo hi).map = Mp.one from rfl, one_app]
    show (∀ k ∈ edgePl lo hi m, k.has r) ↔ _
    rw [edge_has (h lo hi rfl)]
    cases stopB lo hi (m.app r).1 <;> simp
  | gap l => exact ⟨fun _ => rfl, fun _ k hk => by cases hk⟩
  | lens p o => exact ⟨fun _ => rfl, fun _ k hk => by cases hk⟩
  | prism f => exact ⟨fun _ => rfl, fun _ k hk => by cases hk⟩
  | afocal q => exact ⟨fun _ => rfl, fun _ k hk => by cases hk⟩
theorem exit_pre {t : List El} (hn : ∀ i lo hi, t[i]? = some (.stop lo hi) → (tmap (t.take i)).a ≠ 0 ∨ (tmap (t.take i)).b ≠ 0) (r : Rat × Rat) : ∀ n, n ≤ t.length →
    ((∀ k ∈ hplsN t n, k.has r) ∧ exitR t r = exitR (t.drop n) ((tmap (t.take n)).app r)) ∨ ((¬ ∀ k ∈ hplsN t n, k.has r) ∧ exitR t r = none)
  | 0, _ => .inl ⟨(fun k hk => by cases hk), by rw [List.drop_zero, List.take_zero, show tmap [] = Mp.one from rfl, one_app]⟩
  | n + 1, hl => by
    have hi2 : n < t.length := hl
    have ee : t[n]? = some t[n] := List.getElem?_eq_getElem hi2
    have hdrop : t.drop n = t[n] :: t.drop (n + 1) := List.drop_eq_getElem_cons hi2
    rw [hplsN_succ ee]
    rcases exit_pre hn r n (by omega) with ⟨a, b⟩ | ⟨a, b⟩
    · rw [hdrop] at b
      have b : exitR t r = match gone t[n] ((tmap (t.take n)).app r) with | some r' => exitR (t.drop (n + 1)) r' | none => none := b
      have he := el_has (e := t[n]) (m := tmap (t.take n)) (fun lo hi q => hn n lo hi (by rw [ee, q])) r
      cases hg : gone t[n] ((tmap (t.take n)).app r) with
      | none =>
        rw [hg] at b he
        refine .inr ⟨fun q => ?_, b⟩
        have := he.mp fun k hk => q k (List.mem_append_right _ hk)
        cases this
      | some r' =>
        have er := gone_app hg
        rw [hg] at b he
        refine .inl ⟨fun k hk => ?_, ?_⟩
        · rcases List.mem_append.mp hk with z | z
          · exact a k z
          · exact he.mpr (by rw [er]) k z
        · rw [b, take_snoc ee, tmap_snoc, then_app, ← er]
    · exact .inr ⟨fun q => a fun k hk => q k (List.mem_append_left _ hk), b⟩
def Pass (t : List El) (r : Rat × Rat) : Prop := ∀ k ∈ hplsN t t.length, k.has r
theorem exit_iff {t : List El} (hn : ∀ i lo hi, t[i]? = some (.stop lo hi) → (tmap (t.take i)).a ≠ 0 ∨ (tmap (t.take i)).b ≠ 0) (r : Rat × Rat) : (Pass t r → exitR t r = some ((tmap t).app r)) ∧ (¬ Pass t r → exitR t r = none) := by
  rcases exit_pre hn r t.length (Nat.le_refl _) with ⟨a, b⟩ | ⟨a, b⟩
  · rw [List.drop_length, List.take_length] at b
    exact ⟨fun _ => b, fun q => absurd a q⟩
  · exact ⟨fun q => absurd q a, fun _ => b⟩
/-- it passes for ever -/
def Ever (t : List El) (r : Rat × Rat) : Prop := ∀ k, Pass t ((npow (tmap t) k).app r)
theorem npow_app (m : Mp) (k : Nat) (r : Rat × Rat) : (npow m (k + 1)).app r = (npow m k).app (m.app r) := by rw [← npow_succ', then_app]
theorem pow0_app (m : Mp) (r : Rat × Rat) : (npow m 0).app r = r := one_app r
theorem pass_iff {t : List El} (hn : ∀ i lo hi, t[i]? = some (.stop lo hi) → (tmap (t.take i)).a ≠ 0 ∨ (tmap (t.take i)).b ≠ 0) : ∀ (n : Nat) (r : Rat × Rat), passN t r n = n ↔ ∀ k, k < n → Pass t ((npow (tmap t) k).app r)
  | 0, r => ⟨fun _ k h => absurd h (Nat.not_lt_zero k), fun _ => rfl⟩
  | n + 1, r => by
    rw [passN_succ]
    by_cases p : Pass t r
    · rw [(exit_iff hn r).1 p]
      have ih := pass_iff hn n ((tmap t).app r)
      constructor
      · intro h k hk
        have h : passN t ((tmap t).app r) n = n := Nat.succ.inj h
        cases k with
        | zero => rw [pow0_app]; exact p
        | succ k => rw [npow_app]; exact ih.mp h k (by omega)
      · intro h
        have : passN t ((tmap t).app r) n = n := ih.mpr fun k hk => by
          have := h (k + 1) (by omega)
          rw [npow_app] at this
          exact this
        exact congrArg (· + 1) this
    · rw [(exit_iff hn r).2 p]
      constructor
      · intro h
        cases h
      · intro h
        have := h 0 (Nat.succ_pos n)
        rw [pow0_app] at this
        exact absurd this p
/-- the half-planes of n passes -/
theorem ppl_has {t : List El} {n : Nat} (hd : Det1 (tmap t)) (ho : ∀ k, k ≤ n → ∀ h ∈ hplsN t t.length, mapOk (npow (tmap t).inv k) h) (r : Rat × Rat) : (∀ k ∈ ppl t n, k.has r) ↔ ∀ k, k < n → Pass t ((npow (tmap t) k).app r) := by
  constructor
  · intro h k hk x hx
    have m : mapPl (npow (tmap t).inv k) x ∈ ppl t n := by
      unfold ppl
      exact List.mem_flatten.mpr ⟨_, List.mem_map.mpr ⟨k, List.mem_range.mpr hk, rfl⟩, List.mem_map.mpr ⟨x, hx, rfl⟩⟩
    have := (mapPl_has (ho k (by omega) x hx) r).mp (h _ m)
    rw [inv_pow hd] at this
    exact this
  · intro h k hk
    obtain ⟨j, hj, hk⟩ := ppl_mem hk
    obtain ⟨x, hx, rfl⟩ := List.mem_map.mp hk
    rw [mapPl_has (ho j (by omega) x hx), inv_pow hd]
    exact h j hj x hx
theorem hn_ever {t : List El} {n : Nat} (hd : Det1 (tmap t)) (ho : ∀ k, k ≤ n → ∀ h ∈ hplsN t t.length, mapOk (npow (tmap t).inv k) h) (hN : HN t n) {r : Rat × Rat} (h : ∀ k, k < n → Pass t ((npow (tmap t) k).app r)) : Ever t r := by
  have next : ∀ r, (∀ k, k < n → Pass t ((npow (tmap t) k).app r)) → Pass t ((npow (tmap t) n).app r) := fun r hr x hx => by
    have := hN r ((ppl_has hd ho r).mpr hr) _ (List.mem_map.mpr ⟨x, hx, rfl⟩)
    rw [mapPl_has (ho n (Nat.le_refl _) x hx), inv_pow hd] at this
    exact this
  have step : ∀ j r, (∀ k, k < n → Pass t ((npow (tmap t) k).app r)) → ∀ k, k < n → Pass t ((npow (tmap t) k).app ((npow (tmap t) j).app r)) := by
    intro j
    induction j with
    | zero => intro r hr k hk; rw [pow0_app]; exact hr k hk
    | succ j ih =>
      intro r hr k hk
      rw [npow_app]
      refine ih ((tmap t).app r) (fun k hk => ?_) k hk
      rw [← npow_app]
      by_cases e : k + 1 < n
      · exact hr (k + 1) e
      · have : k + 1 = n := by omega
        rw [this]
        exact next r hr
  intro k
  by_cases e : k < n
  · exact h k e
  · have := next _ (step (k - n) r h)
    rw [← then_app, npow_add, show k - n + n = k by omega] at this
    exact this
theorem order_ever {t : List El} {n : Nat} (n0 : 0 < n) (hp : npow (tmap t) n = Mp.one) {r : Rat × Rat} (h : ∀ k, k < n → Pass t ((npow (tmap t) k).app r)) : Ever t r := fun k => by
  have key : ∀ q j, npow (tmap t) (j + q * n) = npow (tmap t) j := by
    intro q
    induction q with
    | zero => intro j; rw [Nat.zero_mul, Nat.add_zero]
    | succ q ih =>
      intro j
      rw [Nat.succ_mul, ← Nat.add_assoc, ← npow_add, hp, then_one, ih]
  have hk : k % n + k / n * n = k := by rw [Nat.mul_comm]; exact Nat.mod_add_div k n
  have := key (k / n) (k % n)
  rw [hk] at this
  rw [this]
  exact h _ (Nat.mod_lt _ n0)
/-- what the law asks of a ray, from the decision's rightness -/
theorem ray_law {t : List El} {r : Rat × Rat} (hn : HnOk t 3) (hd : Det1 (tmap t)) (hro : ∀ k, k < 6 → RayOk t ((npow (tmap t) k).app r)) (h1 : ∃ nf, StOk nf t r ∧ (staysB nf t r = true ↔ Ever t r)) (h2 : ∃ nf, StOk nf t ((tmap t).app r) ∧ (staysB nf t ((tmap t).app r) = true ↔ Ever t ((tmap t).app r))) : RayLaw t r := by
  obtain ⟨nf, s1, i1⟩ := h1
  obtain ⟨nf', s2, i2⟩ := h2
  have hst := hn.ok.tk.2.2
  have ho : ∀ n, n ≤ 3 → ∀ k, k ≤ n → ∀ h ∈ hplsN t t.length, mapOk (npow (tmap t).inv k) h := fun n h3 k hk => hn.ok.o k (by omega)
  have e0 : Ever t r → Pass t r := fun h => by have := h 0; rw [pow0_app] at this; exact this
  have eb : ∀ {b : Bool} {p : Prop}, (b = true ↔ p) → ¬ p → b = false := fun {b p} h q => by
    cases b
    · rfl
    · exact absurd (h.mp rfl) q
  refine ⟨hro, nf, s1, fun hx => ?_, fun r' hx => ?_, fun n h3 hN hp => ?_, fun n n0 n6 hp => ?_, fun hN hx => ?_⟩
  · refine eb i1 fun q => ?_
    rw [(exit_iff hst r).1 (e0 q)] at hx
    cases hx
  · have er := exitR_app hx
    subst er
    refine ⟨nf', s2, ?_⟩
    have p : Pass t r := Classical.byContradiction fun q => by
      rw [(exit_iff hst r).2 q] at hx
      cases hx
    have ie : Ever t ((tmap t).app r) ↔ Ever t r := by
      constructor
      · intro q k
        cases k with
        | zero => rw [pow0_app]; exact p
        | succ k => rw [npow_app]; exact q k
      · intro q k
        rw [← npow_app]
        exact q (k + 1)
    rw [Bool.eq_iff_iff, i1, i2, ie]
  · exact i1.mpr (hn_ever hd (ho n h3) hN ((pass_iff hst n r).mp hp))
  · rw [Bool.eq_iff_iff, i1, decide_eq_true_eq, pass_iff hst]
    exact ⟨fun q k _ => q k, fun q => order_ever n0 hp q⟩
  · have p : Pass t r := Classical.byContradiction fun q => hx ((exit_iff hst r).2 q)
    exact i1.mpr (hn_ever hd (ho 1 (by decide)) hN fun k hk => by
      have : k = 0 := by omega
      subst this
      rw [pow0_app]
      exact p)
end Rt
set_option Elab.async false
set_option linter.all false
set_option maxRecDepth 100000
set_option maxHeartbeats 4000000
set_option exponentiation.threshold 100000
/-! Common denominators. -/
namespace Rt
/-- q times d is a whole number of at most b -/
def Bq (d b : Nat) (q : Rat) : Prop := ∃ z : Int, q * (d : Rat) = (z : Rat) ∧ z.natAbs ≤ b
theorem Bq.mono {d b c : Nat} {q : Rat} (h : Bq d b q) (e : b ≤ c) : Bq d c q := by
  obtain ⟨z, a, k⟩ := h
  exact ⟨z, a, Nat.le_trans k e⟩
theorem Bq.up {d b : Nat} {q : Rat} (h : Bq d b q) (k : Nat) : Bq (d * k) (b * k) q := by
  obtain ⟨z, a, e⟩ := h
  refine ⟨z * k, ?_, ?_⟩
  · rw [Rat.natCast_mul, Rat.intCast_mul, ← a, Rat.intCast_natCast]
    grind
  · rw [Int.natAbs_mul, Int.natAbs_natCast]
    exact Nat.mul_le_mul_right k e
theorem Bq.neg {d b : Nat} {q : Rat} (h : Bq d b q) : Bq d b (-q) := by
  obtain ⟨z, a, e⟩ := h
  refine ⟨-z, ?_, by omega⟩
  rw [Rat.intCast_neg, ← a]
  grind
theorem Bq.add {d b c : Nat} {p q : Rat} (h : Bq d b p) (k : Bq d c q) : Bq d (b + c) (p + q) := by
  obtain ⟨z, a, e⟩ := h
  obtain ⟨y, a', e'⟩ := k
  refine ⟨z + y, ?_, by omega⟩
  rw [Rat.intCast_add, ← a, ← a']
  grind
theorem Bq.sub {d b c : Nat} {p q : Rat} (h : Bq d b p) (k : Bq d c q) : Bq d (b + c) (p - q) := by
  rw [Rat.sub_eq_add_neg]
  exact h.add k.neg
theorem Bq.mul {d b e c : Nat} {p q : Rat} (h : Bq d b p) (k : Bq e c q) : Bq (d * e) (b * c) (p * q) := by
  obtain ⟨z, a, l⟩ := h
  obtain ⟨y, a', l'⟩ := k
  refine ⟨z * y, ?_, ?_⟩
  · rw [Rat.natCast_mul, Rat.intCast_mul, ← a, ← a']
    grind
  · rw [Int.natAbs_mul]
    exact Nat.mul_le_mul l l'
theorem Bq.of_int {i : Int} {b : Nat} (h : i.natAbs ≤ b) : Bq 1 b (i : Rat) := ⟨i, by show (i : Rat) * 1 = i; grind, h⟩
theorem Bq.zero (d b : Nat) : Bq d b 0 := ⟨0, by rw [Rat.zero_mul]; rfl, Nat.zero_le _⟩
theorem Bq.one {d b : Nat} (h : d ≤ b) : Bq d b 1 := ⟨(d : Int), by rw [Rat.one_mul, Rat.intCast_natCast], by omega⟩
theorem Bq.ofDiv {v : Int} {d k b : Nat} (h : v.natAbs * k ≤ b) (d0 : 0 < d) : Bq (d * k) b (Rat.divInt v (d : Int)) := by
  have h0 : (d : Rat) ≠ 0 := fun z => by have := Rat.natCast_eq_zero_iff.mp z; omega
  refine (Bq.up (d := d) (b := v.natAbs) ⟨v, ?_, Nat.le_refl _⟩ k).mono h
  rw [Rat.divInt_eq_div, Rat.intCast_natCast, Rat.div_mul_cancel h0]
theorem Bq.sz {d b n : Nat} {q : Rat} (h : Bq d b q) (d0 : 0 < d) (hd : d < 2 ^ n) (hb : b < 2 ^ n) (n1 : 1 ≤ n) : Sz n q := by
  obtain ⟨z, a, l⟩ := h
  have h0 : (d : Rat) ≠ 0 := fun e => by have := Rat.natCast_eq_zero_iff.mp e; omega
  have e : q = Rat.divInt z (d : Int) := by
    rw [Rat.divInt_eq_div, Rat.intCast_natCast, ← a, Rat.mul_div_cancel h0]
  rw [e]
  exact Sz.ofDivInt (by omega) (by rw [Int.natAbs_natCast]; exact hd) (by omega) n1
/-! ### maps -/
def MB (d b : Nat) (m : Mp) : Prop := Bq d b m.a ∧ Bq d b m.b ∧ Bq d b m.c ∧ Bq d b m.d ∧ Bq d b m.e ∧ Bq d b m.f
def RB (d b : Nat) (r : Rat × Rat) : Prop := Bq d b r.1 ∧ Bq d b r.2
theorem MB.mono {d b c : Nat} {m : Mp} (h : MB d b m) (e : b ≤ c) : MB d c m := ⟨h.1.mono e, h.2.1.mono e, h.2.2.1.mono e, h.2.2.2.1.mono e, h.2.2.2.2.1.mono e, h.2.2.2.2.2.mono e⟩
theorem MB.sz {d b n : Nat} {m : Mp} (h : MB d b m) (d0 : 0 < d) (hd : d < 2 ^ n) (hb : b < 2 ^ n) (n1 : 1 ≤ n) : m.Sz n := ⟨h.1.sz d0 hd hb n1, h.2.1.sz d0 hd hb n1, h.2.2.1.sz d0 hd hb n1, h.2.2.2.1.sz d0 hd hb n1, h.2.2.2.2.1.sz d0 hd hb n1, h.2.2.2.2.2.sz d0 hd hb n1⟩
theorem MB.then {d b e c : Nat} {m n : Mp} (h : MB d b m) (k : MB e c n) : MB (e * d) (2 * (c * b) + c * d) (m.then n) := by
  have w : ∀ {p q x y : Rat}, Bq e c p → Bq d b x → Bq e c q → Bq d b y → Bq (e * d) (c * b + c * b) (p * x + q * y) := fun h1 h2 h3 h4 => (h1.mul h2).add (h3.mul h4)
  have l : c * b + c * b ≤ 2 * (c * b) + c * d := by omega
  refine ⟨(w k.1 h.1 k.2.1 h.2.2.1).mono l, (w k.1 h.2.1 k.2.1 h.2.2.2.1).mono l, (w k.2.2.1 h.1 k.2.2.2.1 h.2.2.1).mono l, (w k.2.2.1 h.2.1 k.2.2.2.1 h.2.2.2.1).mono l, ?_, ?_⟩
  · exact ((w k.1 h.2.2.2.2.1 k.2.1 h.2.2.2.2.2).add (k.2.2.2.2.1.up d)).mono (by omega)
  · exact ((w k.2.2.1 h.2.2.2.2.1 k.2.2.2.1 h.2.2.2.2.2).add (k.2.2.2.2.2.up d)).mono (by omega)
theorem MB.app {d b e c : Nat} {m : Mp} {r : Rat × Rat} (k : MB e c m) (h : RB d b r) : RB (e * d) (2 * (c * b) + c * d) (m.app r) := by
  refine ⟨?_, ?_⟩
  · exact (((k.1.mul h.1).add (k.2.1.mul h.2)).add (k.2.2.2.2.1.up d)).mono (by omega)
  · exact (((k.2.2.1.mul h.1).add (k.2.2.2.1.mul h.2)).add (k.2.2.2.2.2.up d)).mono (by omega)
theorem MB.inv {d b : Nat} {m : Mp} (h : MB d b m) (hd : d ≤ 2 * b) : MB (d * d) (2 * (b * b)) m.inv := by
  have u : ∀ {q : Rat}, Bq d b q → Bq (d * d) (2 * (b * b)) q := fun hq => (hq.up d).mono (by
    have := Nat.mul_le_mul_left b hd
    have e : b * (2 * b) = 2 * (b * b) := by rw [Nat.mul_left_comm]
    omega)
  have w : ∀ {p q x y : Rat}, Bq d b p → Bq d b x → Bq d b q → Bq d b y → Bq (d * d) (2 * (b * b)) (p * x - q * y) := fun h1 h2 h3 h4 => ((h1.mul h2).sub (h3.mul h4)).mono (by omega)
  exact ⟨u h.2.2.2.1, (u h.2.1).neg, (u h.2.2.1).neg, u h.1, w h.2.1 h.2.2.2.2.2 h.2.2.2.1 h.2.2.2.2.1, w h.2.2.1 h.2.2.2.2.1 h.1 h.2.2.2.2.2⟩
theorem MB.one {d b : Nat} (h : d ≤ b) : MB d b Mp.one := ⟨Bq.one h, Bq.zero d b, Bq.zero d b, Bq.one h, Bq.zero d b, Bq.zero d b⟩
/-- powers: each of them by 4 b more -/
theorem MB.pow {d b : Nat} {m : Mp} (h : MB d b m) (hd : d ≤ b) : ∀ n, MB (d ^ n) ((4 * b) ^ n) (npow m n)
  | 0 => MB.one (Nat.le_refl 1)
  | n + 1 => by
    have := (MB.pow h hd n).then h
    rw [Nat.mul_comm d] at this
    refine this.mono ?_
    rw [Nat.pow_succ]
    have e1 : d ^ n ≤ (4 * b) ^ n := Nat.pow_le_pow_left (by omega) n
    have e2 : b * d ^ n ≤ b * (4 * b) ^ n := Nat.mul_le_mul_left b e1
    have e3 : (4 * b) ^ n * (4 * b) = 4 * (b * (4 * b) ^ n) := by rw [Nat.mul_comm, Nat.mul_assoc]
    omega
end Rt
set_option Elab.async false
set_option linter.all false
set_option maxRecDepth 100000
set_option maxHeartbeats 4000000
set_option exponentiation.threshold 100000
/-! The drawn trains: their maps. -/
namespace Rt
theorem GapOk.bq {l : Rat} (h : GapOk l) : Bq 2 4 l := by
  rcases h with rfl | rfl | rfl | rfl
  · exact Bq.ofDiv (d := 1) (k := 2) (by decide) (by decide)
  · exact Bq.ofDiv (d := 1) (k := 2) (by decide) (by decide)
  · exact Bq.ofDiv (d := 2) (k := 1) (by decide) (by decide)
  · exact Bq.ofDiv (d := 1) (k := 2) (by decide) (by decide)
theorem PowOk.bq {p : Rat} (h : PowOk p) : Bq 2 8 p := by
  rcases h with rfl | rfl | rfl | rfl | rfl | rfl | rfl
  · exact Bq.ofDiv (d := 1) (k := 2) (by decide) (by decide)
  · exact Bq.ofDiv (d := 1) (k := 2) (by decide) (by decide)
  · exact Bq.ofDiv (d := 2) (k := 1) (by decide) (by decide)
  · exact Bq.ofDiv (d := 1) (k := 2) (by decide) (by decide)
  · exact Bq.ofDiv (d := 1) (k := 2) (by decide) (by decide)
  · exact Bq.ofDiv (d := 1) (k := 2) (by decide) (by decide)
  · exact Bq.ofDiv (d := 2) (k := 1) (by decide) (by decide)
theorem OffOk.bq {p : Rat} (h : OffOk p) : Bq 2 1 p := by
  rcases h with rfl | rfl
  · exact Bq.ofDiv (d := 1) (k := 2) (by decide) (by decide)
  · exact Bq.ofDiv (d := 2) (k := 1) (by decide) (by decide)
theorem dv21 : Rat.divInt 2 1 = 2 := divInt_one 2
theorem dvm1 : Rat.divInt (-1) 1 = -1 := divInt_one (-1)
theorem dv12 : Rat.divInt 1 2 = 1 / 2 := by
  rw [Rat.divInt_eq_div]
  rfl
theorem AfoOk.bq {m : Rat} (h : AfoOk m) : Bq 2 4 m ∧ Bq 2 4 (1 / m) ∧ m ≠ 0 ∧ m * (1 / m) = 1 := by
  have b2 : Bq 2 4 (2 : Rat) := by rw [← dv21]; exact Bq.ofDiv (d := 1) (k := 2) (by decide) (by decide)
  have b1 : Bq 2 4 (-1 : Rat) := by rw [← dvm1]; exact Bq.ofDiv (d := 1) (k := 2) (by decide) (by decide)
  have bh : Bq 2 4 (1 / 2 : Rat) := by rw [← dv12]; exact Bq.ofDiv (d := 2) (k := 1) (by decide) (by decide)
  rcases h with rfl | rfl | rfl
  · rw [dv21]
    exact ⟨b2, bh, by grind, by grind⟩
  · rw [dvm1]
    exact ⟨b1, by rw [show (1 : Rat) / -1 = -1 by grind]; exact b1, by grind, by grind⟩
  · rw [dv12]
    exact ⟨bh, by rw [show (1 : Rat) / (1 / 2) = 2 by grind]; exact b2, by grind, by grind⟩
theorem FrOk.bq {q : Rat} (h : FrOk q) : Bq 6 24 q := by
  obtain ⟨v, d, h1, h2, hd, rfl⟩ := h
  rcases hd with rfl | rfl | rfl
  · exact Bq.ofDiv (d := 1) (k := 6) (by omega) (by decide)
  · exact Bq.ofDiv (d := 2) (k := 3) (by omega) (by decide)
  · exact Bq.ofDiv (d := 3) (k := 2) (by omega) (by decide)
theorem tmap_gap (l : Rat) : tmap [.gap l] = ⟨1, l, 0, 1, 0, 0⟩ := by
  show Mp.one.then (El.gap l).map = _
  rw [one_then]
  rfl
theorem tmap_afo (m : Rat) : tmap [.afocal m] = ⟨m, 0, 0, 1 / m, 0, 0⟩ := by
  show Mp.one.then (El.afocal m).map = _
  rw [one_then]
  rfl
theorem tmap_lens (l p o : Rat) : tmap [.gap l, .lens p o] = ⟨1, l, -p, 1 - p * l, 0, p * o⟩ := by
  show (tmap [.gap l]).then (El.lens p o).map = _
  rw [tmap_gap]
  unfold Mp.then El.map
  simp only [Mp.mk.injEq]
  refine ⟨?_, ?_, ?_, ?_, ?_, ?_⟩ <;> grind
theorem tmap_prism (l p o f : Rat) : tmap [.gap l, .lens p o, .prism f] = ⟨1, l, -p, 1 - p * l, 0, p * o + f⟩ := by
  show (tmap [.gap l, .lens p o]).then (El.prism f).map = _
  rw [tmap_lens]
  unfold Mp.then El.map
  simp only [Mp.mk.injEq]
  refine ⟨?_, ?_, ?_, ?_, ?_, ?_⟩ <;> grind
/-- what holds of the maps on the way -/
structure PreOk (m : Mp) : Prop where
  mb : MB 12 192 m
  a : m.a ≠ 0
  dt : Det1 m
theorem pre_one : PreOk Mp.one := ⟨MB.one (by decide), by show (1 : Rat) ≠ 0; decide, det_one⟩
theorem pre_gap {l : Rat} (h : GapOk l) : PreOk (tmap [.gap l]) := by
  rw [tmap_gap]
  exact ⟨⟨Bq.one (by decide), (h.bq.up 6).mono (by decide), Bq.zero _ _, Bq.one (by decide), Bq.zero _ _, Bq.zero _ _⟩, by show (1 : Rat) ≠ 0; decide, by unfold Det1; grind⟩
theorem pre_afo {m : Rat} (h : AfoOk m) : PreOk (tmap [.afocal m]) := by
  rw [tmap_afo]
  obtain ⟨h1, h2, h3, h4⟩ := h.bq
  exact ⟨⟨(h1.up 6).mono (by decide), Bq.zero _ _, Bq.zero _ _, (h2.up 6).mono (by decide), Bq.zero _ _, Bq.zero _ _⟩, h3, by unfold Det1; dsimp only; rw [h4]; grind⟩
theorem bq_pl {l p : Rat} (h : GapOk l) (k : PowOk p) : Bq 12 192 (1 - p * l) := (((Bq.one (d := 4) (b := 4) (by decide)).sub (k.bq.mul h.bq)).up 3).mono (by decide)
theorem bq_po {p o : Rat} (k : PowOk p) (h : OffOk o) : Bq 12 24 (p * o) := ((k.bq.mul h.bq).up 3).mono (by decide)
theorem pre_lens {l p o : Rat} (h : GapOk l) (k : PowOk p) (j : OffOk o) : PreOk (tmap [.gap l, .lens p o]) := by
  rw [tmap_lens]
  exact ⟨⟨Bq.one (by decide), (h.bq.up 6).mono (by decide), ((k.bq.neg).up 6).mono (by decide), bq_pl h k, Bq.zero _ _, (bq_po k j).mono (by decide)⟩, by show (1 : Rat) ≠ 0; decide, by unfold Det1; dsimp only; grind⟩
theorem pre_prism {l p o f : Rat} (h : GapOk l) (k : PowOk p) (j : OffOk o) (i : FrOk f) : PreOk (tmap [.gap l, .lens p o, .prism f]) := by
  rw [tmap_prism]
  exact ⟨⟨Bq.one (by decide), (h.bq.up 6).mono (by decide), ((k.bq.neg).up 6).mono (by decide), bq_pl h k, Bq.zero _ _, ((bq_po k j).add (i.bq.up 2)).mono (by decide)⟩, by show (1 : Rat) ≠ 0; decide, by unfold Det1; dsimp only; grind⟩
theorem core_pre {c : List El} (h : CoreOk c) : ∀ j, PreOk (tmap (c.take j)) := by
  rcases h with ⟨l, p, o, hl, hp, ho, rfl⟩ | ⟨l, p, o, f, hl, hp, ho, hf, rfl⟩ | ⟨m, hm, rfl⟩ | ⟨l, hl, rfl⟩
  · intro j
    match j with
    | 0 => exact pre_one
    | 1 => exact pre_gap hl
    | n + 2 => rw [List.take_of_length_le (by simp)]; exact pre_lens hl hp ho
  · intro j
    match j with
    | 0 => exact pre_one
    | 1 => exact pre_gap hl
    | 2 => exact pre_lens hl hp ho
    | n + 3 => rw [List.take_of_length_le (by simp)]; exact pre_prism hl hp ho hf
  · intro j
    match j with
    | 0 => exact pre_one
    | n + 1 => rw [List.take_of_length_le (by simp)]; exact pre_afo hm
  · intro j
    match j with
    | 0 => exact pre_one
    | n + 1 => rw [List.take_of_length_le (by simp)]; exact pre_gap hl
def isStop (e : El) : Prop := e.map = Mp.one
theorem StopOk.one {s : El} (h : StopOk s) : isStop s := by
  obtain ⟨lo, k, _, _, _, rfl | rfl | rfl⟩ := h <;> rfl
theorem tmap_stop {s : El} (h : isStop s) (t : List El) : tmap (s :: t) = tmap t := by rw [tmap_cons, h, one_then]
theorem tmap_end {s : El} (h : isStop s) (t : List El) : tmap (t ++ [s]) = tmap t := by rw [tmap_snoc, h, then_one]
theorem take_end {s : El} (h : isStop s) (c : List El) (i : Nat) : tmap ((c ++ [s]).take i) = tmap (c.take i) := by
  by_cases q : i ≤ c.length
  · rw [List.take_append_of_le_length q]
  · rw [List.take_of_length_le (by rw [List.length_append, List.length_singleton]; omega), List.take_of_length_le (l := c) (by omega), tmap_end h]
/-- every map on the way of a drawn train; its whole map -/
theorem cav_pre {t : List El} (h : Cav t) : ∃ c, CoreOk c ∧ tmap t = tmap c ∧ ∀ i, PreOk (tmap (t.take i)) := by
  obtain ⟨c, hc, ⟨s, hs, rfl⟩ | ⟨s, s', hs, hs', rfl⟩ | rfl⟩ := h
  · refine ⟨c, hc, tmap_stop hs.one c, fun i => ?_⟩
    cases i with
    | zero => exact pre_one
    | succ i =>
      rw [List.take_succ_cons, tmap_stop hs.one]
      exact core_pre hc i
  · refine ⟨c, hc, by rw [List.cons_append, tmap_stop hs.one, tmap_end hs'.one], fun i => ?_⟩
    cases i with
    | zero => exact pre_one
    | succ i =>
      rw [List.cons_append, List.take_succ_cons, tmap_stop hs.one, take_end hs'.one]
      exact core_pre hc i
  · exact ⟨c, hc, tmap_end (show isStop (.stop _ _) from rfl) c, fun i => by rw [take_end (show isStop (.stop _ _) from rfl)]; exact core_pre hc i⟩
end Rt
set_option Elab.async false
set_option linter.all false
set_option maxRecDepth 100000
set_option maxHeartbeats 4000000
/-! The traces of the drawn trains. -/
namespace Rt
theorem dv32 : Rat.divInt 3 2 = 3 / 2 := by
  rw [Rat.divInt_eq_div]
  rfl
theorem ell_3_2 : EllT (3 / 2) := ⟨3, 2, by show (3 / 2 : Rat) * 2 = 3; grind, by decide, by decide, by grind⟩
theorem ell_1_2 : EllT (1 / 2) := ⟨1, 2, by show (1 / 2 : Rat) * 2 = 1; grind, by decide, by decide, by grind⟩
theorem ell_7_4 : EllT (7 / 4) := ⟨7, 4, by show (7 / 4 : Rat) * 4 = 7; grind, by decide, by decide, by grind⟩
theorem ell_5_4 : EllT (5 / 4) := ⟨5, 4, by show (5 / 4 : Rat) * 4 = 5; grind, by decide, by decide, by grind⟩
theorem i1 : ((1 : Int) : Rat) = 1 := rfl
theorem i2 : ((2 : Int) : Rat) = 2 := rfl
theorem i3' : ((3 : Int) : Rat) = 3 := rfl
theorem i4 : ((4 : Int) : Rat) = 4 := rfl
theorem im1 : ((-1 : Int) : Rat) = -1 := rfl
theorem pow_cases {p : Rat} (h : PowOk p) : p = 1 ∨ p = 2 ∨ p = 1 / 2 ∨ p = 3 ∨ p = 4 ∨ p = -1 ∨ p = 3 / 2 := by
  unfold PowOk at h
  rw [divInt_one, divInt_one, divInt_one, divInt_one, divInt_one, dv12, dv32] at h
  exact h
theorem gap_cases {p : Rat} (h : GapOk p) : p = 1 ∨ p = 2 ∨ p = 1 / 2 ∨ p = -1 := by
  unfold GapOk at h
  rw [divInt_one, divInt_one, divInt_one, dv12] at h
  exact h
theorem tr_lens {l p : Rat} (hl : GapOk l) (hp : PowOk p) : TrOk (2 - p * l) := by
  rcases pow_cases hp with rfl | rfl | rfl | rfl | rfl | rfl | rfl <;> rcases gap_cases hl with rfl | rfl | rfl | rfl
  · have e : 2 - (1) * (1) = (1 : Rat) := by grind
    exact .inr (.inr (.inr (.inl (by rw [e]))))
  · have e : 2 - (1) * (2) = (0 : Rat) := by grind
    exact .inr (.inr (.inl (by rw [e])))
  · have e : 2 - (1) * (1 / 2) = (3 / 2 : Rat) := by grind
    exact .inr (.inr (.inr (.inr (.inr (.inl (by rw [e]; exact ell_3_2))))))
  · have e : 2 - (1) * (-1) = (3 : Rat) := by grind
    exact .inr (.inr (.inr (.inr (.inr (.inr (.inl (by rw [e]; grind)))))))
  · have e : 2 - (2) * (1) = (0 : Rat) := by grind
    exact .inr (.inr (.inl (by rw [e])))
  · have e : 2 - (2) * (2) = (-2 : Rat) := by grind
    exact .inr (.inr (.inr (.inr (.inl (by rw [e])))))
  · have e : 2 - (2) * (1 / 2) = (1 : Rat) := by grind
    exact .inr (.inr (.inr (.inl (by rw [e]))))
  · have e : 2 - (2) * (-1) = (4 : Rat) := by grind
    exact .inr (.inr (.inr (.inr (.inr (.inr (.inl (by rw [e]; grind)))))))
  · have e : 2 - (1 / 2) * (1) = (3 / 2 : Rat) := by grind
    exact .inr (.inr (.inr (.inr (.inr (.inl (by rw [e]; exact ell_3_2))))))
  · have e : 2 - (1 / 2) * (2) = (1 : Rat) := by grind
    exact .inr (.inr (.inr (.inl (by rw [e]))))
  · have e : 2 - (1 / 2) * (1 / 2) = (7 / 4 : Rat) := by grind
    exact .inr (.inr (.inr (.inr (.inr (.inl (by rw [e]; exact ell_7_4))))))
  · have e : 2 - (1 / 2) * (-1) = (5 / 2 : Rat) := by grind
    exact .inr (.inr (.inr (.inr (.inr (.inr (.inl (by rw [e]; grind)))))))
  · have e : 2 - (3) * (1) = (-1 : Rat) := by grind
    exact .inr (.inl (by rw [e]))
  · have e : 2 - (3) * (2) = (-4 : Rat) := by grind
    exact .inr (.inr (.inr (.inr (.inr (.inr (.inr (by rw [e]; grind)))))))
  · have e : 2 - (3) * (1 / 2) = (1 / 2 : Rat) := by grind
    exact .inr (.inr (.inr (.inr (.inr (.inl (by rw [e]; exact ell_1_2))))))
  · have e : 2 - (3) * (-1) = (5 : Rat) := by grind
    exact .inr (.inr (.inr (.inr (.inr (.inr (.inl (by rw [e]; grind)))))))
  · have e : 2 - (4) * (1) = (-2 : Rat) := by grind
    exact .inr (.inr (.inr (.inr (.inl (by rw [e])))))
  · have e : 2 - (4) * (2) = (-6 : Rat) := by grind
    exact .inr (.inr (.inr (.inr (.inr (.inr (.inr (by rw [e]; grind)))))))
  · have e : 2 - (4) * (1 / 2) = (0 : Rat) := by grind
    exact .inr (.inr (.inl (by rw [e])))
  · have e : 2 - (4) * (-1) = (6 : Rat) := by grind
    exact .inr (.inr (.inr (.inr (.inr (.inr (.inl (by rw [e]; grind)))))))
  · have e : 2 - (-1) * (1) = (3 : Rat) := by grind
    exact .inr (.inr (.inr (.inr (.inr (.inr (.inl (by rw [e]; grind)))))))
  · have e : 2 - (-1) * (2) = (4 : Rat) := by grind
    exact .inr (.inr (.inr (.inr (.inr (.inr (.inl (by rw [e]; grind)))))))
  · have e : 2 - (-1) * (1 / 2) = (5 / 2 : Rat) := by grind
    exact .inr (.inr (.inr (.inr (.inr (.inr (.inl (by rw [e]; grind)))))))
  · have e : 2 - (-1) * (-1) = (1 : Rat) := by grind
    exact .inr (.inr (.inr (.inl (by rw [e]))))
  · have e : 2 - (3 / 2) * (1) = (1 / 2 : Rat) := by grind
    exact .inr (.inr (.inr (.inr (.inr (.inl (by rw [e]; exact ell_1_2))))))
  · have e : 2 - (3 / 2) * (2) = (-1 : Rat) := by grind
    exact .inr (.inl (by rw [e]))
  · have e : 2 - (3 / 2) * (1 / 2) = (5 / 4 : Rat) := by grind
    exact .inr (.inr (.inr (.inr (.inr (.inl (by rw [e]; exact ell_5_4))))))
  · have e : 2 - (3 / 2) * (-1) = (7 / 2 : Rat) := by grind
    exact .inr (.inr (.inr (.inr (.inr (.inr (.inl (by rw [e]; grind)))))))
theorem core_tr {c : List El} (h : CoreOk c) : TrOk ((tmap c).a + (tmap c).d) := by
  rcases h with ⟨l, p, o, hl, hp, ho, rfl⟩ | ⟨l, p, o, f, hl, hp, ho, hf, rfl⟩ | ⟨m, hm, rfl⟩ | ⟨l, hl, rfl⟩
  · rw [tmap_lens]
    have e : 1 + (1 - p * l) = 2 - p * l := by grind
    show TrOk (1 + (1 - p * l))
    rw [e]
    exact tr_lens hl hp
  · rw [tmap_prism]
    have e : 1 + (1 - p * l) = 2 - p * l := by grind
    show TrOk (1 + (1 - p * l))
    rw [e]
    exact tr_lens hl hp
  · rw [tmap_afo]
    show TrOk (m + 1 / m)
    rcases hm with rfl | rfl | rfl
    · rw [dv21]
      exact .inr (.inr (.inr (.inr (.inr (.inr (.inl (by grind)))))))
    · rw [dvm1]
      exact .inr (.inr (.inr (.inr (.inl (by grind)))))
    · rw [dv12]
      exact .inr (.inr (.inr (.inr (.inr (.inr (.inl (by grind)))))))
  · rw [tmap_gap]
    exact .inl (by show (1 : Rat) + 1 = 2; grind)
end Rt
set_option Elab.async false
set_option linter.all false
set_option maxRecDepth 100000
set_option maxHeartbeats 4000000
set_option exponentiation.threshold 100000
/-! The drawn trains: sizes. -/
namespace Rt
theorem lo_bq {lo : Rat} (h : FrOk lo) : Bq 6 72 lo := h.bq.mono (by decide)
theorem hi_bq {lo : Rat} {k : Int} (h : FrOk lo) (h0 : 0 ≤ k) (h8 : k ≤ 8) : Bq 6 72 (lo + Rat.divInt k 2) := by
  have : Bq 6 24 (Rat.divInt k 2) := Bq.ofDiv (d := 2) (k := 3) (by omega) (by decide)
  exact (h.bq.add this).mono (by decide)
/-- both heights of a stop have small denominators -/
def StB (e : El) : Prop := ∀ lo hi, e = .stop lo hi → (∀ q, lo = some q → Bq 6 72 q) ∧ ∀ q, hi = some q → Bq 6 72 q
theorem StopOk.stb {s : El} (h : StopOk s) : StB s := by
  obtain ⟨lo, k, hl, h0, h8, rfl | rfl | rfl⟩ := h
  · intro a b e
    cases e
    exact ⟨(fun q e => by cases e), (fun q e => by cases e; exact hi_bq hl h0 h8)⟩
  · intro a b e
    cases e
    exact ⟨(fun q e => by cases e; exact lo_bq hl), (fun q e => by cases e)⟩
  · intro a b e
    cases e
    exact ⟨(fun q e => by cases e; exact lo_bq hl), (fun q e => by cases e; exact hi_bq hl h0 h8)⟩
theorem end_stb : StB (.stop (some (Rat.divInt (-4) 1)) (some (Rat.divInt 4 1))) := by
  intro a b e
  cases e
  exact ⟨(fun q e => by cases e; exact Bq.ofDiv (d := 1) (k := 6) (by decide) (by decide)), (fun q e => by cases e; exact Bq.ofDiv (d := 1) (k := 6) (by decide) (by decide))⟩
theorem bsz {d b : Nat} {q : Rat} (h : Bq d b q) (d0 : 0 < d) (hd : d < 1000) (hb : b < 1000) : Sz 400 q := (h.sz (n := 10) d0 (by omega) (by omega) (by decide)).mono (by decide)
theorem stb_sz {lo hi : Option Rat} (h : StB (.stop lo hi)) : (El.stop lo hi).Sz 400 := ⟨fun q e => bsz ((h lo hi rfl).1 q e) (by decide) (by decide) (by decide), fun q e => bsz ((h lo hi rfl).2 q e) (by decide) (by decide) (by decide)⟩
theorem StopOk.sz {s : El} (h : StopOk s) : s.Sz 400 := by
  have k := h.stb
  obtain ⟨lo, k', hl, h0, h8, rfl | rfl | rfl⟩ := h <;> exact stb_sz k
theorem core_el {c : List El} (h : CoreOk c) : ∀ e ∈ c, e.Sz 400 ∧ ∀ lo hi, e ≠ .stop lo hi := by
  rcases h with ⟨l, p, o, hl, hp, ho, rfl⟩ | ⟨l, p, o, f, hl, hp, ho, hf, rfl⟩ | ⟨m, hm, rfl⟩ | ⟨l, hl, rfl⟩
  · intro e he
    simp only [List.mem_cons, List.not_mem_nil, or_false] at he
    rcases he with rfl | rfl
    · exact ⟨bsz hl.bq (by decide) (by decide) (by decide), fun _ _ z => by cases z⟩
    · exact ⟨⟨bsz hp.bq (by decide) (by decide) (by decide), bsz ho.bq (by decide) (by decide) (by decide)⟩, fun _ _ z => by cases z⟩
  · intro e he
    simp only [List.mem_cons, List.not_mem_nil, or_false] at he
    rcases he with rfl | rfl | rfl
    · exact ⟨bsz hl.bq (by decide) (by decide) (by decide), fun _ _ z => by cases z⟩
    · exact ⟨⟨bsz hp.bq (by decide) (by decide) (by decide), bsz ho.bq (by decide) (by decide) (by decide)⟩, fun _ _ z => by cases z⟩
    · exact ⟨bsz hf.bq (by decide) (by decide) (by decide), fun _ _ z => by cases z⟩
  · intro e he
    rw [List.mem_singleton.mp he]
    exact ⟨⟨bsz hm.bq.1 (by decide) (by decide) (by decide), hm.bq.2.2.1⟩, fun _ _ z => by cases z⟩
  · intro e he
    rw [List.mem_singleton.mp he]
    exact ⟨bsz hl.bq (by decide) (by decide) (by decide), fun _ _ z => by cases z⟩
theorem core_len {c : List El} (h : CoreOk c) : c.length ≤ 3 := by
  rcases h with ⟨_, _, _, _, _, _, rfl⟩ | ⟨_, _, _, _, _, _, _, _, rfl⟩ | ⟨_, _, rfl⟩ | ⟨_, _, rfl⟩ <;> simp
/-- its elements, and how many of them are stops -/
theorem cav_el {t : List El} (h : Cav t) : (∀ e ∈ t, e.Sz 400 ∧ StB e) ∧ t.length ≤ 5 := by
  have cs : ∀ {c : List El}, CoreOk c → ∀ e ∈ c, e.Sz 400 ∧ StB e := fun hc e he => ⟨(core_el hc e he).1, fun lo hi z => absurd z ((core_el hc e he).2 lo hi)⟩
  obtain ⟨c, hc, ⟨s, hs, rfl⟩ | ⟨s, s', hs, hs', rfl⟩ | rfl⟩ := h
  · have := core_len hc
    refine ⟨fun e he => ?_, by simp only [List.length_cons]; omega⟩
    rcases List.mem_cons.mp he with rfl | he
    · exact ⟨hs.sz, hs.stb⟩
    · exact cs hc e he
  · have := core_len hc
    refine ⟨fun e he => ?_, by simp only [List.length_cons, List.length_append, List.length_nil]; omega⟩
    rcases List.mem_append.mp he with he | he
    · rcases List.mem_cons.mp he with rfl | he
      · exact ⟨hs.sz, hs.stb⟩
      · exact cs hc e he
    · rw [List.mem_singleton.mp he]
      exact ⟨hs'.sz, hs'.stb⟩
  · have := core_len hc
    refine ⟨fun e he => ?_, by simp only [List.length_cons, List.length_append, List.length_nil]; omega⟩
    rcases List.mem_append.mp he with he | he
    · exact cs hc e he
    · rw [List.mem_singleton.mp he]
      exact ⟨stb_sz end_stb, end_stb⟩
end Rt
set_option Elab.async false
set_option linter.all false
set_option maxRecDepth 100000
set_option maxHeartbeats 4000000
set_option exponentiation.threshold 100000
/-! The drawn trains: half-planes. -/
namespace Rt
theorem Bq.nd {d b : Nat} {q : Rat} (h : Bq d b q) (d0 : 0 < d) : q.num.natAbs ≤ b ∧ q.den ≤ d := by
  obtain ⟨z, a, l⟩ := h
  have h0 : (d : Rat) ≠ 0 := fun e => by have := Rat.natCast_eq_zero_iff.mp e; omega
  have e : q = Rat.normalize z d (by omega) := by
    rw [Rat.normalize_eq_mkRat, Rat.mkRat_eq_div, ← a, Rat.mul_div_cancel h0]
  rw [e]
  exact ⟨Nat.le_trans (normalize_num_le _ _ _) l, normalize_den_le _ _ _⟩
theorem mkPl_le {d b : Nat} {p q r : Rat} (d0 : 0 < d) (hp : Bq d b p) (hq : Bq d b q) (hr : Bq d b r) : (mkPl p q r).x.natAbs ≤ b * (d * d) ∧ (mkPl p q r).y.natAbs ≤ b * (d * d) ∧ (mkPl p q r).z.natAbs ≤ b * (d * d) := by
  obtain ⟨a1, a2⟩ := hp.nd d0
  obtain ⟨b1, b2⟩ := hq.nd d0
  obtain ⟨c1, c2⟩ := hr.nd d0
  have k : ∀ {x : Int} {y z : Nat}, x.natAbs ≤ b → y ≤ d → z ≤ d → ∀ g : Int, ((x * ((y : Int) * (z : Int))) / g).natAbs ≤ b * (d * d) := fun {x y z} hx hy hz g => by
    refine Nat.le_trans (Int.natAbs_ediv_le_natAbs _ _) ?_
    rw [Int.natAbs_mul, Int.natAbs_mul, Int.natAbs_natCast, Int.natAbs_natCast]
    exact Nat.mul_le_mul hx (Nat.mul_le_mul hy hz)
  exact ⟨k a1 b2 c2 _, k b1 a2 c2 _, k c1 a2 b2 _⟩
theorem mkPl_ne {p q r : Rat} (h : p ≠ 0 ∨ q ≠ 0) : (mkPl p q r).x ≠ 0 ∨ (mkPl p q r).y ≠ 0 := by
  obtain ⟨d1, d2, _⟩ := plG_dvd p q r
  rcases h with h | h
  · refine .inl fun e => ?_
    have h1 : plP p q r ≠ 0 := mul_ne (fun z => h (Rat.num_eq_zero.mp z)) (mul_ne (denI_ne q) (denI_ne r))
    have e2 : plP p q r / plG p q r = 0 := e
    have := Int.mul_ediv_cancel' d1
    rw [e2, Int.mul_zero] at this
    exact h1 this.symm
  · refine .inr fun e => ?_
    have h1 : plQ p q r ≠ 0 := mul_ne (fun z => h (Rat.num_eq_zero.mp z)) (mul_ne (denI_ne p) (denI_ne r))
    have e2 : plQ p q r / plG p q r = 0 := e
    have := Int.mul_ediv_cancel' d2
    rw [e2, Int.mul_zero] at this
    exact h1 this.symm
/-- a half-plane of a drawn train -/
structure BasePl (h : Pl) : Prop where
  sz : h.x.natAbs ≤ 48384 ∧ h.y.natAbs ≤ 48384 ∧ h.z.natAbs ≤ 48384
  ne : h.x ≠ 0 ∨ h.y ≠ 0
theorem el_base {e : El} {m : Mp} (hm : PreOk m) (he : StB e) : ∀ h ∈ elPl m e, BasePl h := by
  cases e with
  | stop lo hi =>
    intro h hh
    have hh : h ∈ edgePl lo hi m := hh
    rw [edgePl_eq] at hh
    obtain ⟨l1, l2⟩ := he lo hi rfl
    have ma : Bq 12 336 m.a := hm.mb.1.mono (by decide)
    have mb : Bq 12 336 m.b := hm.mb.2.1.mono (by decide)
    have na : -m.a ≠ 0 := fun z => hm.a (by grind)
    rcases List.mem_append.mp hh with z | z
    · cases lo with
      | none => cases z
      | some l =>
        rw [List.mem_singleton.mp z]
        have : Bq 12 336 (m.e - l) := (hm.mb.2.2.2.2.1.sub ((l1 l rfl).up 2)).mono (by decide)
        exact ⟨mkPl_le (by decide) ma.neg mb.neg this, mkPl_ne (.inl na)⟩
    · cases hi with
      | none => cases z
      | some l =>
        rw [List.mem_singleton.mp z]
        have : Bq 12 336 (l - m.e) := (((l2 l rfl).up 2).sub hm.mb.2.2.2.2.1).mono (by decide)
        exact ⟨mkPl_le (by decide) ma mb this, mkPl_ne (.inl hm.a)⟩
  | gap l => intro h hh; cases hh
  | lens p o => intro h hh; cases hh
  | prism f => intro h hh; cases hh
  | afocal q => intro h hh; cases hh
theorem cav_base {t : List El} (hc : Cav t) : ∀ h ∈ hplsN t t.length, BasePl h := by
  obtain ⟨c, _, _, hp⟩ := cav_pre hc
  intro h hh
  unfold hplsN at hh
  obtain ⟨l, hl, hm⟩ := List.mem_flatten.mp hh
  obtain ⟨i, hi, rfl⟩ := List.mem_map.mp hl
  cases e : t[i]? with
  | none =>
    rw [e] at hm
    cases hm
  | some x =>
    rw [e] at hm
    exact el_base (hp i) ((cav_el hc).1 x (List.mem_of_getElem? e)).2 h hm
theorem hpls_stops (t : List El) : ∀ n, n ≤ t.length → (hplsN t n).length ≤ 2 * ((t.take n).filter fun e => !nonStop e).length
  | 0, _ => Nat.le_refl _
  | n + 1, hl => by
    have ee : t[n]? = some t[n] := List.getElem?_eq_getElem hl
    have ih := hpls_stops t n (by omega)
    rw [hplsN_succ ee, take_snoc ee, List.filter_append, List.length_append, List.length_append]
    have : (elPl (tmap (t.take n)) t[n]).length ≤ 2 * ([t[n]].filter fun e => !nonStop e).length := by
      cases t[n] with
      | stop lo hi => exact edgePl_len _ _ _
      | gap l => exact Nat.zero_le _
      | lens p o => exact Nat.zero_le _
      | prism f => exact Nat.zero_le _
      | afocal q => exact Nat.zero_le _
    omega
theorem cav_few {t : List El} (hc : Cav t) : (hplsN t t.length).length ≤ 4 := by
  have h := hpls_stops t t.length (Nat.le_refl _)
  rw [List.take_length] at h
  have core0 : ∀ {c : List El}, CoreOk c → (c.filter fun e => !nonStop e) = [] := fun hc => by
    rcases hc with ⟨_, _, _, _, _, _, rfl⟩ | ⟨_, _, _, _, _, _, _, _, rfl⟩ | ⟨_, _, rfl⟩ | ⟨_, _, rfl⟩ <;> rfl
  have le1 : ∀ (s : El) (l : List El), ((s :: l).filter fun e => !nonStop e).length ≤ (l.filter fun e => !nonStop e).length + 1 := fun s l => by
    rw [List.filter_cons]
    split
    · exact Nat.le_refl _
    · exact Nat.le_succ _
  have : (t.filter fun e => !nonStop e).length ≤ 2 := by
    obtain ⟨c, hc, ⟨s, hs, rfl⟩ | ⟨s, s', hs, hs', rfl⟩ | rfl⟩ := hc
    · have := le1 s c
      rw [core0 hc] at this
      have l0 : ([] : List El).length = 0 := rfl
      omega
    · rw [List.cons_append]
      have a := le1 s (c ++ [s'])
      rw [List.filter_append, core0 hc, List.nil_append] at a
      have b := le1 s' []
      have l0 : (([] : List El).filter fun e => !nonStop e).length = 0 := rfl
      omega
    · rw [List.filter_append, core0 hc, List.nil_append]
      have b := le1 (.stop (some (Rat.divInt (-4) 1)) (some (Rat.divInt 4 1))) []
      have l0 : (([] : List El).filter fun e => !nonStop e).length = 0 := rfl
      omega
  omega
end Rt
set_option Elab.async false
set_option linter.all false
set_option maxRecDepth 100000
set_option maxHeartbeats 4000000
set_option exponentiation.threshold 100000
/-! The drawn trains: what the walk asks of them. -/
namespace Rt
theorem MB.szN {d b : Nat} {m : Mp} (h : MB d b m) (n : Nat) {k : Nat} (d0 : 0 < d) (hd : d < 2 ^ n) (hb : b < 2 ^ n) (n1 : 1 ≤ n) (e : n ≤ k) : m.Sz k := (h.sz d0 hd hb n1).mono e
theorem RB.sz {d b n : Nat} {r : Rat × Rat} (h : RB d b r) (d0 : 0 < d) (hd : d < 2 ^ n) (hb : b < 2 ^ n) (n1 : 1 ≤ n) : RSz n r := ⟨h.1.sz d0 hd hb n1, h.2.sz d0 hd hb n1⟩
theorem cav_tsz {t : List El} (h : Cav t) : TSz t := by
  obtain ⟨c, _, _, hp⟩ := cav_pre h
  exact ⟨fun e he => ((cav_el h).1 e he).1, fun i => (hp i).mb.szN 8 (by decide) (by decide) (by decide) (by decide) (by decide)⟩
theorem cav_tok {t : List El} (h : Cav t) : TOk t := by
  obtain ⟨c, _, _, hp⟩ := cav_pre h
  exact ⟨cav_tsz h, by have := (cav_el h).2; omega, fun i lo hi _ => .inl (hp i).a⟩
theorem cav_whole {t : List El} (h : Cav t) : PreOk (tmap t) := by
  obtain ⟨c, _, _, hp⟩ := cav_pre h
  have := hp t.length
  rw [List.take_length] at this
  exact this
/-- a ray of short common denominator is short on its way -/
theorem cav_ray {t : List El} (h : Cav t) {d b : Nat} {r : Rat × Rat} (hr : RB d b r) (d0 : 0 < d) (hd : d < 2 ^ 900) (hb : b < 2 ^ 900) : RayOk t r := by
  obtain ⟨c, _, _, hp⟩ := cav_pre h
  refine ⟨fun e he => ((cav_el h).1 e he).1, by have := (cav_el h).2; omega, fun i => ?_⟩
  have := (hp i).mb.app hr
  have e : (2 : Nat) ^ 1000 = 2 ^ 900 * 2 ^ 100 := by rw [← Nat.pow_add]
  have e2 : (1024 : Nat) ≤ 2 ^ 100 := by decide
  have e3 : 2 ^ 900 * 1024 ≤ 2 ^ 900 * 2 ^ 100 := Nat.mul_le_mul_left _ e2
  exact this.sz (by omega) (by omega) (by omega) (by decide)
end Rt
set_option Elab.async false
set_option linter.all false
set_option maxRecDepth 100000
set_option maxHeartbeats 4000000
set_option exponentiation.threshold 100000
/-! The drawn trains: their powers, the half-planes of the passes. -/
namespace Rt
theorem pow_mb {t : List El} (h : Cav t) (k : Nat) : MB (12 ^ k) (768 ^ k) (npow (tmap t) k) := (cav_whole h).mb.pow (by decide) k
theorem inv_mb {t : List El} (h : Cav t) : MB 144 73728 (tmap t).inv := (cav_whole h).mb.inv (by decide)
theorem ipow_mb {t : List El} (h : Cav t) (k : Nat) : MB (144 ^ k) (294912 ^ k) (npow (tmap t).inv k) := (inv_mb h).pow (by decide) k
theorem ppos {b : Nat} (h : 0 < b) (k : Nat) : 0 < b ^ k := Nat.pow_pos h
theorem ple {b c k n m : Nat} (hb : 0 < b) (h : k ≤ n) (e : b ^ n < 2 ^ m) : b ^ k < 2 ^ m := Nat.lt_of_le_of_lt (Nat.pow_le_pow_right hb h) e
theorem cav_pow {t : List El} (h : Cav t) {k : Nat} (hk : k ≤ 12) : (npow (tmap t) k).Sz 1000 := (pow_mb h k).szN 130 (ppos (by decide) k) (ple (c := 0) (by decide) hk (by decide)) (ple (c := 0) (by decide) hk (by decide)) (by decide) (by decide)
theorem map_ok {t : List El} (h : Cav t) (k : Nat) {x : Pl} (hx : BasePl x) : mapOk (npow (tmap t).inv k) x := by
  refine ⟨⟨Nat.lt_of_le_of_lt hx.sz.1 (by decide), Nat.lt_of_le_of_lt hx.sz.2.1 (by decide), Nat.lt_of_le_of_lt hx.sz.2.2 (by decide)⟩, ?_⟩
  have hd := (cav_whole h).dt
  rw [inv_pow hd]
  have d1 := det_pow hd k
  generalize npow (tmap t) k = m at d1 ⊢
  unfold Det1 at d1
  apply Classical.byContradiction
  intro q
  have q1 : (x.x : Rat) * m.a + (x.y : Rat) * m.c = 0 := Classical.byContradiction fun z => q (.inl z)
  have q2 : (x.x : Rat) * m.b + (x.y : Rat) * m.d = 0 := Classical.byContradiction fun z => q (.inr z)
  have ex : (x.x : Rat) = 0 := by grind
  have ey : (x.y : Rat) = 0 := by grind
  rcases hx.ne with z | z
  · exact z (Rat.intCast_eq_zero_iff.mp ex)
  · exact z (Rat.intCast_eq_zero_iff.mp ey)
theorem cav_pp {t : List El} (h : Cav t) : PpOk t 3 := by
  refine ⟨cav_tok h, by have := (cav_el h).2; omega, by decide, (cav_whole h).mb.szN 8 (by decide) (by decide) (by decide) (by decide) (by decide), fun k hk => ?_, fun k hk => ?_, fun k hk x hx => map_ok h k (cav_base h x hx)⟩
  · exact (ipow_mb h k).szN 120 (ppos (by decide) k) (ple (c := 0) (by decide) hk (by decide)) (ple (c := 0) (by decide) hk (by decide)) (by decide) (by decide)
  · exact (ipow_mb h k).szN 60 (ppos (by decide) k) (ple (c := 0) (by decide) hk (by decide)) (ple (c := 0) (by decide) hk (by decide)) (by decide) (by decide)
/-- how great a mapped half-plane is -/
theorem map_le {t : List El} (h : Cav t) (k : Nat) {x : Pl} (hx : BasePl x) : let y := mapPl (npow (tmap t).inv k) x
    y.x.natAbs ≤ (145152 * 768 ^ k) * (12 ^ k * 12 ^ k) ∧ y.y.natAbs ≤ (145152 * 768 ^ k) * (12 ^ k * 12 ^ k) ∧ y.z.natAbs ≤ (145152 * 768 ^ k) * (12 ^ k * 12 ^ k) := by
  have hd := (cav_whole h).dt
  have mb := pow_mb h k
  have bx : Bq 1 48384 (x.x : Rat) := Bq.of_int hx.sz.1
  have by' : Bq 1 48384 (x.y : Rat) := Bq.of_int hx.sz.2.1
  have bz : Bq 1 48384 (x.z : Rat) := Bq.of_int hx.sz.2.2
  have e12 : (12 : Nat) ^ k ≤ 768 ^ k := Nat.pow_le_pow_left (by decide) k
  have w : ∀ {p q : Rat}, Bq (12 ^ k) (768 ^ k) p → Bq (12 ^ k) (768 ^ k) q → Bq (12 ^ k) (96768 * 768 ^ k) ((x.x : Rat) * p + (x.y : Rat) * q) := fun hp hq => by
    have := (bx.mul hp).add (by'.mul hq)
    rw [Nat.one_mul] at this
    exact this.mono (by omega)
  have key := mkPl_le (d := 12 ^ k) (b := 145152 * 768 ^ k) (p := (x.x : Rat) * (npow (tmap t) k).a + (x.y : Rat) * (npow (tmap t) k).c) (q := (x.x : Rat) * (npow (tmap t) k).b + (x.y : Rat) * (npow (tmap t) k).d) (r := (x.z : Rat) - ((x.x : Rat) * (npow (tmap t) k).e + (x.y : Rat) * (npow (tmap t) k).f)) (ppos (by decide) k) ((w mb.1 mb.2.2.1).mono (by omega)) ((w mb.2.1 mb.2.2.2.1).mono (by omega)) (by
    have a := bz.up (12 ^ k)
    rw [Nat.one_mul] at a
    exact (a.sub (w mb.2.2.2.2.1 mb.2.2.2.2.2)).mono (by omega))
  show (mapPl (npow (tmap t).inv k) x).x.natAbs ≤ _ ∧ _
  unfold mapPl
  rw [inv_pow hd]
  exact key
end Rt
set_option Elab.async false
set_option linter.all false
set_option maxRecDepth 100000
set_option maxHeartbeats 4000000
set_option exponentiation.threshold 100000
/-! The drawn trains: all but the rays. -/
namespace Rt
theorem map_sz {t : List El} (h : Cav t) {k n m : Nat} (hk : k ≤ n) (e : (145152 * 768 ^ n) * (12 ^ n * 12 ^ n) < 2 ^ m) {x : Pl} (hx : BasePl x) : (mapPl (npow (tmap t).inv k) x).Sz m := by
  obtain ⟨a, b, c⟩ := map_le h k hx
  have l : (145152 * 768 ^ k) * (12 ^ k * 12 ^ k) ≤ (145152 * 768 ^ n) * (12 ^ n * 12 ^ n) := by
    have e1 : (768 : Nat) ^ k ≤ 768 ^ n := Nat.pow_le_pow_right (by decide) hk
    have e2 : (12 : Nat) ^ k ≤ 12 ^ n := Nat.pow_le_pow_right (by decide) hk
    exact Nat.mul_le_mul (Nat.mul_le_mul_left _ e1) (Nat.mul_le_mul e2 e2)
  exact ⟨Nat.lt_of_le_of_lt a (Nat.lt_of_le_of_lt l e), Nat.lt_of_le_of_lt b (Nat.lt_of_le_of_lt l e), Nat.lt_of_le_of_lt c (Nat.lt_of_le_of_lt l e)⟩
theorem cav_hn {t : List El} (h : Cav t) : HnOk t 3 := by
  refine ⟨cav_pp h, by have := cav_few h; omega, by decide, fun k hk y hy => ?_⟩
  obtain ⟨x, hx, rfl⟩ := List.mem_map.mp hy
  exact map_sz h hk (by decide) (cav_base h x hx)
theorem cav_pl {t : List El} (h : Cav t) : ∀ y ∈ ppl t 2, y.Sz 50 := fun y hy => by
  obtain ⟨k, hk, hy⟩ := ppl_mem hy
  obtain ⟨x, hx, rfl⟩ := List.mem_map.mp hy
  exact map_sz h (show k ≤ 1 by omega) (by decide) (cav_base h x hx)
theorem cav_unit {t : List El} (h : Cav t) (x y : Rat) (hx : x = 0 ∨ x = 1) (hy : y = 0 ∨ y = 1) : RayOk t (x, y) := by
  have b : ∀ {z : Rat}, z = 0 ∨ z = 1 → Bq 1 1 z := fun {z} hz => by
    rcases hz with rfl | rfl
    · exact Bq.zero 1 1
    · exact Bq.one (Nat.le_refl 1)
  exact cav_ray h (d := 1) (b := 1) ⟨b hx, b hy⟩ (by decide) (by decide) (by decide)
end Rt
set_option Elab.async false
set_option linter.all false
set_option maxRecDepth 100000
set_option maxHeartbeats 4000000
set_option exponentiation.threshold 100000
/-! The drawn trains: rays of short common denominator. -/
namespace Rt
theorem Bq.ofI {v d : Int} {b : Nat} (h : v.natAbs ≤ b) (d0 : d ≠ 0) : Bq d.natAbs b (Rat.divInt v d) := by
  have h0 : (d : Rat) ≠ 0 := fun z => d0 (Rat.intCast_eq_zero_iff.mp z)
  rcases Int.natAbs_eq d with e | e
  · refine ⟨v, ?_, h⟩
    have e2 : ((d.natAbs : Nat) : Rat) = (d : Rat) := by
      conv => rhs; rw [e]
      rw [Rat.intCast_natCast]
    rw [e2, Rat.divInt_eq_div, Rat.div_mul_cancel h0]
  · refine ⟨-v, ?_, by omega⟩
    have e2 : ((d.natAbs : Nat) : Rat) = -(d : Rat) := by
      conv => rhs; rw [e]
      rw [Rat.intCast_neg, Rat.intCast_natCast]
      grind
    rw [e2, Rat.divInt_eq_div, Rat.intCast_neg]
    have := Rat.div_mul_cancel (a := (v : Rat)) h0
    grind
theorem RC.rb {n : Nat} {r : Rat × Rat} (h : RC n r) : ∃ D, 0 < D ∧ D < 2 ^ n ∧ RB D (2 ^ n) r := by
  obtain ⟨d, x, y, h0, hd, hx, hy, rfl⟩ := h
  exact ⟨d.natAbs, by omega, hd, Bq.ofI (by omega) h0, Bq.ofI (by omega) h0⟩
end Rt
set_option Elab.async false
set_option linter.all false
set_option maxRecDepth 100000
set_option maxHeartbeats 4000000
set_option exponentiation.threshold 100000
/-! For ever, decided: numbers of a drawn train's ray. -/
namespace Rt
theorem absCast (s : Int) : ((s.natAbs : Nat) : Rat) = (s : Rat) ∨ ((s.natAbs : Nat) : Rat) = -(s : Rat) := by
  rcases Int.natAbs_eq s with e | e
  · left
    conv => rhs; rw [e]
    rw [Rat.intCast_natCast]
  · right
    conv => rhs; rw [e]
    rw [Rat.intCast_neg, Rat.intCast_natCast]
    grind
theorem Bq.div {d b e : Nat} {p q : Rat} {s : Int} (h : Bq d b p) (hq : q * (e : Rat) = (s : Rat)) (q0 : q ≠ 0) : Bq (d * s.natAbs) (b * e) (p / q) := by
  obtain ⟨z, a, l⟩ := h
  have pq : p / q * q = p := Rat.div_mul_cancel q0
  have key : p / q * (d : Rat) * (s : Rat) = ((z * (e : Int) : Int) : Rat) := by
    rw [← hq, Rat.intCast_mul, ← a, Rat.intCast_natCast]
    generalize p / q = y at pq
    rw [← pq]
    grind
  have hb : (z * (e : Int)).natAbs ≤ b * e := by
    rw [Int.natAbs_mul, Int.natAbs_natCast]
    exact Nat.mul_le_mul_right e l
  rcases absCast s with e1 | e1
  · refine ⟨z * e, ?_, hb⟩
    rw [Rat.natCast_mul, ← key, e1]
    grind
  · refine ⟨-(z * e), ?_, by omega⟩
    rw [Rat.natCast_mul, Rat.intCast_neg, ← key, e1]
    grind
theorem RB.rc {D b n : Nat} {r : Rat × Rat} (h : RB D b r) (D0 : 0 < D) (hD : D < 2 ^ n) (hb : b < 2 ^ n) : RC n r := by
  obtain ⟨⟨x, ex, lx⟩, ⟨y, ey, ly⟩⟩ := h
  have h0 : (D : Rat) ≠ 0 := fun e => by have := Rat.natCast_eq_zero_iff.mp e; omega
  have dv : ∀ {q : Rat} {z : Int}, q * (D : Rat) = (z : Rat) → q = Rat.divInt z (D : Int) := fun {q z} e => by
    rw [Rat.divInt_eq_div, Rat.intCast_natCast, ← e, Rat.mul_div_cancel h0]
  exact ⟨(D : Int), x, y, by omega, by rw [Int.natAbs_natCast]; exact hD, by omega, by omega, by rw [← dv ex, ← dv ey]⟩
/-- the trace -/
theorem tr_bq {t : List El} (h : Cav t) : Bq 12 384 (tr t) := ((cav_whole h).mb.1.add (cav_whole h).mb.2.2.2.1).mono (by decide)
theorem tr_ok {t : List El} (h : Cav t) : TrOk (tr t) := by
  obtain ⟨c, hc, e, _⟩ := cav_pre h
  unfold tr
  rw [e]
  exact core_tr hc
theorem share_bq {t : List El} (h : Cav t) : ∃ s : Int, (2 - tr t) * ((12 : Nat) : Rat) = (s : Rat) ∧ s.natAbs ≤ 408 := by
  have h2 : Bq 12 24 (2 : Rat) := by
    have := (Bq.of_int (i := 2) (b := 2) (by decide)).up 12
    exact this
  exact h2.sub (tr_bq h)
theorem cav_fx {t : List El} (h : Cav t) (r : Rat × Rat) (hf : fixR (tmap t) = some r) : RC 110 r := by
  have pk := (cav_whole h).mb
  obtain ⟨s, hs, ls⟩ := share_bq h
  unfold fixR at hf
  by_cases z : 2 - ((tmap t).a + (tmap t).d) = 0
  · rw [if_pos z] at hf
    cases hf
  rw [if_neg z] at hf
  cases hf
  have hs : (2 - ((tmap t).a + (tmap t).d)) * ((12 : Nat) : Rat) = (s : Rat) := hs
  have s0 : s ≠ 0 := fun e => z (by
    rw [e] at hs
    rcases Rat.mul_eq_zero.mp hs with q | q
    · exact q
    · exact absurd q (by decide))
  have one : Bq 12 12 (1 : Rat) := Bq.one (Nat.le_refl _)
  have k1 : Bq 144 76032 ((1 - (tmap t).d) * (tmap t).e + (tmap t).b * (tmap t).f) := (((one.sub pk.2.2.2.1).mul pk.2.2.2.2.1).add (pk.2.1.mul pk.2.2.2.2.2)).mono (by decide)
  have k2 : Bq 144 76032 ((1 - (tmap t).a) * (tmap t).f + (tmap t).c * (tmap t).e) := (((one.sub pk.1).mul pk.2.2.2.2.2).add (pk.2.2.1.mul pk.2.2.2.2.1)).mono (by decide)
  refine RB.rc (D := 144 * s.natAbs) (b := 76032 * 12) ⟨k1.div hs z, k2.div hs z⟩ (by omega) ?_ (by decide)
  exact Nat.lt_of_le_of_lt (Nat.mul_le_mul_left 144 ls) (by decide)
/-! ### the values along the way -/
theorem u_rec {t : List El} (h : Det1 (tmap t)) (x : Pl) (r : Rat × Rat) : ∃ c, ∀ k, uAt t x r (k + 2) = tr t * uAt t x r (k + 1) - uAt t x r k + c := by
  refine ⟨(x.x : Rat) * ((tmap t).b * (tmap t).f + (tmap t).e - (tmap t).d * (tmap t).e) + (x.y : Rat) * ((tmap t).c * (tmap t).e + (tmap t).f - (tmap t).a * (tmap t).f) - 2 * (x.z : Rat) + tr t * (x.z : Rat), fun k => ?_⟩
  have e1 : (npow (tmap t) (k + 1)).app r = (tmap t).app ((npow (tmap t) k).app r) := by
    rw [← then_app]
    rfl
  have e2 : (npow (tmap t) (k + 2)).app r = (tmap t).app ((npow (tmap t) (k + 1)).app r) := by
    rw [← then_app]
    rfl
  unfold uAt tr
  rw [e2, e1]
  generalize (npow (tmap t) k).app r = q
  obtain ⟨X, Y⟩ := q
  generalize tmap t = m at h ⊢
  obtain ⟨a, b, c, d, e, f⟩ := m
  unfold Det1 at h
  unfold Mp.app Pl.at
  dsimp only at h ⊢
  generalize (x.x : Rat) = p
  generalize (x.y : Rat) = q
  generalize (x.z : Rat) = z
  have i1 : a * (a * X + b * Y + e) + b * (c * X + d * Y + f) + e = (a + d) * (a * X + b * Y + e) - X + (b * f + e - d * e) := by grind
  have i2 : c * (a * X + b * Y + e) + d * (c * X + d * Y + f) + f = (a + d) * (c * X + d * Y + f) - Y + (c * e + f - a * f) := by grind
  rw [i1, i2]
  grind
theorem u_bq {t : List El} (h : Cav t) {x : Pl} (hx : BasePl x) {D B : Nat} {r : Rat × Rat} (hr : RB D B r) (k : Nat) : Bq (12 ^ k * D) (96768 * (2 * (768 ^ k * B) + 768 ^ k * D) + 48384 * (12 ^ k * D)) (uAt t x r k) := by
  have rk := (pow_mb h k).app hr
  have bx : Bq 1 48384 (x.x : Rat) := Bq.of_int hx.sz.1
  have by' : Bq 1 48384 (x.y : Rat) := Bq.of_int hx.sz.2.1
  have bz : Bq 1 48384 (x.z : Rat) := Bq.of_int hx.sz.2.2
  have a := bx.mul rk.1
  have b := by'.mul rk.2
  have c := bz.up (12 ^ k * D)
  rw [Nat.one_mul] at a b c
  exact ((a.add b).sub c).mono (by omega)
theorem u_bq2 {t : List El} (h : Cav t) {x : Pl} (hx : BasePl x) {D B : Nat} {r : Rat × Rat} (hr : RB D B r) (hD : D < 2 ^ 125) (hB : B < 2 ^ 125) : Bq (144 * D) (2 ^ 163) (uAt t x r 0) ∧ Bq (144 * D) (2 ^ 163) (uAt t x r 1) ∧ Bq (144 * D) (2 ^ 163) (uAt t x r 2) := by
  have u0 := (u_bq h hx hr 0).up 144
  have u1 := (u_bq h hx hr 1).up 12
  have u2 := u_bq h hx hr 2
  rw [show 12 ^ 0 * D * 144 = 144 * D by omega] at u0
  rw [show 12 ^ 1 * D * 12 = 144 * D by omega] at u1
  rw [show 12 ^ 2 * D = 144 * D by omega] at u2
  exact ⟨u0.mono (by omega), u1.mono (by omega), u2.mono (by omega)⟩
theorem esq_bq {t x y : Rat} {d b : Nat} (ht : Bq 12 384 t) (hx : Bq d b x) (hy : Bq d b y) : ∀ k, Bq (d * 12 ^ k) (b * 400 ^ k) (esq t k x y) := by
  have key : ∀ k, Bq (d * 12 ^ k) (b * 400 ^ k) (esq t k x y) ∧ Bq (d * 12 ^ (k + 1)) (b * 400 ^ (k + 1)) (esq t (k + 1) x y) := by
    intro k
    induction k with
    | zero =>
      refine ⟨?_, ?_⟩
      · simp only [Nat.pow_zero, Nat.mul_one]
        exact hx
      · have := hy.up 12
        exact this.mono (by rw [Nat.zero_add, Nat.pow_one]; omega)
    | succ k ih =>
      refine ⟨ih.2, ?_⟩
      rw [← esq_shift]
      have a := ht.mul ih.2
      have c := ih.1.up 144
      have e1 : 12 * (d * 12 ^ (k + 1)) = d * 12 ^ (k + 1 + 1) := by rw [Nat.pow_succ 12 (k + 1), Nat.mul_comm 12, Nat.mul_assoc]
      have e2 : d * 12 ^ k * 144 = d * 12 ^ (k + 1 + 1) := by rw [Nat.pow_succ, Nat.pow_succ, Nat.mul_assoc, Nat.mul_assoc]
      rw [e1] at a
      rw [e2] at c
      refine (a.sub c).mono ?_
      have f1 : b * 400 ^ (k + 1) = 400 * (b * 400 ^ k) := by rw [Nat.pow_succ, ← Nat.mul_assoc, Nat.mul_comm]
      have f2 : b * 400 ^ (k + 1 + 1) = 400 * (b * 400 ^ (k + 1)) := by rw [Nat.pow_succ, ← Nat.mul_assoc, Nat.mul_comm]
      rw [f2, f1]
      omega
  exact fun k => (key k).1
theorem per12 {t x y : Rat} (ht : t = -1 ∨ t = 0 ∨ t = 1) (k : Nat) : esq t (k + 12) x y = esq t k x y := by
  rcases ht with rfl | rfl | rfl
  · have h := cyc3 (esq_rec (-1) x y)
    have a := h (k + 9)
    have b := h (k + 6)
    have c := h (k + 3)
    have d := h k
    exact a.trans (b.trans (c.trans d))
  · have h := cyc4 (esq_rec 0 x y)
    have a := h (k + 8)
    have b := h (k + 4)
    have c := h k
    exact a.trans (b.trans c)
  · have h := cyc6 (esq_rec 1 x y)
    have a := h (k + 6)
    have b := h k
    exact a.trans b
theorem cyc_sz {t x y : Rat} {d : Nat} (ht : Bq 12 384 t) (h1 : t = -1 ∨ t = 0 ∨ t = 1) (d0 : 0 < d) (hd : d < 2 ^ 200) (hx : Bq d (2 ^ 177) x) (hy : Bq d (2 ^ 177) y) (k : Nat) : Sz 1000 (esq t k x y) := by
  have per : ∀ q j, esq t (j + q * 12) x y = esq t j x y := by
    intro q
    induction q with
    | zero => intro j; rw [Nat.zero_mul, Nat.add_zero]
    | succ q ih =>
      intro j
      rw [Nat.succ_mul, ← Nat.add_assoc, per12 h1, ih]
  have hk : k % 12 + k / 12 * 12 = k := by rw [Nat.mul_comm]; exact Nat.mod_add_div k 12
  have := per (k / 12) (k % 12)
  rw [hk] at this
  rw [this]
  have hlt : k % 12 < 12 := Nat.mod_lt _ (by decide)
  generalize k % 12 = j at hlt
  have e := esq_bq ht hx hy j
  have p1 : (12 : Nat) ^ j ≤ 12 ^ 12 := Nat.pow_le_pow_right (by decide) (by omega)
  have p2 : (400 : Nat) ^ j ≤ 400 ^ 12 := Nat.pow_le_pow_right (by decide) (by omega)
  refine e.sz (n := 1000) (Nat.mul_pos d0 (Nat.pow_pos (by decide))) ?_ ?_ (by decide)
  · exact Nat.lt_of_lt_of_le (Nat.mul_lt_mul_of_lt_of_le hd p1 (by decide)) (by decide)
  · exact Nat.lt_of_le_of_lt (Nat.mul_le_mul_left _ p2) (by decide)
/-- the loop's end within 366 turns -/
theorem grow_fin {t x y : Rat} {d : Nat} (ht : Bq 12 384 t) (t5 : 5 / 2 ≤ t) (d0 : 0 < d) (hx : Bq d (2 ^ 177) x) (hy : Bq d (2 ^ 177) y) (hf : formQ x y t ≠ 0) : ∃ k, k ≤ 365 ∧ grow2 (esq t k x y) (esq t (k + 1) x y) := by
  obtain ⟨T, eT, lT⟩ := ht
  obtain ⟨X, eX, lX⟩ := hx
  obtain ⟨Y, eY, lY⟩ := hy
  have dp : (0 : Rat) < (d : Rat) := Rat.natCast_pos.mpr d0
  have eT : t * 12 = (T : Rat) := eT
  have sp : (0 : Rat) < 12 * ((d : Rat) * (d : Rat)) := Rat.mul_pos (by decide) (Rat.mul_pos dp dp)
  have cast : ∀ n : Int, ((n : Int) : Rat) = (n : Rat) := fun _ => rfl
  have c12 : ((12 : Int) : Rat) = 12 := rfl
  have c24 : ((24 : Int) : Rat) = 24 := rfl
  have eW : formQ x y t * (12 * ((d : Rat) * (d : Rat))) = ((12 * (X * X) - T * X * Y + 12 * (Y * Y) : Int) : Rat) := by
    rw [Rat.intCast_add, Rat.intCast_sub, Rat.intCast_mul, Rat.intCast_mul, Rat.intCast_mul, Rat.intCast_mul, Rat.intCast_mul, Rat.intCast_mul, ← eX, ← eY, ← eT, c12]
    unfold formQ
    grind
  have eV : (t + 2) * (x * x) * (12 * ((d : Rat) * (d : Rat))) = (((T + 24) * (X * X) : Int) : Rat) := by
    rw [Rat.intCast_mul, Rat.intCast_add, Rat.intCast_mul, ← eX, ← eT, c24]
    grind
  generalize 12 * (X * X) - T * X * Y + 12 * (Y * Y) = W at eW
  have W0 : W ≠ 0 := fun z => by
    rw [z] at eW
    rcases Rat.mul_eq_zero.mp eW with q | q
    · exact hf q
    · exact absurd q (Ne.symm (Rat.ne_of_lt sp))
  have hV : (T + 24) * (X * X) < 2 ^ 363 := by
    have a : ((T + 24) * (X * X)).natAbs ≤ 408 * (2 ^ 177 * 2 ^ 177) := by
      rw [Int.natAbs_mul, Int.natAbs_mul]
      exact Nat.mul_le_mul (by omega) (Nat.mul_le_mul lX lX)
    have b : (408 : Nat) * (2 ^ 177 * 2 ^ 177) < 2 ^ 363 := by decide
    omega
  generalize (T + 24) * (X * X) = V at eV hV
  have e363 : ((2 ^ 363 : Int) : Rat) = (2 : Rat) ^ 363 := by
    rw [Rat.intCast_pow]
    rfl
  have h0 : esq t 0 x y = x := rfl
  have h1 : esq t 1 x y = y := rfl
  have fin : (t + 2) * (x * x) < (2 : Rat) ^ 363 * formQ x y t ∨ (t + 2) * (x * x) < (2 : Rat) ^ 363 * -formQ x y t := by
    rcases Int.lt_or_lt_of_ne W0 with w | w
    · right
      apply Rat.lt_of_mul_lt_mul_right (c := 12 * ((d : Rat) * (d : Rat))) _ (Rat.le_of_lt sp)
      have : (2 : Rat) ^ 363 * -formQ x y t * (12 * ((d : Rat) * (d : Rat))) = ((2 ^ 363 * -W : Int) : Rat) := by
        rw [Rat.intCast_mul, e363, Rat.intCast_neg, ← eW]
        grind
      rw [eV, this]
      apply Rat.intCast_lt_intCast.mpr
      have : (2 ^ 363 : Int) * 1 ≤ 2 ^ 363 * -W := Int.mul_le_mul_of_nonneg_left (by omega) (by decide)
      omega
    · left
      apply Rat.lt_of_mul_lt_mul_right (c := 12 * ((d : Rat) * (d : Rat))) _ (Rat.le_of_lt sp)
      have : (2 : Rat) ^ 363 * formQ x y t * (12 * ((d : Rat) * (d : Rat))) = ((2 ^ 363 * W : Int) : Rat) := by
        rw [Rat.intCast_mul, e363, ← eW]
        grind
      rw [eV, this]
      apply Rat.intCast_lt_intCast.mpr
      have : (2 ^ 363 : Int) * 1 ≤ 2 ^ 363 * W := Int.mul_le_mul_of_nonneg_left (by omega) (by decide)
      omega
  exact grow_term (n := 363) (esq_rec t x y) t5 fin
end Rt
set_option Elab.async false
set_option linter.all false
set_option maxRecDepth 100000
set_option maxHeartbeats 4000000
set_option exponentiation.threshold 100000
/-! For ever, decided: the drawn trains. -/
namespace Rt
theorem sb_math {t : List El} (h : Cav t) {x : Pl} (hx : BasePl x) {D B : Nat} {r : Rat × Rat} (hr : RB D B r) (D0 : 0 < D) (hD : D < 2 ^ 125) (hB : B < 2 ^ 125) :
    ∃ n, SbOk n (uAt t x r 0) (uAt t x r 1) (uAt t x r 2) (tr t) ∧ (belowB n (uAt t x r 0) (uAt t x r 1) (uAt t x r 2) (tr t) = true ↔ ∀ k, uAt t x r k ≤ 0) := by
  obtain ⟨b0, b1, b2⟩ := u_bq2 h hx hr hD hB
  obtain ⟨c, hu⟩ := u_rec (cav_whole h).dt x r
  have ht := tr_bq h
  have tok := tr_ok h
  obtain ⟨s, hs, ls⟩ := share_bq h
  generalize tr t = T at hu ht tok hs ⊢
  generalize uAt t x r = u at b0 b1 b2 hu ⊢
  have dz : ∀ {q : Rat}, Bq (144 * D) (2 ^ 163) q → Sz 170 q := fun hq => hq.sz (by omega) (by omega) (by decide) (by decide)
  have tz : Sz 10 T := ht.sz (by decide) (by decide) (by decide) (by decide)
  by_cases t2 : T = 2
  · have nc : ¬ (T = -1 ∨ T = 0 ∨ T = 1) := fun q => by
      rw [t2] at q
      rcases q with q | q | q <;> exact absurd q (by decide)
    exact ⟨0, ⟨dz b0, dz b1, dz b2, tz, fun q => absurd t2 q, fun q => absurd q nc, fun q => absurd t2 q⟩, below_iff hu tok fun q => absurd t2 q⟩
  have z0 : 2 - T ≠ 0 := fun z => t2 (by grind)
  have s0 : s ≠ 0 := fun e => z0 (by
    rw [e] at hs
    rcases Rat.mul_eq_zero.mp hs with q | q
    · exact q
    · exact absurd q (by decide))
  -- the middle
  have cb : Bq (1728 * D) (408 * 2 ^ 163) (u 2 - T * u 1 + u 0) := by
    have a := ht.mul b1
    rw [show 12 * (144 * D) = 1728 * D by omega] at a
    have c2 := b2.up 12
    have c0 := b0.up 12
    rw [show 144 * D * 12 = 1728 * D by omega] at c2 c0
    exact ((c2.sub a).add c0).mono (by omega)
  have mb : Bq (1728 * D * s.natAbs) (2 ^ 176) (midQ (u 0) (u 1) (u 2) T) := (cb.div hs z0).mono (by decide)
  have ub : ∀ {q : Rat}, Bq (144 * D) (2 ^ 163) q → Bq (1728 * D * s.natAbs) (2 ^ 176) q := fun hq => by
    have a := hq.up (12 * s.natAbs)
    rw [← Nat.mul_assoc, show 144 * D * 12 = 1728 * D by omega] at a
    exact a.mono (Nat.le_trans (Nat.mul_le_mul_left _ (Nat.mul_le_mul_left 12 ls)) (by decide))
  have d0 : 0 < 1728 * D * s.natAbs := Nat.mul_pos (by omega) (by omega)
  have hd : 1728 * D * s.natAbs < 2 ^ 145 := Nat.lt_of_le_of_lt (Nat.mul_le_mul_left _ ls) (by omega)
  have xb : Bq (1728 * D * s.natAbs) (2 ^ 177) (u 0 - midQ (u 0) (u 1) (u 2) T) := ((ub b0).sub mb).mono (by decide)
  have yb : Bq (1728 * D * s.natAbs) (2 ^ 177) (u 1 - midQ (u 0) (u 1) (u 2) T) := ((ub b1).sub mb).mono (by decide)
  have mz : Sz 400 (midQ (u 0) (u 1) (u 2) T) := (mb.sz (n := 200) d0 (by omega) (by decide) (by decide)).mono (by decide)
  have xz : Sz 400 (u 0 - midQ (u 0) (u 1) (u 2) T) := (xb.sz (n := 200) d0 (by omega) (by decide) (by decide)).mono (by decide)
  have yz : Sz 400 (u 1 - midQ (u 0) (u 1) (u 2) T) := (yb.sz (n := 200) d0 (by omega) (by decide) (by decide)).mono (by decide)
  have key : ∃ n, T ≠ 2 → ¬ T * T < 4 → formQ (u 0 - midQ (u 0) (u 1) (u 2) T) (u 1 - midQ (u 0) (u 1) (u 2) T) T ≠ 0 → ¬ T < 0 → growEnd (-midQ (u 0) (u 1) (u 2) T) (esq T n (u 0 - midQ (u 0) (u 1) (u 2) T) (u 1 - midQ (u 0) (u 1) (u 2) T)) (esq T (n + 1) (u 0 - midQ (u 0) (u 1) (u 2) T) (u 1 - midQ (u 0) (u 1) (u 2) T)) ∧ ∀ k, k ≤ n + 1 → Sz 4300 (esq T k (u 0 - midQ (u 0) (u 1) (u 2) T) (u 1 - midQ (u 0) (u 1) (u 2) T)) := by
    by_cases g : ¬ T * T < 4 ∧ formQ (u 0 - midQ (u 0) (u 1) (u 2) T) (u 1 - midQ (u 0) (u 1) (u 2) T) T ≠ 0 ∧ ¬ T < 0
    · obtain ⟨g1, g2, g3⟩ := g
      have t5 : 5 / 2 ≤ T := by
        rcases tok with q | q | q | q | q | q | q | q
        · exact absurd q t2
        · exact absurd (by rw [q]; decide) g3
        · exact absurd (by rw [q]; grind) g1
        · exact absurd (by rw [q]; grind) g1
        · exact absurd (by rw [q]; decide) g3
        · obtain ⟨p, A, _, _, _, h9⟩ := q
          exact absurd (show T * T < 4 by grind) g1
        · exact q
        · exact absurd (show T < 0 by grind) g3
      obtain ⟨k, hk, gr⟩ := grow_fin ht t5 d0 xb yb g2
      refine ⟨k, fun _ _ _ _ => ⟨.inr gr, fun j hj => ?_⟩⟩
      have e := esq_bq ht xb yb j
      have hj2 : j ≤ 366 := by omega
      have p1 : (12 : Nat) ^ j ≤ 12 ^ 366 := Nat.pow_le_pow_right (by decide) hj2
      have p2 : (400 : Nat) ^ j ≤ 400 ^ 366 := Nat.pow_le_pow_right (by decide) hj2
      refine e.sz (n := 4300) (Nat.mul_pos d0 (Nat.pow_pos (by decide))) ?_ ?_ (by decide)
      · exact Nat.lt_of_lt_of_le (Nat.mul_lt_mul_of_lt_of_le hd p1 (by decide)) (by decide)
      · exact Nat.lt_of_le_of_lt (Nat.mul_le_mul_left _ p2) (by decide)
    · exact ⟨0, fun _ a b c => absurd ⟨a, b, c⟩ g⟩
  obtain ⟨n, hn⟩ := key
  exact ⟨n, ⟨dz b0, dz b1, dz b2, tz, fun _ => ⟨mz, xz, yz⟩, fun q k => cyc_sz ht q d0 (by omega) xb yb k, hn⟩, below_iff hu tok fun a b c d => (hn a b c d).1⟩
theorem stays_math {t : List El} (h : Cav t) {D B : Nat} {r : Rat × Rat} (hr : RB D B r) (D0 : 0 < D) (hD : D < 2 ^ 125) (hB : B < 2 ^ 125) : ∃ nf, StOk nf t r ∧ (staysB nf t r = true ↔ Ever t r) := by
  have all : ∀ x : Pl, ∃ n, x ∈ hplsN t t.length → SbOk n (uAt t x r 0) (uAt t x r 1) (uAt t x r 2) (tr t) ∧ (belowB n (uAt t x r 0) (uAt t x r 1) (uAt t x r 2) (tr t) = true ↔ ∀ k, uAt t x r k ≤ 0) := fun x => by
    by_cases hm : x ∈ hplsN t t.length
    · obtain ⟨n, hn⟩ := sb_math h (cav_base h x hm) hr D0 hD hB
      exact ⟨n, fun _ => hn⟩
    · exact ⟨0, fun q => absurd q hm⟩
  let nf : Pl → Nat := fun x => Classical.choose (all x)
  have hnf : ∀ x, x ∈ hplsN t t.length → SbOk (nf x) (uAt t x r 0) (uAt t x r 1) (uAt t x r 2) (tr t) ∧ (belowB (nf x) (uAt t x r 0) (uAt t x r 1) (uAt t x r 2) (tr t) = true ↔ ∀ k, uAt t x r k ≤ 0) := fun x => Classical.choose_spec (all x)
  generalize nf = nf at hnf
  refine ⟨nf, ⟨cav_tok h, (cav_whole h).mb.szN 8 (by decide) (by decide) (by decide) (by decide) (by decide), fun k hk => ?_, fun x hx => ?_, fun x hx => (hnf x hx).1⟩, ?_⟩
  · have rk := (pow_mb h k).app hr
    have p1 : (12 : Nat) ^ k ≤ 12 ^ 2 := Nat.pow_le_pow_right (by decide) hk
    have p2 : (768 : Nat) ^ k ≤ 768 ^ 2 := Nat.pow_le_pow_right (by decide) hk
    have q1 : 12 ^ k * D ≤ 12 ^ 2 * D := Nat.mul_le_mul_right D p1
    have q2 : 768 ^ k * B ≤ 768 ^ 2 * B := Nat.mul_le_mul_right B p2
    have q3 : 768 ^ k * D ≤ 768 ^ 2 * D := Nat.mul_le_mul_right D p2
    have := rk.sz (n := 200) (Nat.mul_pos (Nat.pow_pos (by decide)) D0) (by omega) (by omega) (by decide)
    exact ⟨this.1.mono (by decide), this.2.mono (by decide)⟩
  · have b := cav_base h x hx
    exact ⟨Nat.lt_of_le_of_lt b.sz.1 (by decide), Nat.lt_of_le_of_lt b.sz.2.1 (by decide), Nat.lt_of_le_of_lt b.sz.2.2 (by decide)⟩
  · unfold staysB
    rw [List.all_eq_true]
    have le : ∀ (x : Pl) (k : Nat), uAt t x r k ≤ 0 ↔ x.has ((npow (tmap t) k).app r) := fun x k => by
      unfold uAt Pl.has
      constructor <;> intro q <;> grind
    constructor
    · intro q k x hx
      exact (le x k).mp ((hnf x hx).2.mp (q x hx) k)
    · intro q x hx
      exact (hnf x hx).2.mpr fun k => (le x k).mpr (q k x hx)
theorem cav_law {t : List El} (h : Cav t) {r : Rat × Rat} (hr : RC 110 r) : RayLaw t r := by
  obtain ⟨D, D0, hD, rb⟩ := hr.rb
  have e1 := (cav_whole h).mb.app rb
  refine ray_law (cav_hn h) (cav_whole h).dt (fun k hk => ?_) (stays_math h rb D0 (by omega) (by decide)) (stays_math h e1 (by omega) (by omega) (by omega))
  have rk := (pow_mb h k).app rb
  have p1 : (12 : Nat) ^ k ≤ 12 ^ 6 := Nat.pow_le_pow_right (by decide) (by omega)
  have p2 : (768 : Nat) ^ k ≤ 768 ^ 6 := Nat.pow_le_pow_right (by decide) (by omega)
  have q1 : 12 ^ k * D ≤ 12 ^ 6 * 2 ^ 110 := Nat.mul_le_mul p1 (Nat.le_of_lt hD)
  have q2 : 768 ^ k * 2 ^ 110 ≤ 768 ^ 6 * 2 ^ 110 := Nat.mul_le_mul_right _ p2
  have q3 : 768 ^ k * D ≤ 768 ^ 6 * 2 ^ 110 := Nat.mul_le_mul p2 (Nat.le_of_lt hD)
  exact cav_ray h rk (Nat.mul_pos (Nat.pow_pos (by decide)) D0) (by omega) (by omega)
theorem cav_ok (t : List El) (h : Cav t) : CavOk t := ⟨cav_hn h, cav_unit h, (cav_whole h).mb.szN 8 (by decide) (by decide) (by decide) (by decide) (by decide), fun k hk => cav_pow h hk, cav_pl h, cav_fx h, fun r hr => cav_law h hr⟩
end Rt
set_option Elab.async false
set_option linter.all false
set_option maxRecDepth 100000
set_option maxHeartbeats 4000000
/-! The head: what is looked at behind the top. -/
namespace Hd
open PySem PySem.Spec PyProof.Rows L2 Rt
inductive Kd where
  | skip
  | fn (i : Nat) (one tab : Bool)
  | pair (i j : Int)
  | ident
  | cyc
def top0 : List (Str × Kd) := [("__name__", .skip), ("__doc__", .skip), ("__package__", .skip), ("__loader__", .skip), ("__spec__", .skip), ("__annotations__", .skip), ("__builtins__", .skip), ("__file__", .skip), ("__cached__", .skip), ("ZERO", .pair 0 1), ("ONE", .pair 1 1), ("common_divisor", .fn 3 false false), ("fraction", .fn 4 true false), ("add", .fn 5 false false), ("negative", .fn 6 false false), ("subtract", .fn 7 false false), ("multiply", .fn 8 false false), ("divide", .fn 9 false false), ("sign", .fn 10 false false), ("compare", .fn 11 false false)]
def top1 : List (Str × Kd) := [("is_less", .fn 12 false false), ("is_at_most", .fn 13 false false), ("least_of", .fn 14 false false), ("IDENTITY", .ident), ("element_map", .fn 17 false false), ("weighted", .fn 18 false false), ("apply_map", .fn 19 false false), ("compose_maps", .fn 20 false false), ("invert_map", .fn 21 false false), ("ray_transfer", .fn 22 false false), ("RaytrainError", .skip), ("NoDirection", .skip), ("make_half_plane", .fn 27 false false), ("edges_of", .fn 28 false false), ("half_planes_of", .fn 29 false false), ("value_at", .fn 30 false false), ("contains_ray", .fn 31 false true), ("determinant", .fn 32 false false), ("product", .fn 33 false false), ("opposite_weights", .fn 34 false false)]
def top2 : List (Str × Kd) := [("triple_weights", .fn 35 false true), ("opposing_sets", .fn 36 false false), ("number_of", .fn 37 false false), ("is_empty", .fn 38 false true), ("single_bound", .fn 39 false false), ("pair_weights", .fn 40 false false), ("pair_bound", .fn 41 false false), ("supremum", .fn 42 false false), ("map_half_planes", .fn 43 false false), ("is_implied", .fn 45 false false), ("planes_of", .fn 47 false false), ("TWO", .pair 2 1), ("CYCLES", .cyc), ("polynomial_holds", .fn 51 false false), ("form_of", .fn 52 false false), ("cycle_holds", .fn 53 false false), ("ellipse_holds", .fn 54 false false), ("turning_holds", .fn 55 false false), ("line_holds", .fn 56 false false), ("growing_holds", .fn 57 false false)]
def top3 : List (Str × Kd) := [("stays_below", .fn 58 false false), ("passes_stop", .fn 60 false false), ("gone_through", .fn 61 false false), ("trace_ray", .fn 62 false false), ("exit_ray", .fn 63 false false), ("trace_of", .fn 65 false false), ("power_of", .fn 66 false false), ("order_of", .fn 67 false false), ("fixed_ray", .fn 68 false false), ("passes", .fn 69 false false), ("pass_planes", .fn 70 false false), ("stays", .fn 71 false false), ("holds_next", .fn 72 false false), ("settled", .fn 73 false false), ("is_kept", .fn 74 false false), ("meeting", .fn 76 false false), ("is_before", .fn 77 false false), ("put_in_order", .fn 78 false false), ("corners", .fn 79 false false), ("_law_cell", .fn 81 false false)]
def top4 : List (Str × Kd) := [("_law_row", .fn 82 false false), ("_law_box", .fn 83 false false), ("_law_draw", .fn 84 false false), ("_law_same", .fn 85 false false), ("_law_frac", .fn 86 false false), ("_law_add", .fn 87 false false), ("_law_neg", .fn 88 false false), ("_law_sub", .fn 89 false false), ("_law_mul", .fn 90 false false), ("_law_div", .fn 91 false false), ("_law_less", .fn 92 false false), ("_law_fraction", .fn 93 false false), ("_law_stop", .fn 94 false false), ("_law_ray", .fn 95 false false), ("_law_go", .fn 96 false false), ("_law_blocks", .fn 97 false false), ("_law_out", .fn 98 false false), ("_law_exit", .fn 99 false false), ("_law_map", .fn 100 false false), ("_law_cavity", .fn 101 false false)]
def top5 : List (Str × Kd) := [("law", .fn 102 false false)]
def top : List (Str × Kd) := top0 ++ (top1 ++ (top2 ++ (top3 ++ (top4 ++ (top5)))))
abbrev FnO : Type := Option (Str × Str × Arguments × FuncBody × Scope × Addr × List (Str × Addr) × Addr × Str)
def keyS (e : DictEntry) : Option Str := match e.key with
  | .str n _ => some n
  | _ => none
section
variable (g : Addr → Option Obj)
def ents : List DictEntry := match g mainGlobals with
  | some ⟨_, _, .dict es _, _⟩ => es.toList
  | _ => []
/-- a tuple of two ints -/
def pairB (i j : Int) (v : Value) : Bool := match v with
  | .ref a => (match g a with
    | some ⟨.type c, _, .seq its _, _⟩ => decide (c = "tuple") && He.relAll [.int i, .int j] its.toList
    | _ => false)
  | _ => false
def identB (v : Value) : Bool := match v with
  | .ref a => (match g a with
    | some ⟨.type c, _, .seq its _, _⟩ => decide (c = "tuple") && (match its.toList with
      | [a, b, c, d, e, f] => pairB g 1 1 a && (pairB g 0 1 b && (pairB g 0 1 c && (pairB g 1 1 d && (pairB g 0 1 e && pairB g 0 1 f))))
      | _ => false)
    | _ => false)
  | _ => false
def intB (i : Int) (v : Value) : Bool := match v with
  | .int j _ => decide (i = j)
  | _ => false
def cycB' (v : Value) : Bool := match v with
  | .ref a => (match g a with
    | some ⟨.type c, none, .dict es _, sl⟩ => decide (c = "dict") && (sl.isEmpty && (!(a == sysModules) && (match es.toList with
      | [e1, e2, e3] => pairB g (-1) 1 e1.key && (intB 3 e1.val && (pairB g 0 1 e2.key && (intB 4 e2.val && (pairB g 1 1 e3.key && intB 6 e3.val))))
      | _ => false)))
    | _ => false)
  | _ => false
def cycH (v : Value) : List Int := match v with
  | .ref a => (match g a with
    | some ⟨_, _, .dict es _, _⟩ => es.toList.map fun e => e.hash
    | _ => [])
  | _ => []
def dflG (one : Bool) (dV : Value) : Bool := match one with
  | false => (match dV with
    | .none => true
    | _ => false)
  | true => (match dV with
    | .ref T => (match g T with
      | some ⟨_, _, .seq its _, _⟩ => He.relAll [.int 1] its.toList
      | _ => false)
    | _ => false)
/-- a code object, its empty table -/
def tabAt (vs : Array Value) : Addr := match vs.getD 11 .none with
  | .ref P => P
  | _ => 0
def tabG (tab : Bool) (c : Addr) (o : Obj) (vs : Array Value) : Bool := match tab with
  | false => true
  | true => PySem.W.codeHdIn [(c, o)] c (tabAt vs) && (match g (tabAt vs) with
    | some ob => He.emptyTab ob
    | none => false)
def seen1 (k : Kd) (v : Value) : FnO × Bool × List Int := match k with
  | .skip => (none, true, [])
  | .pair i j => (none, pairB g i j v, [])
  | .ident => (none, identB g v, [])
  | .cyc => (none, cycB' g v, cycH g v)
  | .fn _ one tab => (match v with
    | .ref a => (match g a with
      | some ⟨_, _, .func fd, _⟩ => (match fd.code with
        | .ref c => (match g c with
          | some ⟨cc, cd, .fields vs, sl⟩ => (match vs.toList with
            | _ :: .str n _ :: _ => (some (fd.name, fd.qualname, fd.params, fd.body, fd.scope, fd.globals, fd.closure, fd.builtins, n), dflG g one fd.defaults && tabG g tab c ⟨cc, cd, .fields vs, sl⟩ vs, [])
            | _ => (none, false, []))
          | _ => (none, false, []))
        | _ => (none, false, []))
      | _ => (none, false, []))
    | _ => (none, false, []))
def seenL : List (Str × Kd) → List DictEntry → List (Option Str × FnO × Bool × List Int)
  | p :: r, e :: es => (keyS e, seen1 g p.2 e.val) :: seenL r es
  | [], [] => []
  | _, _ => [(none, none, false, [])]
end
def cycKeys : List (List Key) := [[.inl (-1), .inl 1], [.inl 0, .inl 1], [.inl 1, .inl 1]]
def val1 (w : World) (x : Str) (k : Kd) : FnO × Bool × List Int := match k with
  | .fn i _ _ => (some (x, x, defArgs (topS i), .stmts (defBody (topS i)), defScope (topS i), mainGlobals, [], builtinsNs, x), true, [])
  | .cyc => (none, true, cycKeys.map (tupleKeyHash (mixKind PySem.Challenge.pw_raytrain_k91_whole_for_ever w)))
  | _ => (none, true, [])
def valL (w : World) : List (Str × Kd) → List (Option Str × FnO × Bool × List Int)
  | p :: r => (some p.1, val1 w p.1 p.2) :: valL w r
  | [] => []
abbrev AlR : Type := List (Option Str × FnO × Bool × List Int)
def obsR (g : Addr → Option Obj) : AlR := seenL g top (ents g)
def SaysR (w : World) (h : Heap) : Prop := ∃ h0 : Heap, (∀ b o, h0.get? b = some o → h.get? b = some o) ∧ obsR h0.get? = valL w top
def hookR : PySem.W.Hook where
  α := AlR
  obs := fun s => obsR s.heap.get?
  val := fun w => valL w top
  says := SaysR
  of := fun _ s e => ⟨s.heap, fun _ _ z => z, e⟩
  keeps := fun _ _ _ ⟨h0, k, e⟩ k' => ⟨h0, fun b o z => k' b o (k b o z), e⟩
def obR (s : PySem.W.SharedT) : AlR := obsR (HandSHeadRun.getT s)
theorem obR_eq (s : PySem.W.SharedT) : obR s = hookR.obs s.abs := by
  have e : HandSHeadRun.getT s = s.abs.heap.get? := funext (HandSHeadRun.getT_eq s)
  show obsR (HandSHeadRun.getT s) = obsR s.abs.heap.get?
  rw [e]
def loose0 : List Str := ["ZERO", "ONE", "common_divisor", "fraction", "add", "negative", "subtract", "multiply", "divide", "sign", "compare", "is_less", "is_at_most", "least_of", "IDENTITY", "element_map", "weighted", "apply_map", "compose_maps", "invert_map", "ray_transfer", "RaytrainError", "NoDirection", "make_half_plane", "edges_of", "half_planes_of", "value_at", "contains_ray", "determinant", "product"]
def loose1 : List Str := ["opposite_weights", "triple_weights", "opposing_sets", "number_of", "is_empty", "single_bound", "pair_weights", "pair_bound", "supremum", "map_half_planes", "is_implied", "planes_of", "TWO", "CYCLES", "polynomial_holds", "form_of", "cycle_holds", "ellipse_holds", "turning_holds", "line_holds", "growing_holds", "stays_below", "passes_stop", "gone_through", "trace_ray", "exit_ray", "trace_of", "power_of", "order_of", "fixed_ray"]
def loose2 : List Str := ["passes", "pass_planes", "stays", "holds_next", "settled", "is_kept", "meeting", "is_before", "put_in_order", "corners", "_law_cell", "_law_row", "_law_box", "_law_draw", "_law_same", "_law_frac", "_law_add", "_law_neg", "_law_sub", "_law_mul", "_law_div", "_law_less", "_law_fraction", "_law_stop", "_law_ray", "_law_go", "_law_blocks", "_law_out", "_law_exit", "_law_map"]
def loose3 : List Str := ["_law_cavity"]
def loose : List Str := loose0 ++ (loose1 ++ (loose2 ++ (loose3)))
abbrev Rw : PySem.W.OpenRow := PySem.W.OpenLaw.row PySem.Challenge.rw_raytrain_k91_whole_for_ever
end Hd
set_option Elab.async false
set_option linter.all false
set_option maxRecDepth 100000
set_option maxHeartbeats 4000000
/-! The head: what follows from what was looked at. -/
namespace Hd
open PySem PySem.Spec PyProof.Rows L2 Rt
section
variable {w : World} {g : Addr → Option Obj}
/-- the names' entries, one by one -/
theorem find_al : ∀ {ps : List (Str × Kd)} {es : List DictEntry}, seenL g ps es = valL w ps → ∀ x : Str,
    (∀ p, ps.find? (fun p => p.1 == x) = some p → ∃ e, es.find? (fun e => e.key.isStr x) = some e ∧ seen1 g p.2 e.val = val1 w p.1 p.2) ∧
    (ps.find? (fun p => p.1 == x) = none → es.find? (fun e => e.key.isStr x) = none) ∧ es.any (fun e => e.refKey) = false
  | [], [], _, x => ⟨(fun p h => by cases h), fun _ => rfl, rfl⟩
  | [], e :: es, h, x => by cases h
  | p :: r, [], h, x => by
    have h1 : ([(none, none, false, [])] : AlR) = (some p.1, val1 w p.1 p.2) :: valL w r := h
    simp at h1
  | p :: r, e :: es, h, x => by
    have h1 : (keyS e, seen1 g p.2 e.val) :: seenL g r es = (some p.1, val1 w p.1 p.2) :: valL w r := h
    obtain ⟨h2, h3⟩ := List.cons.inj h1
    obtain ⟨hk, hv⟩ := Prod.mk.inj h2
    obtain ⟨a, b, c⟩ := find_al h3 x
    have hs : e.key.isStr x = (p.1 == x) ∧ e.refKey = false := by
      obtain ⟨hh, k, v⟩ := e
      unfold keyS at hk
      cases k with
      | str n t =>
        have e1 : n = p.1 := Option.some.inj hk
        subst e1
        exact ⟨rfl, rfl⟩
      | _ => cases hk
    refine ⟨fun q hq => ?_, fun hq => ?_, ?_⟩
    · rw [List.find?_cons] at hq ⊢
      rw [hs.1]
      cases z : (p.1 == x) with
      | true =>
        rw [z] at hq
        have e2 : p = q := Option.some.inj hq
        subst e2
        exact ⟨e, rfl, hv⟩
      | false =>
        rw [z] at hq
        exact a q hq
    · rw [List.find?_cons] at hq ⊢
      rw [hs.1]
      cases z : (p.1 == x) with
      | true =>
        rw [z] at hq
        cases hq
      | false =>
        rw [z] at hq
        exact b hq
    · rw [List.any_cons, hs.2, c]
      rfl
end
/-- what a def's entry says -/
theorem fn_facts {g : Addr → Option Obj} {i : Nat} {one tab : Bool} {v : Value} {x : Str} {A : Arguments} {B : FuncBody} {S : Scope} (h : seen1 g (.fn i one tab) v = (some (x, x, A, B, S, mainGlobals, [], builtinsNs, x), true, [])) :
    ∃ (a c : Addr) (oc cc : Value) (od cd : Option Addr) (sl sl' : Array (Option Value)) (fd : FuncData) (vs : Array Value) (v0 : Value) (t : Tok) (rest : List Value), v = .ref a ∧ g a = some ⟨oc, od, .func fd, sl⟩ ∧ fd.code = .ref c ∧ g c = some ⟨cc, cd, .fields vs, sl'⟩ ∧ vs.toList = v0 :: .str x t :: rest ∧
      fd.name = x ∧ fd.qualname = x ∧ fd.params = A ∧ fd.body = B ∧ fd.scope = S ∧ fd.globals = mainGlobals ∧ fd.closure = [] ∧ fd.builtins = builtinsNs ∧ dflG g one fd.defaults = true ∧ tabG g tab c ⟨cc, cd, .fields vs, sl'⟩ vs = true := by
  unfold seen1 at h
  dsimp only at h
  split at h
  · rename_i a
    split at h
    · rename_i oc od fd sl ha
      split at h
      · rename_i c hc
        split at h
        · rename_i cc cd vs sl' hg
          split at h
          · rename_i v0 n t rest hv
            simp only [Prod.mk.injEq, Option.some.injEq, Bool.and_eq_true, and_true] at h
            obtain ⟨⟨h1, h2, h3, h4, h5, h6, h7, h8, h9⟩, h10, h11⟩ := h
            subst h9
            exact ⟨a, c, oc, cc, od, cd, sl, sl', fd, vs, v0, t, rest, rfl, ha, hc, hg, hv, h1, h2, h3, h4, h5, h6, h7, h8, h10, h11⟩
          · simp at h
        · simp at h
      · simp at h
    · simp at h
  · simp at h
/-! ### what is pinned -/
section
variable {g : Addr → Option Obj}
theorem frG_get {a : Addr} {o : Obj} : ∀ {as : List Addr}, a ∈ as → g a = some o → (He.frG g as).lookup a = some o
  | [], h, _ => by cases h
  | b :: r, h, e => by
    unfold He.frG
    cases hb : g b with
    | none =>
      rw [List.filterMap_cons, hb]
      have ne : a ≠ b := fun z => by
        rw [z, hb] at e
        cases e
      rcases List.mem_cons.mp h with z | z
      · exact absurd z ne
      · exact frG_get z e
    | some ob =>
      rw [List.filterMap_cons, hb]
      show (match a == b with | true => some ob | false => (He.frG g r).lookup a) = some o
      cases q : (a == b) with
      | true =>
        rw [beq_iff_eq.mp q, hb] at e
        exact e
      | false =>
        have ne : a ≠ b := fun z => by
          rw [z, beq_self_eq_true] at q
          cases q
        rcases List.mem_cons.mp h with z | z
        · exact absurd z ne
        · exact frG_get z e
theorem frG_out {a : Addr} {as : List Addr} (h : a ∉ as) : (He.frG g as).lookup a = none := by
  cases e : (He.frG g as).lookup a with
  | none => rfl
  | some o =>
    have m := He.lookup_mem e
    unfold He.frG at m
    obtain ⟨b, hb, q⟩ := List.mem_filterMap.mp m
    cases z : g b with
    | none =>
      rw [z] at q
      cases q
    | some u =>
      rw [z] at q
      have q2 : (b, u) = (a, o) := Option.some.inj q
      have : b = a := congrArg Prod.fst q2
      rw [← this] at h
      exact absurd hb h
end
/-- all that stands, but the tables ts -/
def KA (h : Heap) (ts : List Addr) : PySem.W.Frag := He.frG h.get? ((List.range h.objs.size).filter fun a => !ts.contains a)
theorem KA_in (h : Heap) (ts : List Addr) : (KA h ts).In h := He.frG_in
theorem KA_get {h : Heap} {ts : List Addr} {a : Addr} {o : Obj} (e : h.get? a = some o) (n : a ∉ ts) : (KA h ts).lookup a = some o := by
  refine frG_get (List.mem_filter.mpr ⟨List.mem_range.mpr (Heap.lt_size e), ?_⟩) e
  cases q : ts.contains a with
  | false => rfl
  | true => exact absurd (List.contains_iff_mem.mp q) n
theorem KA_out {h : Heap} {ts : List Addr} {a : Addr} (m : a ∈ ts) : (KA h ts).lookup a = none := by
  refine frG_out fun z => ?_
  have := (List.mem_filter.mp z).2
  rw [List.contains_iff_mem.mpr m] at this
  cases this
/-- an entry's object's code, table -/
def fAt (h : Heap) (x : Str) : Addr := match (ents h.get?).find? (fun e => e.key.isStr x) with
  | some e => (match e.val with
    | .ref a => a
    | _ => 0)
  | none => 0
def cAt (h : Heap) (x : Str) : Addr := match h.get? (fAt h x) with
  | some ⟨_, _, .func fd, _⟩ => (match fd.code with
    | .ref b => b
    | _ => 0)
  | _ => 0
def pAt (h : Heap) (x : Str) : Addr := match h.get? (cAt h x) with
  | some ⟨_, _, .fields vs, _⟩ => tabAt vs
  | _ => 0
def tn : List Str := ["contains_ray", "triple_weights", "is_empty"]
def tabs (h : Heap) : List (Addr × Addr) := tn.map fun x => (cAt h x, pAt h x)
/-- a def of the text, looked up among the top's names -/
def oneOf : List V → Option Bool
  | [] => some false
  | [.int i] => if i = 1 then some true else none
  | _ => none
def okD (d : Dl) : Bool := match top.find? (fun p => p.1 == d.nm) with
  | some (x, .fn i one tab) => (x == d.nm) && (decide (i = d.at_) && (decide (oneOf d.dvs = some one) && (match d.tab with
    | 0 => true
    | n + 1 => tab && decide (tn[n]? = some d.nm))))
  | _ => false
theorem okD_all : dl.all okD = true := by decide +kernel
theorem ok_fr : bl.all (fun x => (top.find? (fun p => p.1 == x)).isNone) = true := by decide +kernel
end Hd
set_option Elab.async false
set_option linter.all false
set_option maxRecDepth 100000
set_option maxHeartbeats 4000000
/-! The head: what the walk asks of it. -/
namespace Hd
open PySem PySem.Spec PyProof.Rows L2 Rt
/-! ### constants -/
theorem pair_facts {g : Addr → Option Obj} {i j : Int} {v : Value} (h : pairB g i j v = true) : ∃ (a : Addr) (od : Option Addr) (its : Array Value) (n : Nat) (sl : Array (Option Value)), v = .ref a ∧ g a = some ⟨.type "tuple", od, .seq its n, sl⟩ ∧ Vals [.int i, .int j] its.toList := by
  unfold pairB at h
  split at h
  · rename_i a
    split at h
    · rename_i c od its n sl ha
      obtain ⟨h1, h2⟩ := Bool.and_eq_true_iff.mp h
      have e := of_decide_eq_true h1
      subst e
      exact ⟨a, od, its, n, sl, rfl, ha, He.relAll_ok h2⟩
    · cases h
  · cases h
section
variable {h0 : Heap} {ts : List Addr}
/-- the tables are tables -/
def TabsOk (h0 : Heap) (ts : List Addr) : Prop := ∀ a ∈ ts, h0.get? a = some { cls := .none, data := .fields #[] }
theorem notTab (ht : TabsOk h0 ts) {a : Addr} {o : Obj} (e : h0.get? a = some o) (n : o.data ≠ .fields #[]) : a ∉ ts := fun z => by
  have q := ht a z
  rw [e] at q
  exact n (congrArg Obj.data (Option.some.inj q))
theorem get_seq (ht : TabsOk h0 ts) {a : Addr} {oc : Value} {od : Option Addr} {its : Array Value} {n : Nat} {sl : Array (Option Value)} (e : h0.get? a = some ⟨oc, od, .seq its n, sl⟩) : (KA h0 ts).lookup a = some ⟨oc, od, .seq its n, sl⟩ := KA_get e (notTab ht e fun z => by cases z)
theorem sqT_of (ht : TabsOk h0 ts) {a : Addr} {od : Option Addr} {its : Array Value} {n : Nat} {sl : Array (Option Value)} {xs : List V} (e : h0.get? a = some ⟨.type "tuple", od, .seq its n, sl⟩) (hv : Vals xs its.toList) (hl : xs.length ≤ 100) (H : Hp) : SqT (KA h0 ts) H a xs := by
  have l := hv.length
  exact .inr ⟨_, its, n, get_seq ht e, rfl, rfl, szl (by rw [← Array.length_toList]; omega), hv⟩
theorem pair_dq (ht : TabsOk h0 ts) {i j : Int} {v : Value} (h : pairB h0.get? i j v = true) : ∃ a, v = .ref a ∧ ∀ H, Dq (KA h0 ts) H (.ref a) (.tuple [.int i, .int j]) := by
  obtain ⟨a, od, its, n, sl, rfl, ha, hv⟩ := pair_facts h
  exact ⟨a, rfl, fun H => .tup (sqT_of ht ha hv (by simp) H) (.cons (.int i) (.cons (.int j) .nil))⟩
theorem ident_dq (ht : TabsOk h0 ts) {v : Value} (h : identB h0.get? v = true) : ∃ a, v = .ref a ∧ ∀ H, Dq (KA h0 ts) H (.ref a) (.tuple [dQ 1, dQ 0, dQ 0, dQ 1, dQ 0, dQ 0]) := by
  unfold identB at h
  split at h
  · rename_i a
    split at h
    · rename_i c od its n sl ha
      obtain ⟨h1, h2⟩ := Bool.and_eq_true_iff.mp h
      have e := of_decide_eq_true h1
      subst e
      split at h2
      · rename_i v1 v2 v3 v4 v5 v6 hv
        simp only [Bool.and_eq_true] at h2
        obtain ⟨p1, p2, p3, p4, p5, p6⟩ := h2
        obtain ⟨a1, rfl, d1⟩ := pair_dq ht p1
        obtain ⟨a2, rfl, d2⟩ := pair_dq ht p2
        obtain ⟨a3, rfl, d3⟩ := pair_dq ht p3
        obtain ⟨a4, rfl, d4⟩ := pair_dq ht p4
        obtain ⟨a5, rfl, d5⟩ := pair_dq ht p5
        obtain ⟨a6, rfl, d6⟩ := pair_dq ht p6
        refine ⟨a, rfl, fun H => .tup (xs := [.ref a1, .ref a2, .ref a3, .ref a4, .ref a5, .ref a6]) (sqT_of ht ha ?_ (by simp) H) (.cons (d1 H) (.cons (d2 H) (.cons (d3 H) (.cons (d4 H) (.cons (d5 H) (.cons (d6 H) .nil))))))⟩
        rw [hv]
        exact .cons rfl (.cons rfl (.cons rfl (.cons rfl (.cons rfl (.cons rfl .nil)))))
      · cases h2
    · cases h
  · cases h
theorem int_facts {i : Int} {v : Value} (h : intB i v = true) : ∃ t, v = .int i t := by
  unfold intB at h
  split at h
  · rename_i j t
    exact ⟨t, by rw [of_decide_eq_true h]⟩
  · cases h
theorem cyc_dq {P : Program} {w : World} (ht : TabsOk h0 ts) {v : Value} (h : cycB' h0.get? v = true) (hh : cycH h0.get? v = cycKeys.map (tupleKeyHash (mixKind P w))) : ∃ a, v = .ref a ∧ CycF P w (KA h0 ts) a := by
  unfold cycB' at h
  split at h
  · rename_i a
    split at h
    · rename_i c es ep sl ha
      obtain ⟨h1, h2⟩ := Bool.and_eq_true_iff.mp h
      obtain ⟨h3, h4⟩ := Bool.and_eq_true_iff.mp h2
      obtain ⟨h5, h6⟩ := Bool.and_eq_true_iff.mp h4
      have e := of_decide_eq_true h1
      subst e
      have e2 : sl = #[] := Array.isEmpty_iff.mp h3
      subst e2
      split at h6
      · rename_i e1 e2 e3 hes
        have hh2 : (es.toList.map fun e => e.hash) = cycKeys.map (tupleKeyHash (mixKind P w)) := by
          have : cycH h0.get? (.ref a) = es.toList.map fun e => e.hash := by
            unfold cycH
            dsimp only
            rw [ha]
          rw [← this]
          exact hh
        rw [hes] at hh2
        simp only [Bool.and_eq_true] at h6
        obtain ⟨p1, q1, p2, q2, p3, q3⟩ := h6
        obtain ⟨k1, v1⟩ := e1
        obtain ⟨k2, v2⟩ := e2
        obtain ⟨k3, v3⟩ := e3
        obtain ⟨a1, od1, its1, n1, sl1, r1, g1, w1⟩ := pair_facts p1
        obtain ⟨a2, od2, its2, n2, sl2, r2, g2, w2⟩ := pair_facts p2
        obtain ⟨a3, od3, its3, n3, sl3, r3, g3, w3⟩ := pair_facts p3
        obtain ⟨t1, u1⟩ := int_facts q1
        obtain ⟨t2, u2⟩ := int_facts q2
        obtain ⟨t3, u3⟩ := int_facts q3
        dsimp only at r1 r2 r3 u1 u2 u3
        subst r1 r2 r3 u1 u2 u3
        unfold cycKeys at hh2
        simp only [List.map_cons, List.map_nil, List.cons.injEq, and_true] at hh2
        obtain ⟨x1, x2, x3⟩ := hh2
        have ns : (a == sysModules) = false := by
          cases z : a == sysModules with
          | false => rfl
          | true =>
            rw [z] at h5
            cases h5
        refine ⟨a, rfl, a1, a2, a3, t1, t2, t3, ns, fun h hK => ?_⟩
        have la : (KA h0 ts).lookup a = some ⟨.type "dict", none, .dict es ep, #[]⟩ := KA_get ha (notTab ht ha fun z => by cases z)
        have key : ∀ {i j : Int} {b : Addr} {od : Option Addr} {its : Array Value} {n : Nat} {sl : Array (Option Value)}, h0.get? b = some ⟨.type "tuple", od, .seq its n, sl⟩ → Vals [.int i, .int j] its.toList → (tupleKind (mixKind P w)).is h [.inl i, .inl j] b := fun {i j b od its n sl} gb wb =>
          ⟨_, its, n, hK _ _ (get_seq ht gb), rfl, rfl, items_are (ks := [.inl i, .inl j]) wb⟩
        refine ⟨_, es, ep, hK _ _ la, ⟨rfl, rfl, rfl⟩, rfl, ?_, fun x hx => ?_, (by decide : ([[.inl (-1), .inl 1], [.inl 0, .inl 1], [.inl 1, .inl 1]] : List (List Key)).Nodup)⟩
        · rw [hes, x1, x2, x3]
          rfl
        · simp only [List.mem_cons, List.not_mem_nil, or_false] at hx
          rcases hx with rfl | rfl | rfl
          · exact key g1 w1
          · exact key g2 w2
          · exact key g3 w3
      · cases h6
    · cases h
  · cases h
end
/-! ### names -/
section
variable {w : World} {h0 h : Heap} {mg : Str → Option Value}
theorem top_law : ∃ p, top.find? (fun p => p.1 == ("law" : Str)) = some p := ⟨("law", .fn 102 false false), by
  have e : (top.find? (fun p => p.1 == ("law" : Str))).isSome = true := by decide +kernel
  rfl⟩
theorem top_obj (e0 : obsR h0.get? = valL w top) : ∃ (oc : Value) (od : Option Addr) (es : Array DictEntry) (ep : Nat) (sl : Array (Option Value)), h0.get? mainGlobals = some ⟨oc, od, .dict es ep, sl⟩ ∧ ents h0.get? = es.toList := by
  have e1 : seenL h0.get? top (ents h0.get?) = valL w top := e0
  unfold ents
  split
  · rename_i oc od es ep sl hm
    exact ⟨oc, od, es, ep, sl, hm, rfl⟩
  · rename_i no
    exfalso
    have en : ents h0.get? = [] := by
      unfold ents
      split
      · rename_i oc od es ep sl hm
        exact absurd hm (no oc od es ep sl)
      · rfl
    rw [en] at e1
    obtain ⟨p, hp⟩ := top_law
    obtain ⟨e, he, _⟩ := (find_al e1 "law").1 p hp
    cases he
theorem mg_at (hk : ∀ b o, h0.get? b = some o → h.get? b = some o) (e0 : obsR h0.get? = valL w top) (G : h.Ns mainGlobals mg) (x : Str) :
    (∀ p, top.find? (fun p => p.1 == x) = some p → ∃ e, (ents h0.get?).find? (fun e => e.key.isStr x) = some e ∧ mg x = some e.val ∧ seen1 h0.get? p.2 e.val = val1 w p.1 p.2) ∧ (top.find? (fun p => p.1 == x) = none → mg x = none) := by
  obtain ⟨oc, od, es, ep, sl, hm, he⟩ := top_obj e0
  have e1 : seenL h0.get? top (ents h0.get?) = valL w top := e0
  obtain ⟨a, b, c⟩ := find_al e1 x
  have X : PySem.W.Frag.In [(mainGlobals, (⟨oc, od, .dict es ep, sl⟩ : Obj))] h := fun a o e => by
    have e2 : (match a == mainGlobals with | true => some (⟨oc, od, .dict es ep, sl⟩ : Obj) | false => none) = some o := e
    cases q : (a == mainGlobals) with
    | true =>
      rw [q] at e2
      rw [beq_iff_eq.mp q, ← Option.some.inj e2]
      exact hk _ _ hm
    | false =>
      rw [q] at e2
      cases e2
  have ns : PySem.W.nsIn [(mainGlobals, (⟨oc, od, .dict es ep, sl⟩ : Obj))] mainGlobals x = (match es.toList.find? (·.key.isStr x) with
      | some e => some (some e.val)
      | none => if es.toList.any (·.refKey) then none else some none) := by
    unfold PySem.W.nsIn
    rfl
  rw [he] at a b c ⊢
  refine ⟨fun p hp => ?_, fun hp => ?_⟩
  · obtain ⟨e, h1, h2⟩ := a p hp
    refine ⟨e, h1, PySem.W.mg_of X G ?_, h2⟩
    rw [ns, h1]
  · have h1 := b hp
    refine PySem.W.mg_none_of X G ?_
    rw [ns, h1]
    dsimp only
    rw [c]
    rfl
end
end Hd
set_option Elab.async false
set_option linter.all false
set_option maxRecDepth 100000
set_option maxHeartbeats 4000000
/-! The head: what stands behind the top. -/
namespace Hd
open PySem PySem.Spec PyProof.Rows L2 Rt
section
variable {w : World} {h0 h : Heap} {mg : Str → Option Value}
/-- a def of the text as it stands -/
structure Ent (h0 : Heap) (mg : Str → Option Value) (d : Dl) (a c : Addr) (fd : FuncData) (oc cc : Value) (od cd : Option Addr) (sl sl' : Array (Option Value)) (vs : Array Value) : Prop where
  m : mg d.nm = some (.ref a)
  fa : fAt h0 d.nm = a
  ga : h0.get? a = some ⟨oc, od, .func fd, sl⟩
  hc : fd.code = .ref c
  gc : h0.get? c = some ⟨cc, cd, .fields vs, sl'⟩
  nm : ∃ (v0 : Value) (t : Tok) (rest : List Value), vs.toList = v0 :: .str d.nm t :: rest
  fn : fd.name = d.nm ∧ fd.qualname = d.nm ∧ fd.params = defArgs (topS d.at_) ∧ fd.body = .stmts (defBody (topS d.at_)) ∧ fd.scope = defScope (topS d.at_) ∧ fd.globals = mainGlobals ∧ fd.closure = [] ∧ fd.builtins = builtinsNs
  df : ∃ one, oneOf d.dvs = some one ∧ dflG h0.get? one fd.defaults = true
  tb : d.tab ≠ 0 → tabG h0.get? true c ⟨cc, cd, .fields vs, sl'⟩ vs = true ∧ tn[d.tab - 1]? = some d.nm
theorem ent_of (hk : ∀ b o, h0.get? b = some o → h.get? b = some o) (e0 : obsR h0.get? = valL w top) (G : h.Ns mainGlobals mg) {d : Dl} (hd : d ∈ dl) :
    ∃ (a c : Addr) (fd : FuncData) (oc cc : Value) (od cd : Option Addr) (sl sl' : Array (Option Value)) (vs : Array Value), Ent h0 mg d a c fd oc cc od cd sl sl' vs := by
  have ok := List.all_eq_true.mp okD_all d hd
  unfold okD at ok
  split at ok
  · rename_i x i one tab hf
    simp only [Bool.and_eq_true, beq_iff_eq, decide_eq_true_eq] at ok
    obtain ⟨rfl, rfl, ho, ht⟩ := ok
    obtain ⟨e, he, hm, hs⟩ := (mg_at hk e0 G d.nm).1 _ hf
    obtain ⟨a, c, oc, cc, od, cd, sl, sl', fd, vs, v0, t, rest, hv, ha, hc, hg, hvs, f1, f2, f3, f4, f5, f6, f7, f8, f9, f10⟩ := fn_facts hs
    refine ⟨a, c, fd, oc, cc, od, cd, sl, sl', vs, by rw [hm, hv], ?_, ha, hc, hg, ⟨v0, t, rest, hvs⟩, ⟨f1, f2, f3, f4, f5, f6, f7, f8⟩, ⟨one, ho, f9⟩, fun hz => ?_⟩
    · unfold fAt
      rw [he]
      dsimp only
      rw [hv]
    · cases hn : d.tab with
      | zero => exact absurd hn hz
      | succ n =>
        rw [hn] at ht
        simp only [Bool.and_eq_true, decide_eq_true_eq] at ht
        obtain ⟨t1, t2⟩ := ht
        rw [t1] at f10
        exact ⟨f10, t2⟩
  · cases ok
theorem Ent.ca {d : Dl} {a c : Addr} {fd : FuncData} {oc cc : Value} {od cd : Option Addr} {sl sl' : Array (Option Value)} {vs : Array Value} (E : Ent h0 mg d a c fd oc cc od cd sl sl' vs) : cAt h0 d.nm = c := by
  unfold cAt
  rw [E.fa, E.ga]
  dsimp only
  rw [E.hc]
theorem Ent.pa {d : Dl} {a c : Addr} {fd : FuncData} {oc cc : Value} {od cd : Option Addr} {sl sl' : Array (Option Value)} {vs : Array Value} (E : Ent h0 mg d a c fd oc cc od cd sl sl' vs) : pAt h0 d.nm = tabAt vs := by
  unfold pAt
  rw [E.ca, E.gc]
theorem tn_dl : ∀ x ∈ tn, ∃ d ∈ dl, d.nm = x ∧ d.tab ≠ 0 := by
  intro x hx
  have e : tn.all (fun x => dl.any fun d => decide (d.nm = x) && decide (d.tab ≠ 0)) = true := by decide +kernel
  obtain ⟨d, hd, h2⟩ := List.any_eq_true.mp (List.all_eq_true.mp e x hx)
  simp only [Bool.and_eq_true, decide_eq_true_eq] at h2
  exact ⟨d, hd, h2⟩
/-- the three tables -/
theorem tab_facts (hk : ∀ b o, h0.get? b = some o → h.get? b = some o) (e0 : obsR h0.get? = valL w top) (G : h.Ns mainGlobals mg) : ∀ p ∈ tabs h0, h0.get? p.2 = some { cls := .none, data := .fields #[] } ∧ PySem.W.CodeHd h0 p.1 p.2 := by
  intro p hp
  obtain ⟨x, hx, rfl⟩ := List.mem_map.mp hp
  obtain ⟨d, hd, rfl, hz⟩ := tn_dl x hx
  obtain ⟨a, c, fd, oc, cc, od, cd, sl, sl', vs, E⟩ := ent_of hk e0 G hd
  obtain ⟨t1, _⟩ := E.tb hz
  show h0.get? (pAt h0 d.nm) = _ ∧ PySem.W.CodeHd h0 (cAt h0 d.nm) (pAt h0 d.nm)
  rw [E.pa, E.ca]
  have t2 : (PySem.W.codeHdIn [(c, (⟨cc, cd, .fields vs, sl'⟩ : Obj))] c (tabAt vs) && (match h0.get? (tabAt vs) with
    | some ob => He.emptyTab ob
    | none => false)) = true := t1
  obtain ⟨t3, t4⟩ := Bool.and_eq_true_iff.mp t2
  refine ⟨?_, PySem.W.codeHd_of_K (fun b o e => ?_) t3⟩
  · cases q : h0.get? (tabAt vs) with
    | none =>
      rw [q] at t4
      cases t4
    | some ob =>
      rw [q] at t4
      rw [He.emptyTab_eq t4]
  · have e2 : (match b == c with | true => some (⟨cc, cd, .fields vs, sl'⟩ : Obj) | false => none) = some o := e
    cases q : (b == c) with
    | true =>
      rw [q] at e2
      rw [beq_iff_eq.mp q, ← Option.some.inj e2]
      exact E.gc
    | false =>
      rw [q] at e2
      cases e2
def ts (h : Heap) : List Addr := (tabs h).map (·.2)
theorem ts_ok (hk : ∀ b o, h0.get? b = some o → h.get? b = some o) (e0 : obsR h0.get? = valL w top) (G : h.Ns mainGlobals mg) : TabsOk h0 (ts h0) := fun a ha => by
  obtain ⟨p, hp, rfl⟩ := List.mem_map.mp ha
  exact (tab_facts hk e0 G p hp).1
theorem fd_of (ht : TabsOk h0 (ts h0)) {d : Dl} {a c : Addr} {fd : FuncData} {oc cc : Value} {od cd : Option Addr} {sl sl' : Array (Option Value)} {vs : Array Value} (E : Ent h0 mg d a c fd oc cc od cd sl sl' vs) : Fd (KA h0 (ts h0)) d.nm (topS d.at_) d.dvs a c fd := by
  have la : (KA h0 (ts h0)).lookup a = some ⟨oc, od, .func fd, sl⟩ := KA_get E.ga (notTab ht E.ga fun z => by cases z)
  obtain ⟨v0, t, rest, hv⟩ := E.nm
  have lc : (KA h0 (ts h0)).lookup c = some ⟨cc, cd, .fields vs, sl'⟩ := KA_get E.gc (notTab ht E.gc fun z => by
    have z2 : Data.fields vs = Data.fields #[] := z
    cases z2
    cases hv)
  have kp : PySem.W.keepIn (KA h0 (ts h0)) (.ref a) = true := by
    unfold PySem.W.keepIn
    dsimp only
    rw [la]
  obtain ⟨one, ho, hdf⟩ := E.df
  have hci : PySem.W.codeIn (KA h0 (ts h0)) (.ref c) d.nm = true := by
    unfold PySem.W.codeIn
    dsimp only
    rw [lc]
    dsimp only
    rw [hv]
    exact beq_self_eq_true _
  have hD : DflV (KA h0 (ts h0)) fd.defaults d.dvs := by
    generalize fd.defaults = dV at hdf
    generalize d.dvs = dvs at ho
    unfold oneOf at ho
    split at ho
    · cases ho
      cases dV with
      | none => exact .inl ⟨rfl, rfl⟩
      | _ => cases hdf
    · rename_i i
      split at ho
      · rename_i e
        subst e
        cases ho
        unfold dflG at hdf
        dsimp only at hdf
        split at hdf
        · rename_i T
          split at hdf
          · rename_i oc2 od2 its n sl2 hT
            exact .inr ⟨List.cons_ne_nil _ _, T, _, its.toList, n, rfl, get_seq ht hT, by simp, He.relAll_ok hdf⟩
          · cases hdf
        · cases hdf
      · cases ho
    · cases ho
  obtain ⟨f1, f2, f3, f4, f5, f6, f7, f8⟩ := E.fn
  have hcd := E.hc
  refine ⟨?_, kp⟩
  obtain ⟨n1, n2, n3, n4, n5, n6, n7, n8, n9, n10, n11, n12, n13, n14, n15⟩ := fd
  dsimp only at f1 f2 f3 f4 f5 f6 f7 f8 hcd hD
  subst f1 f2 f3 f4 f5 f6 f7 f8 hcd
  exact ⟨oc, od, n8, n9, n10, n11, n12, n14, sl, rfl, la, hci, hD⟩
/-- the text behind the top -/
theorem tc_of (hk : ∀ b o, h0.get? b = some o → h.get? b = some o) (e0 : obsR h0.get? = valL w top) (G : h.Ns mainGlobals mg) {base : Heap} (TB : ∀ p ∈ tabs h0, GxR.TabB base mg p.1 p.2) : Tc Rw.prog w (KA h0 (ts h0)) mg base (ts h0) := by
  have ht := ts_ok hk e0 G
  have con : ∀ {x : Str} {k : Kd}, top.find? (fun p => p.1 == x) = some (x, k) → ∃ v, mg x = some v ∧ seen1 h0.get? k v = val1 w x k := fun {x k} hf => by
    obtain ⟨e, _, hm, hs⟩ := (mg_at hk e0 G x).1 _ hf
    exact ⟨e.val, hm, hs⟩
  have pr : ∀ {x : Str} {i : Int}, top.find? (fun p => p.1 == x) = some (x, .pair i 1) → ∃ a, mg x = some (.ref a) ∧ ∀ H, Dq (KA h0 (ts h0)) H (.ref a) (.tuple [.int i, .int 1]) := fun {x i} hf => by
    obtain ⟨v, hm, hs⟩ := con hf
    have hs : ((none, pairB h0.get? i 1 v, []) : FnO × Bool × List Int) = (none, true, []) := hs
    simp only [Prod.mk.injEq, true_and, and_true] at hs
    obtain ⟨a, rfl, q⟩ := pair_dq ht hs
    exact ⟨a, hm, q⟩
  refine ⟨fun i d hd => ?_, fun x hx => ?_, ?_, ?_, ?_, ?_, ?_⟩
  · have md := List.mem_of_getElem? hd
    obtain ⟨a, c, fd, oc, cc, od, cd, sl, sl', vs, E⟩ := ent_of hk e0 G md
    refine ⟨a, c, fd, fd_of ht E, E.m, fun hz => ?_⟩
    obtain ⟨_, hn⟩ := E.tb hz
    refine ⟨pAt h0 d.nm, ?_, ?_⟩
    · unfold ts tabs
      rw [List.getElem?_map, List.getElem?_map, hn]
      rfl
    · have := TB (cAt h0 d.nm, pAt h0 d.nm) (List.mem_map.mpr ⟨d.nm, List.mem_of_getElem? hn, rfl⟩)
      rw [← E.ca]
      exact this
  · have e := List.all_eq_true.mp ok_fr x hx
    exact (mg_at hk e0 G x).2 (Option.isNone_iff_eq_none.mp e)
  · exact pr (x := "ZERO") (i := 0) (by rfl)
  · exact pr (x := "ONE") (i := 1) (by rfl)
  · exact pr (x := "TWO") (i := 2) (by rfl)
  · obtain ⟨v, hm, hs⟩ := con (x := "CYCLES") (k := .cyc) (by rfl)
    have hs : ((none, cycB' h0.get? v, cycH h0.get? v) : FnO × Bool × List Int) = (none, true, cycKeys.map (tupleKeyHash (mixKind PySem.Challenge.pw_raytrain_k91_whole_for_ever w))) := hs
    simp only [Prod.mk.injEq, true_and] at hs
    obtain ⟨a, rfl, q⟩ := cyc_dq (P := Rw.prog) ht hs.1 hs.2
    exact ⟨a, hm, q⟩
  · obtain ⟨v, hm, hs⟩ := con (x := "IDENTITY") (k := .ident) (by rfl)
    have hs : ((none, identB h0.get? v, []) : FnO × Bool × List Int) = (none, true, []) := hs
    simp only [Prod.mk.injEq, true_and, and_true] at hs
    obtain ⟨a, rfl, q⟩ := ident_dq ht hs
    exact ⟨a, hm, q⟩
end
end Hd
set_option Elab.async false
set_option linter.all false
set_option maxRecDepth 100000
set_option maxHeartbeats 0
/-! The head: the run; the claim. -/
namespace Hd
open PySem PySem.Spec PyProof.Rows L2 Rt
theorem run0 (w : World) : HandSHeadRun.RunEq Rw (PySem.W.view Rw.prog [102]) hookR obR 4000 loose (w.withFollow "special-get-raises" false) := by
  intro os
  kernel_rfl
theorem run1 (w : World) : HandSHeadRun.RunEq Rw (PySem.W.view Rw.prog [102]) hookR obR 4000 loose (w.withFollow "special-get-raises" true) := by
  intro os
  kernel_rfl
theorem run (w : World) : HandSHeadRun.RunEq Rw (PySem.W.view Rw.prog [102]) hookR obR 4000 loose w := PySem.W.byRow2 "special-get-raises" (P := fun w => HandSHeadRun.RunEq Rw (PySem.W.view Rw.prog [102]) hookR obR 4000 loose w) run0 run1 w
theorem law_at {w : World} {mg : Str → Option Value} {fa : Addr} {h : Heap} (Y : SaysR w h) (G : h.Ns mainGlobals mg) (hmg : mg ("law" : Str) = some (.ref fa)) :
    ∃ K : PySem.W.Frag, K.In h ∧ LamX.LawAtS PySem.Challenge.rw_raytrain_k91_whole_for_ever w K CX0 12 63 "_law_script" mg fa h := by
  obtain ⟨h0, hk, e0⟩ := Y
  have ht := ts_ok hk e0 G
  have tf := tab_facts hk e0 G
  obtain ⟨a, c, fd, oc, cc, od, cd, sl, sl', vs, E⟩ := ent_of hk e0 G (d := gNm "law" 102) (List.mem_of_getElem? (i := 84) rfl)
  have ea : fa = a := V.ref.inj (by
    have := hmg.symm.trans E.m
    have e2 : Value.ref fa = Value.ref a := Option.some.inj this
    cases e2
    rfl)
  subst ea
  have F := fd_of ht E
  refine ⟨KA h0 (ts h0), (KA_in h0 (ts h0)).keeps hk, fd, tabs h0, F_law (KA h0 (ts h0)) (ts h0), fun p hp => hk _ _ (tf p hp).1, fun p hp => KA_out (List.mem_map.mpr ⟨p, hp, rfl⟩), fun p hp => (tf p hp).2.keeps hk, fun s u => ?_, fun H b ns _ _ hT hS => ⟨b, ns, rfl, fun P hP => ?_, hS, fun _ => rfl⟩, fun base _ _ TB => ?_⟩
  · exact FunD.bindsA (ps := ["_law_script"]) F.funD (fun _ _ _ _ _ _ us hl => match us, hl with | [_], _ => rfl) s [u] rfl
  · obtain ⟨p, hp, rfl⟩ := List.mem_map.mp hP
    exact ⟨#[], hT p hp, trivial⟩
  · exact ok_law cav_ok (tc_of hk e0 G fun p hp => ⟨(TB p hp).code, (TB p hp).bm, (TB p hp).gP⟩) F
end Hd
open PySem PySem.W PySem.Calls PyProof.Rows
theorem PySem.Challenge.cw_raytrain_k91_whole_for_ever_holds : PySem.Challenge.rw_raytrain_k91_whole_for_ever.Holds := by
  w_on; o_law
  refine HandSHeadRun.head_any (r := OpenLaw.row PySem.Challenge.rw_raytrain_k91_whole_for_ever) (q := view (OpenLaw.row PySem.Challenge.rw_raytrain_k91_whole_for_ever).prog [102]) (H := Hd.hookR) (ob := Hd.obR) (M := 4000) (loose := Hd.loose) (d := HandSHeadRun.topDef (OpenLaw.row PySem.Challenge.rw_raytrain_k91_whole_for_ever).prog 102) (kwd := []) Hd.obR_eq
    (by kernel_rfl) (fun s => by kernel_rfl) Hd.run (by kernel_rfl) (by kernel_rfl) (by kernel_rfl) (by rfl) (by first | assumption | decide +kernel) (by decide +kernel) ⟨rfl, rfl, rfl, rfl, rfl, by decide +kernel⟩ ?hw ?hc
  case hw => w_witness2
  case hc =>
    refine LamX.walk_ofTsE (l := PySem.Challenge.rw_raytrain_k91_whole_for_ever) (n := 63) (k := 12) (x := "_law_script") (CX := fun _ => L2.CX0) rfl (by decide) (by kernel_rfl) ⟨rfl, by decide, by decide⟩ ?F (fun _ _ _ _ _ z => z)
    intro w mg fa h Y G hmg0
    have hmg : mg ("law" : PySem.Str) = some (.ref fa) := by
      have e : (HandSHeadRun.topDef (OpenLaw.row PySem.Challenge.rw_raytrain_k91_whole_for_ever).prog 102).name = ("law" : PySem.Str) := by kernel_rfl
      rw [← e]
      exact hmg0
    exact Hd.law_at Y G hmg
