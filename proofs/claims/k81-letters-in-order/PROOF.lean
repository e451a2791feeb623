import PyProof.Rows.All
import PySem.Challenge.RW_proofabode_k81_letters_in_order
import HandS.ForMost
import HandS.AnyAll
import HandS.GenOver
import PySem.Str
import HandS.DictComp
import HandS.Zip
import HandS.Flow
import HandS.IsInst
import HandS.More
import HandS.Walk
import KE.DataEq
import HandS.TupAny
import HandS.Small
import HandS.Text
import HandS.WordsDict
import PyProof.ListStr
import HandS.Iter
import HandS.Exc
import HandS.EndTab
import HandS.EndOwn
set_option Elab.async false
set_option linter.all false
set_option maxRecDepth 100000
set_option maxHeartbeats 4000000
namespace MP
open PySem PySem.Spec PyProof.Rows L2
structure Eater (κ : Type) where
  SS : List Addr
  shows : κ → List (Addr × Obj) → Prop
  inj : ∀ {a b l}, shows a l → shows b l → a = b
  ad : ∀ {a l}, shows a l → l.map (·.1) = SS
  nc : ∀ {a l}, shows a l → ∀ p ∈ l, ∀ v, p.2.data ≠ .cell v
def Here (l : List (Addr × Obj)) (h : Heap) : Prop := ∀ p ∈ l, h.get? p.1 = some p.2
theorem here_eq {h : Heap} : ∀ {l k : List (Addr × Obj)}, l.map (·.1) = k.map (·.1) → Here l h → Here k h → l = k
  | [], [], _, _, _ => rfl
  | [], _ :: _, e, _, _ => by simp at e
  | _ :: _, [], e, _, _ => by simp at e
  | p :: l, q :: k, e, hl, hk => by
    simp only [List.map_cons, List.cons.injEq] at e
    have e1 := hl p List.mem_cons_self
    have e2 := hk q List.mem_cons_self
    rw [e.1] at e1
    have e3 : p.2 = q.2 := Option.some.inj (e1.symm.trans e2)
    rw [here_eq e.2 (fun r hr => hl r (List.mem_cons_of_mem _ hr)) (fun r hr => hk r (List.mem_cons_of_mem _ hr)), Prod.ext e.1 e3]
abbrev gcx (X : Cx) (A : Around) (s : Shared) (H : Hp) (scope : Scope) (cenv : Env) (fp : List Addr) (a : Addr) (og : Obj) : Cx :=
  { X with A := A, s_0 := s, H_0 := H, env := cenv, outer := X.stack, stack := cenv :: X.stack, ex := fp, fn := fun x => scope.names.lookup x == some .cell, pn := [(a, og)], xe := fun _ _ => False }
structure Slp (SS : List Addr) (l : List (Addr × Obj)) (s s' : Shared) : Prop where
  os : s'.os = s.os
  bare : AllBare s'.gens
  keep : ∀ b o, b ∉ SS → s.heap.get? b = some o → s'.heap.get? b = some o
  here : Here l s'.heap
section
variable {X : Cx} {σ : L2.St} {H : Hp} {s s' : Shared} {SS : List Addr} {l l' ip : List (Addr × Obj)}
structure Aloof (X : Cx) (SS : List Addr) : Prop where
  young : ∀ b ∈ SS, X.s_0.heap.objs.size ≤ b
  loc : ∀ b ∈ SS, b ≠ X.env.locals
  cell : ∀ b ∈ SS, ∀ x c, X.env.cells.lookup x = some c → c ≠ b
  pn : ∀ b ∈ SS, ∀ p ∈ X.pn, p.1 ≠ b
theorem inv_slept (I : Inv X (l ++ ip) σ H s) (e : l.map (·.1) = SS) (e' : l'.map (·.1) = SS) (nc : ∀ p ∈ l', ∀ v, p.2.data ≠ .cell v) (hA : Aloof X SS) (hip : ∀ p ∈ ip, p.1 ∉ SS) (z : Slp SS l' s s') : Inv X (l' ++ ip) σ H s' := by
  have free : ∀ b ∈ SS, H b = none ∧ b ∉ X.fs := fun b hb => by
    rw [← e] at hb
    obtain ⟨p, hp, rfl⟩ := List.mem_map.mp hb
    obtain ⟨_, n, _, nf, _⟩ := I.pin p (List.mem_append_right _ (List.mem_append_left _ hp))
    exact ⟨n, nf⟩
  have I0 : Inv X ip σ H s := I.pins_of fun p hp => I.pin p (List.mem_append_right _ (List.mem_append_right _ hp))
  have nt : ∀ b u, H b = some u → b ∉ SS := fun b u q hb => by
    rw [(free b hb).1] at q
    cases q
  obtain ⟨z1, z2, z3, z4⟩ := z
  obtain ⟨hh, g, d, t, o⟩ := s'
  have ho : o = s.os := z1
  subst ho
  have J : Inv X ip σ H { s with heap := hh, gens := g, drawn := d, toks := t } := by
    refine I0.step (g' := g) (t' := t) (d' := d) (ch := SS) (fun b hb => ⟨.inr (hA.young b hb), hA.loc b hb, hA.cell b hb, fun p hp => ?_⟩) (fun b ob _ _ hc q _ => z3 b ob hc q) (fun b ob _ _ hc q _ => ⟨ob.slots, z3 b ob hc q⟩)
      (fun _ _ _ _ n => n) (fun b ob hc q => ⟨ob, z3 b ob hc q⟩) (fun _ _ q => q) (fun _ _ _ q => q) (fun b ps q => ⟨#[], by rw [q]; simp⟩) (fun m hm => ?_) (fun b u q => ?_) z2
    · rcases List.mem_append.mp hp with hp | hp
      · exact hA.pn b hb p hp
      · exact fun z => hip p hp (z ▸ hb)
    · obtain ⟨ob, es, ep, q, r⟩ := hm
      exact ⟨ob, es, ep, z3 _ ob (fun y => hA.loc _ y rfl) q, r⟩
    · refine (I0.hok b u q).stay (fun c v hc y => z3 c v ?_ y) (fun _ y => y) fun _ _ y => y
      rcases hc with y | y
      · rw [y]; exact nt b u q
      · exact nt c _ y
  refine J.pins_of fun p hp => ?_
  rcases List.mem_append.mp hp with hp | hp
  · have hm : p.1 ∈ SS := by rw [← e']; exact List.mem_map.mpr ⟨p, hp, rfl⟩
    exact ⟨z4 p hp, (free _ hm).1, hA.loc _ hm, (free _ hm).2, nc p hp⟩
  · exact J.pin p (List.mem_append_right _ hp)
theorem inv_more {pins : List (Addr × Obj)} {g' : Array GenState} {h' : Heap} {t' : Nat} (I : Inv X pins σ H s) (k : ∀ b o, s.heap.get? b = some o → h'.get? b = some o) (hg : AllBare g') : Inv X pins σ H { s with heap := h', gens := g', toks := t' } := by
  refine I.step (g' := g') (d' := s.drawn) (ch := []) (fun _ z => nomatch z) (fun b o _ _ _ e _ => k b o e) (fun b o _ _ _ e _ => ⟨o.slots, k b o e⟩) (fun _ _ _ _ n => n) (fun b o _ e => ⟨o, k b o e⟩) (fun _ _ q => q) (fun _ _ _ q => q) (fun b ps q => ⟨#[], by rw [q]; simp⟩)
    (fun m hm => ?_) (I.hok.kept k) hg
  obtain ⟨o, es, ep, ho, r⟩ := hm
  exact ⟨o, es, ep, k _ o ho, r⟩
end
abbrev TEm (κ : Type) := κ → V → Hp → (κ → Hp → Prop) → Prop
section
variable {κ : Type}
def REnd (X : Cx) (ea : Eater κ) (Fin : κ → Hp → Prop) : GenEnd := fun _ s₀ r s1 => r = .ok .next ∧ ∃ k l H ip σ, ea.shows k l ∧ Here l s₀.heap ∧ Inv X (l ++ ip) σ H s1 ∧ Fin k H
def YOut (X : Cx) (ea : Eater κ) (Em : TEm κ) : Protocol := fun _ s₀ v s kap => ∃ y k l H ip σ Nx, ea.shows k l ∧ Here l s₀.heap ∧ Inv X (l ++ ip) σ H s ∧ RelV y v ∧ Em k y H Nx ∧
  ∀ s'' k' l', Slp ea.SS l' s s'' → ea.shows k' l' → Nx k' H → kap (.send .none) s''
def GLoop (J : It) (g : TG) (tt : TT) (te : TE) (vs : List Nat) (σ : L2.St) (Em : TEm κ) (Fin : κ → Hp → Prop) (k0 : κ) (H0 : Hp) : Prop :=
  ∃ W : Nat → Nat → κ → Hp → Prop, (∃ m, W 0 m k0 H0) ∧ ∀ i m k H, W i m k H → (J.stop i H ∧ Fin k H) ∨ (J.go i H ∧ ∃ Nx : κ → Hp → Prop, (∀ k' H', Nx k' H' → ∃ m', m' < m ∧ W (i + 1) m' k' H') ∧
    ∀ x H', J.yld i H x H' → g x (wipe σ vs) H' fun σ2 H2 => wipe σ2 vs = wipe σ vs ∧ tt σ2 H2 fun b H3 => if b = true then te σ2 H3 fun y H4 => Em k y H4 Nx else Nx k H3)
end
theorem seg_false {M : Model} {A : Around} {R : GenEnd} {Y : Protocol} {n : Nat} {s₀ : Shared} {c : Code} {t : Sem PySem.Fin} {fs : List Frame} {s : Shared} (h : False) : Seg M A R Y n s₀ c t fs s := h.elim
section
variable {κ : Type} {X : Cx} {A : Around} {ea : Eater κ} {Em : TEm κ} {Fin : κ → Hp → Prop}
theorem seg_loop {elt tg iter : Expr} {ifs : List Expr} {scope : Scope} {pos : Pos} {it : Addr} {fp vs : List Addr} {tn : Nat → Heap → Prop} {J : It} {g : TG} {tt : TT} {te : TE} {σ : L2.St} {W : Nat → Nat → κ → Hp → Prop}
    (hXA : A.over (.compLoop (.GeneratorExp elt [⟨tg, iter, ifs, 0⟩] scope pos) 0 (.ref it) .none X.env) [] = X.A) (hcalm : X.calm = true) (hxe : X.xe = fun _ _ => False) (hex : X.ex = fp) (hco : X.env.scope.isCoroutine = false)
    (T : Turn X.prog X.w X.K tg J fp it tn) (hal : Aloof X ea.SS) (hfS : ∀ b ∈ fp, b ∉ ea.SS) (hfp : ∀ b ∈ fp, ∀ p ∈ X.pn, p.1 ≠ b) (pg : PG X tg g) (pt : PTs X ifs tt) (pe : PE X elt te)
    (turn : ∀ i m k H, W i m k H → (J.stop i H ∧ Fin k H) ∨ (J.go i H ∧ ∃ Nx : κ → Hp → Prop, (∀ k' H', Nx k' H' → ∃ m', m' < m ∧ W (i + 1) m' k' H') ∧
      ∀ x H', J.yld i H x H' → g x (wipe σ vs) H' fun σ2 H2 => wipe σ2 vs = wipe σ vs ∧ tt σ2 H2 fun b H3 => if b = true then te σ2 H3 fun y H4 => Em k y H4 Nx else Nx k H3)) :
    ∀ (m n i : Nat) (s₀ s : Shared) (k : κ) (l : List (Addr × Obj)) (H : Hp), m < n → ea.shows k l → Here l s₀.heap → Inv X l (wipe σ vs) H s → tn i s.heap → (∀ b ∈ fp, H b = none) → W i m k H →
      Seg (model X.prog X.w) A (REnd X ea Fin) (YOut X ea Em) n s₀ (.compLoop (.GeneratorExp elt [⟨tg, iter, ifs, 0⟩] scope pos) 0 (.ref it) .none X.env)
        ((model X.prog X.w).den (.compLoop (.GeneratorExp elt [⟨tg, iter, ifs, 0⟩] scope pos) 0 (.ref it) .none X.env)) [] s := by
  have stat : ∀ {σ' : L2.St} {H' : Hp} {s' : Shared} {l : List (Addr × Obj)}, l.map (·.1) = ea.SS → Inv X l σ' H' s' → (∀ b ∈ fp, H' b = none) → ∀ b ∈ fp, FpOk X l H' b := fun {σ' H' s' l} el I' hn b hb => by
    have hb' : b ∈ X.ex := by rw [hex]; exact hb
    refine ⟨hn b hb, (I'.ok.exf b hb').1, I'.ok.exfs b hb', .inl hb', fun x c e => (I'.ok.exf b hb').2 x c e, fun p hp z => ?_⟩
    rcases List.mem_append.mp hp with hp | hp
    · exact hfp b hb p hp z
    · exact hfS b hb (by rw [← el, ← z]; exact List.mem_map.mpr ⟨p, hp, rfl⟩)
  intro m
  induction m using Nat.strongRecOn with
  | ind m ih =>
  intro n i s₀ s k l H hmn hsh hl0 I st nf w
  have el := ea.ad hsh
  show Seg _ A _ _ n s₀ _ ((compTurn (.GeneratorExp elt [⟨tg, iter, ifs, 0⟩] scope pos) 0 (.ref it) .none X.env).onRaise (leaving X.env)) [] s
  rw [compTurn_gen, Sem.onRaise_eq_wrap]
  refine seg_bind_wrap (wpAny_standAt ?_)
  rcases turn i m k H w with ⟨stop, fin⟩ | ⟨go, Nx, hNx, step⟩
  · refine seg_bind_wrap ?_
    rw [hXA]
    refine wpAny_mono (T.done X rfl rfl rfl hcalm i l s _ H (fun _ _ => False) I (stat el I nf) st stop) (fun r s1 ⟨hr, I1⟩ => ?_) fun _ _ z => seg_false z
    subst hr
    exact seg_end (.ok .next) ⟨rfl, k, l, H, [], _, hsh, hl0, by rw [List.append_nil]; exact I1, fin⟩
  · refine seg_bind_wrap ?_
    rw [hXA]
    refine wpAny_mono (T.item X rfl rfl rfl hcalm i l s _ H (fun _ _ => False) I (stat el I nf) st go) (fun r s1 ⟨u, hr, h1⟩ => ?_) fun _ _ z => seg_false z
    subst hr
    refine seg_bind_wrap ?_
    rw [hXA]
    refine wpAny_mono h1 (fun _ s2 ⟨x, H2, I2, r2, y2, st2, nf2⟩ => ?_) fun _ _ z => seg_false z
    have I2' := I2.pinned (stat el I2 nf2) (T.obj _ _ st2)
    refine seg_bind_wrap ?_
    rw [hXA]
    have pgr := pg.run _ s2 _ H2 x u _ I2' r2 (step x H2 y2)
    rw [hxe] at pgr
    refine wpAny_mono pgr (fun _ s3 ⟨σ3, H3, I3, hw3, q3⟩ => ?_) fun _ _ z => seg_false z
    refine seg_bind_wrap ?_
    rw [hXA]
    have ptr := pt.run _ s3 σ3 H3 _ I3 q3
    rw [hxe] at ptr
    refine wpAny_mono ptr (fun b s4 ⟨H4, I4, q4⟩ => ?_) fun _ _ z => seg_false z
    have again : ∀ {n' : Nat} {s₀' s' : Shared} {k' : κ} {l' : List (Addr × Obj)} {H' : Hp}, (∀ p ∈ l', ∀ v, p.2.data ≠ .cell v) → ea.shows k' l' → Here l' s₀'.heap → Inv X (l' ++ pinsAt fp s2.heap) σ3 H' s' → Nx k' H' → m ≤ n' →
        Seg (model X.prog X.w) A (REnd X ea Fin) (YOut X ea Em) n' s₀' (.compLoop (.GeneratorExp elt [⟨tg, iter, ifs, 0⟩] scope pos) 0 (.ref it) .none X.env)
          (.pure (.again (.compLoop (.GeneratorExp elt [⟨tg, iter, ifs, 0⟩] scope pos) 0 (.ref it) .none X.env))) [] s' := fun {n' s₀' s' k' l' H'} nc sh' hl' I' nx hn => by
      obtain ⟨m', hm, w'⟩ := hNx k' H' nx
      have pin' : ∀ b ∈ fp, ∀ o, s2.heap.get? b = some o → s'.heap.get? b = some o ∧ H' b = none := fun b hb o e =>
        let z := I'.pin (b, o) (List.mem_append_right _ (List.mem_append_right _ (mem_pinsAt hb e)))
        ⟨z.1, z.2.1⟩
      have hlen : (wipe σ vs).length = σ3.length := by rw [← hw3, wipe_length]
      refine seg_again rfl (ih m' hm n' (i + 1) s₀' s' k' l' H' (by omega) sh' hl' (I'.unpinned.weak hlen fun j v e => ?_) (T.keep _ _ _ st2 fun b hb o e => (pin' b hb o e).1) (fun b hb => ?_) w')
      · rw [← hw3] at e
        exact (wipe_some e).1
      · obtain ⟨o, e, _⟩ := T.obj _ _ st2 b hb
        exact (pin' b hb o e).2
    cases b with
    | false =>
      simp only [Bool.false_eq_true, if_false] at q4 ⊢
      exact again (ea.nc hsh) hsh hl0 I4 q4 (by omega)
    | true =>
      simp only [if_true] at q4 ⊢
      have hy : ∀ v, yieldOut X.env v = yieldValue v := fun v => by simp only [yieldOut, hco, Bool.false_eq_true, if_false]
      simp only [hy]
      rw [Sem.bind_eq_wrap', Sem.bind_eq_wrap', Sem.wrap_wrap, Sem.wrap_wrap]
      have per := pe.run _ s4 σ3 H4 _ I4 q4
      rw [hxe] at per
      refine seg_wrap ?_
      rw [hXA]
      refine wpAny_mono per (fun v s5 ⟨y, H5, I5, r5, em⟩ => ?_) fun _ _ z => seg_false z
      obtain ⟨n, rfl⟩ : ∃ j, n = j + 1 := ⟨n - 1, by omega⟩
      refine seg_at (seg_yield rfl rfl rfl ?_)
      refine ⟨y, k, l, H5, pinsAt fp s2.heap, σ3, Nx, hsh, hl0, I5, r5, em, fun s'' k' l' z sh' nx => ?_⟩
      have I6 := inv_slept I5 el (ea.ad sh') (ea.nc sh') hal (fun p hp => hfS _ (of_pinsAt hp).1) z
      exact again (ea.nc sh') sh' z.here I6 nx (by omega)
end
end MP
namespace MP
open PySem PySem.Spec PyProof.Rows L2
section
variable {κ : Type} {X : Cx} {A : Around} {ea : Eater κ} {Em : TEm κ} {Fin : κ → Hp → Prop}
theorem seg_begin {elt tg iter : Expr} {ifs : List Expr} {scope : Scope} {pos : Pos} {it : Addr} {fp : List Addr} {tn : Nat → Heap → Prop} {J : It} {n : Nat} {s₀ s : Shared}
    (T : Turn X.prog X.w X.K tg J fp it tn) (st : tn 0 s.heap)
    (loop : Seg (model X.prog X.w) A (REnd X ea Fin) (YOut X ea Em) n s₀ (.compLoop (.GeneratorExp elt [⟨tg, iter, ifs, 0⟩] scope pos) 0 (.ref it) .none X.env)
        ((model X.prog X.w).den (.compLoop (.GeneratorExp elt [⟨tg, iter, ifs, 0⟩] scope pos) 0 (.ref it) .none X.env)) [] s) :
    Seg (model X.prog X.w) A (REnd X ea Fin) (YOut X ea Em) n s₀ (.compStart (.GeneratorExp elt [⟨tg, iter, ifs, 0⟩] scope pos) 0 (.ref it) .none X.env)
        ((model X.prog X.w).den (.compStart (.GeneratorExp elt [⟨tg, iter, ifs, 0⟩] scope pos) 0 (.ref it) .none X.env)) [] s := by
  show Seg _ A _ _ n s₀ _ ((compStart (.GeneratorExp elt [⟨tg, iter, ifs, 0⟩] scope pos) 0 (.ref it) .none X.env).onRaise (leaving X.env)) [] s
  unfold compStart
  rw [Sem.onRaise_eq_wrap]
  show Seg _ A _ _ n s₀ _ ((ask >>= _).wrap _ _ _ _) [] s
  refine seg_bind_wrap (wpAny_askSetting ?_)
  split
  · exact seg_again rfl loop
  · refine seg_bind_wrap (wpAny_rule ?_)
    show Seg _ A _ _ n s₀ _ ((standAt iter.pos >>= _).wrap _ _ _ _) [] s
    exact seg_bind_wrap (wpAny_standAt (seg_bind_wrap (T.self _ 0 s _ _ st (seg_again rfl loop))))
structure GReady (X : Cx) (A : Around) (ea : Eater κ) (Em : TEm κ) (Fin : κ → Hp → Prop) (a : Addr) (g n : Nat) (k : κ) (l : List (Addr × Obj)) (s : Shared) : Prop where
  gen : s.heap.IsGen a g
  lim : s.heap.NoLimit
  sh : ea.shows k l
  here : Here l s.heap
  go : ∃ gs, s.gens[g]? = some gs ∧ gs.Goes (model X.prog X.w) A.in1 (REnd X ea Fin) (YOut X ea Em) n (.send .none) (s.setGen g .running)
theorem allBare_set {s : Shared} {g : Nat} {x : GenState} (h : AllBare s.gens) (hx : x.bare = true) : AllBare (s.setGen g x).gens := by
  intro y hy
  have hy' : y ∈ s.gens.setIfInBounds g x := hy
  obtain ⟨i, hi, rfl⟩ := Array.mem_iff_getElem.mp hy'
  rw [Array.getElem_setIfInBounds (by simpa using hi)]
  split
  · exact hx
  · exact h _ (Array.getElem_mem (by simpa using hi))
theorem setGen_at {s : Shared} {g : Nat} {x : GenState} (h : g < s.gens.size) : (s.setGen g x).gens[g]? = some x := by simp [Shared.setGen, h]
theorem setGen_sz (s : Shared) (g : Nat) (x : GenState) : (s.setGen g x).gens.size = s.gens.size := by simp [Shared.setGen]
theorem lim_slept {s s' : Shared} {SS : List Addr} {l : List (Addr × Obj)} (h : s.heap.NoLimit) (hS : cStatics ∉ SS) (z : Slp SS l s s') : s'.heap.NoLimit := by
  obtain ⟨mc, hns, hnn⟩ := h
  exact ⟨mc, hns.at' fun o e => z.keep _ o hS e, hnn⟩
theorem next_gen {a : Addr} {g n : Nat} {k : κ} {l : List (Addr × Obj)} {s : Shared} {og : Obj} {Q : Option Value → Shared → Prop} {E : Value → Shared → Prop} (hh : A.handled = none) (hroom : A.depth < recursionLimit)
    (hpn : X.pn = [(a, og)]) (hog : ∃ nm qn, og.cls = .type "generator" ∧ og.data = .fields #[.int g 0, nm, qn] ∧ og.slots = #[]) (hal : Aloof X ea.SS) (R : GReady X A ea Em Fin a g n k l s)
    (hd : ∀ H ip σ s', Inv X (l ++ ip) σ H s' → Fin k H → Q none s')
    (hy : ∀ y v H ip σ Nx s', Inv X (l ++ ip) σ H s' → RelV y v → Em k y H Nx → (∀ s'' k' l', Slp ea.SS l' s' s'' → s''.gens = s'.gens → ea.shows k' l' → Nx k' H → ∃ n', n' < n ∧ GReady X A ea Em Fin a g n' k' l' s'') → Q (some v) s') :
    wpAny (model X.prog X.w) A (pyNext (.ref a)) Q E s := by
  obtain ⟨gs, hgs, hgo⟩ := R.go
  have hlt : g < s.gens.size := by
    rcases Nat.lt_or_ge g s.gens.size with h | h
    · exact h
    · rw [Array.getElem?_eq_none h] at hgs; cases hgs
  have keyEq : ∀ {k1 : κ} {l1 : List (Addr × Obj)}, ea.shows k1 l1 → Here l1 (s.setGen g .running).heap → k1 = k ∧ l1 = l := fun {k1 l1} h1 h2 => by
    have e : l1 = l := here_eq ((ea.ad h1).trans (ea.ad R.sh).symm) h2 R.here
    subst e
    exact ⟨ea.inj h1 R.sh, rfl⟩
  refine GenW.wpAny_gsz (n := g + 1) hlt ?_
  refine wpAny_mono (wpAny_pyNext_genexpQ (P := fun _ s₀ s1 => ∃ k l H ip σ, ea.shows k l ∧ Here l s₀.heap ∧ Inv X (l ++ ip) σ H s1 ∧ Fin k H) (Y := YOut X ea Em) (Q := fun r s' => g + 1 ≤ s'.gens.size → Q r s') (E := fun _ _ => False) hh R.lim hroom R.gen hgs hgo (fun v s1 gs' hb hv => ?_) (fun s1 hp h' hk => ?_)) (fun _ _ z => z) fun _ _ z => z.elim
  · obtain ⟨y, k1, l1, H, ip, σ, Nx, h1, h2, I, rv, em, wake⟩ := hv
    obtain ⟨rfl, rfl⟩ := keyEq h1 h2
    intro hsz
    rw [setGen_sz] at hsz
    have I' : Inv X (l1 ++ ip) σ H (s1.setGen g gs') := inv_more (h' := s1.heap) (t' := s1.toks) I (fun _ _ e => e) (allBare_set I.bare hb)
    refine hy y v H ip σ Nx _ I' rv em fun s'' k' l' z hg' sh' nx => ?_
    have hcs : cStatics ∉ ea.SS := fun hb => by
      obtain ⟨mc, hns, _⟩ := I.ok.mod.nolimit
      have h1 := hns.lt
      have h2 := hal.young _ hb
      have h3 := I.ok.bsz
      exact absurd (Nat.lt_of_lt_of_le h1 (Nat.le_trans h3 h2)) (Nat.lt_irrefl _)
    have pa : (a, og) ∈ X.pn := by rw [hpn]; exact List.mem_cons_self
    have ga := (I'.pin (a, og) (List.mem_append_left _ pa)).1
    have haS : a ∉ ea.SS := fun hb => hal.pn a hb _ pa rfl
    have w1 : ∀ m, n = m + 1 → gs'.Goes (model X.prog X.w) A.in1 (REnd X ea Fin) (YOut X ea Em) m (.send .none) (s''.setGen g .running) := fun m hm => by
      subst hm
      exact wake (s''.setGen g .running) k' l' ⟨z.os, allBare_set z.bare rfl, fun b o hb e => z.keep b o hb e, z.here⟩ sh' nx
    cases n with
    | zero =>
      have w0 := wake (s''.setGen g .running) k' l' ⟨z.os, allBare_set z.bare rfl, fun b o hb e => z.keep b o hb e, z.here⟩ sh' nx
      exact w0.elim
    | succ m =>
      refine ⟨m, Nat.lt_succ_self m, ?_, lim_slept I'.nolimit hcs z, sh', z.here, gs', ?_, w1 m rfl⟩
      · obtain ⟨nm, qn, r1, r2, r3⟩ := hog
        exact ⟨og, nm, qn, z.keep a og haS ga, r1, r2, r3⟩
      · rw [hg']
        exact setGen_at (by omega)
  · obtain ⟨k1, l1, H, ip, σ, h1, h2, I, fin⟩ := hp
    obtain ⟨rfl, rfl⟩ := keyEq h1 h2
    intro _
    have I2 := inv_more (s := s1) (h' := h') (g' := (s1.setGen g .finished).gens) (t' := s1.toks) I hk (allBare_set I.bare rfl)
    exact hd H ip σ _ I2 fin
end
end MP
namespace MP
open PySem PySem.Spec PyProof.Rows L2
structure GenSc (N : List Str) (sc scope : Scope) (own : List (Str × Nat)) : Prop where
  kind : scope.kind = .function
  co : scope.isCoroutine = false
  cell : ∀ y ∈ scope.names, y.2 ≠ .cell
  dot : scope.names.lookup (".0" : Str) = some NameKind.local
  uniq : ∀ y ∈ scope.names, scope.names.lookup y.1 = some y.2
  ix : ∀ p ∈ own, N[p.2]? = some p.1
  free : ∀ y ∈ scope.names, y.2 = .free → sc.names.lookup y.1 = some .cell ∨ sc.names.lookup y.1 = some .free
  own : ∀ y ∈ scope.names, y.2 = .local → y.1 ∈ own.map (·.1) ∨ y.1 ∉ N
theorem cloFrom_val {cells : List (Str × Addr)} {names : List (Str × NameKind)} {y : Str} {c : Addr} (hf : ∀ y ∈ names, y.2 = .free → ∃ c, cells.lookup y.1 = some c) (e : (cloFrom cells names []).lookup y = some c) : cells.lookup y = some c ∧ (y, NameKind.free) ∈ names := by
  rcases cloFrom_mem (PySem.mem_of_lookup e) with h | ⟨h, rfl⟩
  · cases h
  · obtain ⟨c, hc⟩ := hf _ h rfl
    rw [hc]
    exact ⟨rfl, h⟩
theorem cloFrom_look {cells : List (Str × Addr)} {names : List (Str × NameKind)} {y : Str} (hf : ∀ y ∈ names, y.2 = .free → ∃ c, cells.lookup y.1 = some c) (h : (y, NameKind.free) ∈ names) : ∃ c, (cloFrom cells names []).lookup y = some c ∧ cells.lookup y = some c := by
  obtain ⟨c, e⟩ := mem_lookup (cloFrom_has (cells := cells) (acc := []) h)
  exact ⟨c, e, (cloFrom_val hf e).1⟩
section
variable {X : Cx} {pins : List (Addr × Obj)} {σ : L2.St} {H : Hp} {s : Shared}
theorem fresh_stk (I : Inv X pins σ H s) {b : Addr} (h : s.heap.objs.size ≤ b) : b ∉ frs X.stack := fun hb => by
  rcases List.mem_cons.mp (I.stkSub b hb) with z | z
  · have := I.lt
    rw [← z] at this
    exact absurd (Nat.lt_of_lt_of_le this h) (Nat.lt_irrefl _)
  · exact I.nofs h z
theorem gen_inv {scope : Scope} {own : List (Str × Nat)} {fp : List Addr} {A : Around} {code : Value} {a : Addr} {og : Obj} {l : List (Addr × Obj)} {s6 : Shared} {it : Value} (I : Inv X pins σ H s) (ok : GenSc X.N X.env.scope scope own) (hN : X.N.Nodup)
    (hfp : ∀ b ∈ fp, FpOk X pins H b ∧ b < s.heap.objs.size) (hA : A.handled = none) (hfr : A.frames = some (genEnv scope (cloFrom X.env.cells scope.names []) s.heap.objs.size code builtinsNs X.env :: X.stack))
    (os : s6.os = s.os) (bare : AllBare s6.gens) (kp : ∀ b o, s.heap.get? b = some o → s6.heap.get? b = some o) (ns : s6.heap.Ns s.heap.objs.size (fun y => if y = ".0" then some it else none))
    (hpin : ∀ p ∈ (a, og) :: l, s6.heap.get? p.1 = some p.2 ∧ s.heap.objs.size < p.1 ∧ ∀ v, p.2.data ≠ .cell v) :
    Inv (gcx X A s H scope (genEnv scope (cloFrom X.env.cells scope.names []) s.heap.objs.size code builtinsNs X.env) fp a og) l (wipe σ (own.map (·.2))) H s6 := by
  have hfree : ∀ y ∈ scope.names, y.2 = .free → ∃ c, X.env.cells.lookup y.1 = some c := fun y hy e => by
    rcases ok.free y hy e with k | k
    · exact I.ok.has _ (.inl k)
    · exact I.ok.has _ (.inr k)
  generalize hcenv : genEnv scope (cloFrom X.env.cells scope.names []) s.heap.objs.size code builtinsNs X.env = cenv at hfr
  have hL : cenv.locals = s.heap.objs.size := by rw [← hcenv]; rfl
  have hcl : cenv.cells = cloFrom X.env.cells scope.names [] := by rw [← hcenv]; rfl
  have hsc : cenv.scope = scope := by rw [← hcenv]; rfl
  have cm : ∀ {y c}, cenv.cells.lookup y = some c → X.env.cells.lookup y = some c ∧ (y, NameKind.free) ∈ scope.names := fun {y c} e => by
    rw [hcl] at e
    exact cloFrom_val hfree e
  have clt : ∀ {y c}, cenv.cells.lookup y = some c → c < s.heap.objs.size := fun {y c} e => by
    obtain ⟨w, z⟩ := I.cell _ _ (cm e).1
    exact z.lt
  have look : ∀ {y}, (y, NameKind.free) ∈ scope.names → ∃ c, cenv.cells.lookup y = some c ∧ X.env.cells.lookup y = some c := fun {y} hl => by
    rw [hcl]
    exact cloFrom_look hfree hl
  have noCell : ∀ {y}, scope.names.lookup y = some .cell → False := fun {y} h => ok.cell _ (PySem.mem_of_lookup h) rfl
  have okB : (gcx X A s H scope cenv fp a og).Ok := by
    refine ⟨I.ok.mod, by show cenv.scope.kind = _; rw [hsc]; exact ok.kind, by show cenv.globals = _; rw [← hcenv]; exact I.ok.glob, by show cenv.builtins = _; rw [← hcenv]; rfl, by show s.heap.objs.size ≤ cenv.locals; rw [hL]; exact Nat.le_refl _,
      fun y z c e1 e2 => I.ok.inj y z c (cm e1).1 (cm e2).1, fun y hy => ?_, fun y c z e => ?_, fun _ => hA, hfr, .inr ⟨rfl, by rw [← hcenv]; rfl⟩, fun b hb => ⟨?_, fun y c e z => ?_⟩, I.bs, Nat.le_trans I.ok.bsz I.sz, fun b o e hb => ?_, fun b hb z => ?_, I.stack, I.stkFree⟩
    · rcases hy with hy | hy
      · have hy : cenv.scope.names.lookup y = some .cell := hy
        rw [hsc] at hy
        exact (noCell hy).elim
      · have hy : cenv.scope.names.lookup y = some .free := hy
        rw [hsc] at hy
        obtain ⟨c, e, _⟩ := look (PySem.mem_of_lookup hy)
        exact ⟨c, e⟩
    · have z : (scope.names.lookup y == some NameKind.cell) = true := z
      exact (noCell (by simpa using z)).elim
    · show b ≠ cenv.locals
      rw [hL]; exact Nat.ne_of_lt (hfp b hb).2
    · exact (hfp b hb).1.2.2.2.2.1 y c (cm e).1 z
    · rcases (hfp b hb).1.2.2.2.1 with z | z
      · exact I.ok.noex b o e z
      · exact absurd (Nat.lt_of_lt_of_le (Heap.lt_size e) (Nat.le_trans I.ok.bsz z)) (Nat.lt_irrefl _)
    · rcases List.mem_cons.mp (I.stkSub b z) with z | z
      · exact (hfp b hb).1.2.1 z
      · exact (hfp b hb).1.2.2.1 z
  refine ⟨okB, os, bare, Un.kept kp, ⟨fun y => if y = ".0" then some it else none, ?_, fun i y av e1 e2 e3 => ?_⟩, fun y c e => ?_, ?_, fun y c e => ?_, fun p hp => ?_, I.hok.kept kp, by rw [wipe_length]; exact I.len⟩
  · show Heap.Ns _ cenv.locals _
    rw [hL]
    exact ns
  · obtain ⟨e2, hne⟩ := wipe_some e2
    have hfr' : (y, NameKind.free) ∈ scope.names := by
      have e3 : Vis cenv.scope y := e3
      rw [hsc] at e3
      rcases e3 with e3 | e3 | e3
      · rcases ok.own _ (PySem.mem_of_lookup e3) rfl with e' | e'
        · obtain ⟨p, hp, hpy⟩ := List.mem_map.mp e'
          have e4 := ok.ix p hp
          have e5 : p.1 = y := hpy
          rw [e5] at e4
          exact absurd (List.mem_map.mpr ⟨p, hp, nodup_ix hN e4 e1⟩) hne
        · exact absurd (List.mem_of_getElem? e1) e'
      · exact (noCell e3).elim
      · exact PySem.mem_of_lookup e3
    obtain ⟨m, hn, hl⟩ := I.loc
    have hvis : Vis X.env.scope y := (ok.free _ hfr' rfl).elim (fun k => .inr (.inl k)) (fun k => .inr (.inr k))
    obtain ⟨w, r, q⟩ := hl i y av e1 e2 hvis
    obtain ⟨c, h1, h2⟩ := look hfr'
    have kf : cenv.kindOf y = some .free := by
      show cenv.scope.names.lookup y = _
      rw [hsc]
      exact ok.uniq _ hfr'
    refine ⟨w, r, .inr ⟨.inr kf, c, h1, ?_⟩⟩
    rcases q with ⟨k, _⟩ | ⟨_, c', e', z⟩
    · have k : X.env.scope.names.lookup y = some .local := k
      rcases ok.free _ hfr' rfl with k' | k' <;> rw [show X.env.scope.names.lookup y = _ from k'] at k <;> cases k
    · rw [h2] at e'; cases e'
      exact z.keeps kp
  · obtain ⟨w, z⟩ := I.cell y c (cm e).1
    exact ⟨w, z.keeps kp⟩
  · show H cenv.locals = none
    rw [hL]; exact I.hok.fresh (Nat.le_refl _)
  · exact I.freeC y c (cm e).1
  · obtain ⟨h1, h2, h3⟩ := hpin p (by simpa using hp)
    have h4 := Nat.le_of_lt h2
    refine ⟨h1, I.hok.fresh h4, ?_, fresh_stk I h4, h3⟩
    show p.1 ≠ cenv.locals
    rw [hL]
    exact Nat.ne_of_gt h2
end
structure GMadeX (X : Cx) (pins : List (Addr × Obj)) (vs : List Nat) (σ : L2.St) (J : It) (g : TG) (tt : TT) (te : TE) (H : Hp) (a : Addr) (s : Shared) : Prop where
  os : ∃ s4, Inv X pins σ H s4 ∧ s.os = s4.os ∧ AllBare s.gens ∧ (∀ b o, s4.heap.get? b = some o → s.heap.get? b = some o) ∧ s4.heap.objs.size ≤ a
  lim : s.heap.NoLimit
  gen : ∃ gi, s.heap.IsGen a gi
  lt : a < s.heap.objs.size
  ready : ∀ {κ : Type} (ea : Eater κ) (Em : TEm κ) (Fin : κ → Hp → Prop) (k0 : κ) (l0 : List (Addr × Obj)) (s6 : Shared) (A1 : Around), A1.handled = none → A1.frames = X.A.frames → A1.depth = X.A.depth → A1.units ≤ X.A.units + 8 →
    (∀ b o, s.heap.get? b = some o → s6.heap.get? b = some o) → s6.gens = s.gens → s6.os = s.os → (∀ b ∈ ea.SS, s.heap.objs.size ≤ b) → ea.shows k0 l0 → Here l0 s6.heap → GLoop J g tt te vs σ Em Fin k0 H →
    ∃ XG og gi n, XG.prog = X.prog ∧ XG.w = X.w ∧ XG.pn = [(a, og)] ∧ (∃ nm qn, og.cls = .type "generator" ∧ og.data = .fields #[.int gi 0, nm, qn] ∧ og.slots = #[]) ∧ Aloof XG ea.SS ∧ GReady XG A1 ea Em Fin a gi n k0 l0 s6 ∧
      ∀ pins' σ' H' s', Inv XG pins' σ' H' s' → Inv X pins σ H' s'
theorem eta_sh (s s' : Shared) (h : s'.os = s.os) : ({ s with heap := s'.heap, gens := s'.gens, drawn := s'.drawn, toks := s'.toks } : Shared) = s' := by
  cases s'
  cases h
  rfl
section
variable {X : Cx} {pins : List (Addr × Obj)} {σ : L2.St} {H : Hp} {s : Shared}
theorem gen_make {c P : Addr} {elt tg iter : Expr} {ifs : List Expr} {gpos : Pos} {scope : Scope} {own : List (Str × Nat)} {wi : TI} {g : TG} {tt : TT} {te : TE} {Q' : Value → Shared → Prop} {R : It → Hp → Prop}
    (hcalm : X.calm = true) (hd0 : X.A.depth + 1 < recursionLimit) (TB : GxR.TabB X.base X.mg c P) (hcode : X.env.code = .ref c) (S : GenSc X.N X.env.scope scope own) (hN : X.N.Nodup) (hi : PI X tg iter wi)
    (hg : ∀ (A : Around) (s : Shared) (H : Hp) (C : Addr) (cl : List (Str × Addr)) (code : Value) (fp : List Addr) (a : Addr) (og : Obj), PG (gcx X A s H scope (genEnv scope cl C code builtinsNs X.env) fp a og) tg g)
    (ht : ∀ (A : Around) (s : Shared) (H : Hp) (C : Addr) (cl : List (Str × Addr)) (code : Value) (fp : List Addr) (a : Addr) (og : Obj), A.handled = none → A.depth ≤ X.A.depth + 1 → A.units ≤ X.A.units + 12 → PTs (gcx X A s H scope (genEnv scope cl C code builtinsNs X.env) fp a og) ifs tt)
    (he : ∀ (A : Around) (s : Shared) (H : Hp) (C : Addr) (cl : List (Str × Addr)) (code : Value) (fp : List Addr) (a : Addr) (og : Obj), A.handled = none → A.depth ≤ X.A.depth + 1 → A.units ≤ X.A.units + 12 → PE (gcx X A s H scope (genEnv scope cl C code builtinsNs X.env) fp a og) elt te)
    (hs : ∀ v, genFold iter X.env v = pure v) (I : Inv X pins σ H s) (h : wi σ H fun J H1 => GxR.TabG H1 P ∧ ∀ H2, GxR.Tabbed P H1 H2 → R J H2)
    (hQ : ∀ J H2 a s5, R J H2 → GMadeX X pins (own.map (·.2)) σ J g tt te H2 a s5 → Q' (.ref a) s5) :
    wpAny (model X.prog X.w) X.A (eval (.GeneratorExp elt [⟨tg, iter, ifs, 0⟩] scope gpos) X.env) Q' X.xe s := by
  have hfree : ∀ y ∈ scope.names, y.2 = .free → ∃ c, X.env.cells.lookup y.1 = some c := fun y hy e => by
    rcases S.free y hy e with k | k
    · exact I.ok.has _ (.inl k)
    · exact I.ok.has _ (.inr k)
  refine wpAny_GeneratorExp_make S.co (closure_ok hfree) S.cell S.dot S.kind (by omega) ?_ hs
  refine thn (hi.run pins s σ H _ I h) fun xv s1 hx => thn hx fun itv s2 h2 => ?_
  obtain ⟨it, fp, tn, J, H1, rfl, I2, T, st2, f2, ⟨ps, hP, htr⟩, hR⟩ := h2
  have hPs : s2.heap.get? P = some { cls := .none, data := .fields ps } := I2.hok P _ hP
  have cd : PySem.W.CodeHd s2.heap c P := TB.code.keeps fun b u e => I2.bk b u e
  refine ⟨I2.nolimit, ?_⟩
  have cont : ∀ (code : Value) (h3 : Heap) (tk : Nat) (ps' : Array Value), Heap.ExtBut P s2.heap h3 → s2.heap.objs.size ≤ h3.objs.size → h3.get? P = some { cls := .none, data := .fields ps' } → (∃ more, ps' = ps ++ more) → TriplesOk ps'.toList →
      wpAny (model X.prog X.w) X.A (builtinsFor X.env.globals X.env.builtins) (fun bi s4 =>
        ∀ h', h'.Ns s4.heap.objs.size (fun y => if y = ".0" then some (Value.ref it) else none) → Heap.SameBut s4.heap.objs.size (s4.heap.push { cls := .type "frame", data := .dict #[] }) h' →
          Q' (.ref h'.objs.size) { s4 with
            gens := s4.gens.push (.fresh (.compStart (.GeneratorExp elt [⟨tg, iter, ifs, 0⟩] scope gpos) 0 (.ref it) .none (genEnv scope (cloFrom X.env.cells scope.names []) s4.heap.objs.size code bi X.env))),
            toks := s4.toks + 1 + 1 + 1,
            heap := h'.push { cls := .type "generator", data := .fields #[.int s4.gens.size 0, .str "<genexpr>" (s4.toks + 1), .str (X.env.qual ++ "<genexpr>") (s4.toks + 1 + 1)] } }) X.xe { s2 with heap := h3, toks := tk } := by
    intro code h3 tk ps' hx hsz hP3 hmore ht3
    obtain ⟨bm, ob, e1, e2, e3, e4, e5, e6, e7, e8⟩ := TB.bm
    have keep3 : ∀ b u, b ≠ P → s2.heap.get? b = some u → h3.get? b = some u := fun b u hb e => hx b u hb e
    refine wpAny_builtinsFor (m := X.mg) (by rw [I2.ok.glob]; exact (I2.mod.glob.keeps I2.bk).extBut hx TB.gP) e1 e2 (keep3 _ _ e4 (I2.bk _ _ e5)) e6 e7 e8 ?_
    obtain ⟨more, em⟩ := hmore
    have J4 := GxR.inv_tab (more := more) (h' := h3) (g' := s2.gens) (d' := s2.drawn) (t' := tk) I2 hP keep3 (by rw [← em]; exact hP3) I2.bare
    generalize hH4 : upd H1 P (.tbl (ps ++ more)) = H4 at J4
    have hT4 : GxR.Tabbed P H1 H4 := by
      subst hH4
      exact ⟨⟨ps ++ more, upd_same, by rw [← em]; exact ht3⟩, fun b hb => upd_ne hb⟩
    have r4 := hR H4 hT4
    intro h5 hn5 hs5
    generalize hs4 : ({ s2 with heap := h3, toks := tk } : Shared) = s4 at hn5 hs5
    have J4 : Inv X pins σ H4 s4 := by rw [← hs4]; exact J4
    have g4 : s4.gens = s2.gens := by rw [← hs4]
    have st4 : tn 0 s4.heap := T.keep _ _ _ st2 fun b hb o e => by
      rw [← hs4]
      refine keep3 b o (fun z => ?_) e
      have q := (f2 b hb).1
      rw [z, hP] at q
      cases q
    have sz5 : h5.objs.size = s4.heap.objs.size + 1 := by rw [hs5.1, Heap.size_push]
    have k5 : ∀ b o, s4.heap.get? b = some o → h5.get? b = some o := fun b o e => hs5.extBut b o (Nat.ne_of_lt (Heap.lt_size e)) (Heap.get?_push_of_some _ e)
    have f4 : ∀ b ∈ fp, FpOk X pins H4 b ∧ b < s4.heap.objs.size := fun b hb => by
      obtain ⟨o, e, _⟩ := T.obj _ _ st4 b hb
      refine ⟨⟨?_, (f2 b hb).2⟩, Heap.lt_size e⟩
      rw [← hH4, upd_ne (fun z => ?_)]
      · exact (f2 b hb).1
      · have q := (f2 b hb).1
        rw [z, hP] at q
        cases q
    have et : s4.toks = tk := by rw [← hs4]
    have eo : s4.os = s2.os := by rw [← hs4]
    generalize hog : ({ cls := .type "generator", data := .fields #[.int s4.gens.size 0, .str "<genexpr>" (s4.toks + 1), .str (X.env.qual ++ "<genexpr>") (s4.toks + 1 + 1)] } : Obj) = og
    have hog3 : og.cls = .type "generator" ∧ og.data = .fields #[.int s4.gens.size 0, .str "<genexpr>" (s4.toks + 1), .str (X.env.qual ++ "<genexpr>") (s4.toks + 1 + 1)] ∧ og.slots = #[] := by
      subst hog
      exact ⟨rfl, rfl, rfl⟩
    generalize hce : genEnv scope (cloFrom X.env.cells scope.names []) s4.heap.objs.size code builtinsNs X.env = ce
    have ga : (h5.push og).get? h5.objs.size = some og := Heap.get?_push_size _ (Obj.isFreed_of_fields hog3.2.1)
    have k6 : ∀ b o, s4.heap.get? b = some o → (h5.push og).get? b = some o := fun b o e => Heap.get?_push_of_some _ (k5 b o e)
    refine hQ J H4 h5.objs.size _ r4 ⟨⟨s4, J4, by rw [← hs4], ?_, k6, by omega⟩, ?_, ⟨s4.gens.size, og, _, _, ga, hog3.1, hog3.2.1, hog3.2.2⟩, by show h5.objs.size < (h5.push og).objs.size; rw [Heap.size_push]; exact Nat.lt_succ_self _, ?_⟩
    · intro y hy
      have hy' : y ∈ s4.gens.push (.fresh (.compStart (.GeneratorExp elt [⟨tg, iter, ifs, 0⟩] scope gpos) 0 (.ref it) .none ce)) := by
        rw [← hs4]
        simpa [← hs4, ← hce] using hy
      rcases Array.mem_push.mp hy' with z | z
      · exact J4.bare y z
      · rw [z]; rfl
    · exact J4.nolimit.keeps k6
    · intro κ ea Em Fin k0 l0 s6 A1 hA1 hfrA hdA huA kk hg6 ho6 hSS hsh hl0 hloop
      obtain ⟨W, ⟨m0, w0⟩, turn⟩ := hloop
      have k7 : ∀ b o, s4.heap.get? b = some o → s6.heap.get? b = some o := fun b o e => kk b o (k6 b o e)
      have hfr : (A1.in1.over (.compLoop (.GeneratorExp elt [⟨tg, iter, ifs, 0⟩] scope gpos) 0 (.ref it) .none ce) []).frames = some (ce :: X.stack) := by
        have q : A1.frames = some X.stack := hfrA.trans J4.ok.frames
        unfold Around.over
        simp only []
        rw [show A1.in1.frames = some X.stack from q]
        rfl
      have bare6 : AllBare s6.gens := by
        rw [hg6]
        intro y hy
        have hy' : y ∈ s4.gens.push (.fresh (.compStart (.GeneratorExp elt [⟨tg, iter, ifs, 0⟩] scope gpos) 0 (.ref it) .none ce)) := by
          rw [← hs4]
          simpa [← hs4, ← hce] using hy
        rcases Array.mem_push.mp hy' with z | z
        · exact J4.bare y z
        · rw [z]; rfl
      have os6 : s6.os = s4.os := by rw [ho6, ← hs4]
      have ga6 : s6.heap.get? h5.objs.size = some og := kk _ _ ga
      have hpin : ∀ p ∈ (h5.objs.size, og) :: l0, s6.heap.get? p.1 = some p.2 ∧ s4.heap.objs.size < p.1 ∧ ∀ v, p.2.data ≠ .cell v := fun p hp => by
        rcases List.mem_cons.mp hp with z | z
        · rw [z]
          exact ⟨ga6, by show s4.heap.objs.size < h5.objs.size; omega, fun v q => by rw [hog3.2.1] at q; cases q⟩
        · have hm : p.1 ∈ ea.SS := by rw [← ea.ad hsh]; exact List.mem_map.mpr ⟨p, z, rfl⟩
          refine ⟨hl0 p z, ?_, ea.nc hsh p z⟩
          have q := hSS _ hm
          have q' : (h5.push og).objs.size ≤ p.1 := q
          rw [Heap.size_push] at q'
          omega
      have ns6 : s6.heap.Ns s4.heap.objs.size (fun y => if y = ".0" then some (Value.ref it) else none) := (hn5.push og).keeps kk
      have GI0 := gen_inv (A := A1.in1.over (.compLoop (.GeneratorExp elt [⟨tg, iter, ifs, 0⟩] scope gpos) 0 (.ref it) .none ce) []) (code := code) (a := h5.objs.size) (og := og) (l := l0) (s6 := { s6 with gens := (s6.setGen s4.gens.size .running).gens }) (it := .ref it) J4 S hN f4 hA1 (by rw [hce]; exact hfr) os6 (allBare_set bare6 rfl) k7 ns6 hpin
      rw [hce] at GI0
      generalize hAG : A1.in1.over (.compLoop (.GeneratorExp elt [⟨tg, iter, ifs, 0⟩] scope gpos) 0 (.ref it) .none ce) [] = AG at GI0
      have hAd : AG.depth = A1.depth + 1 := by rw [← hAG]; rfl
      have hAu : AG.units = A1.units + 1 + 3 := by rw [← hAG]; rfl
      have hAh : AG.handled = none := by rw [← hAG]; exact hA1
      have xe : ∀ b ∈ ea.SS, s4.heap.objs.size < b := fun b hb => by
        have q := hSS _ hb
        have q' : (h5.push og).objs.size ≤ b := q
        rw [Heap.size_push] at q'
        omega
      have hal : Aloof (gcx X AG s4 H4 scope ce fp h5.objs.size og) ea.SS := by
        refine ⟨fun b hb => Nat.le_of_lt (xe b hb), fun b hb z => ?_, fun b hb y cc e z => ?_, fun b hb p hp z => ?_⟩
        · have z' : b = ce.locals := z
          rw [← hce] at z'
          exact absurd (xe b hb) (by rw [show b = s4.heap.objs.size from z']; exact Nat.lt_irrefl _)
        · obtain ⟨v, q⟩ := GI0.cell y cc e
          have e' : ce.cells.lookup y = some cc := e
          rw [← hce] at e'
          obtain ⟨v', q'⟩ := J4.cell y cc (cloFrom_val hfree e').1
          have l1 := q'.lt
          rw [z] at l1
          exact absurd (Nat.lt_trans (xe b hb) l1) (Nat.lt_irrefl _)
        · have hp' : p = (h5.objs.size, og) := by simpa using hp
          rw [hp'] at z
          have z' : h5.objs.size = b := z
          have q := hSS _ hb
          have q' : (h5.push og).objs.size ≤ b := q
          rw [Heap.size_push] at q'
          omega
      have hfS : ∀ b ∈ fp, b ∉ ea.SS := fun b hb z => absurd (Nat.lt_trans (f4 b hb).2 (xe b z)) (Nat.lt_irrefl _)
      have hfp' : ∀ b ∈ fp, ∀ p ∈ (gcx X AG s4 H4 scope ce fp h5.objs.size og).pn, p.1 ≠ b := fun b hb p hp z => by
        have hp' : p = (h5.objs.size, og) := by simpa using hp
        rw [hp'] at z
        have z' : h5.objs.size = b := z
        have l1 := (f4 b hb).2
        rw [← z'] at l1
        exact absurd (Nat.lt_of_lt_of_le l1 (show s4.heap.objs.size ≤ h5.objs.size by omega)) (Nat.lt_irrefl _)
      have pg := hg AG s4 H4 s4.heap.objs.size (cloFrom X.env.cells scope.names []) code fp h5.objs.size og
      have pt := ht AG s4 H4 s4.heap.objs.size (cloFrom X.env.cells scope.names []) code fp h5.objs.size og hAh (by omega) (by omega)
      have pe := he AG s4 H4 s4.heap.objs.size (cloFrom X.env.cells scope.names []) code fp h5.objs.size og hAh (by omega) (by omega)
      rw [hce] at pg pt pe
      have st6 : tn 0 s6.heap := T.keep _ _ _ st4 fun b hb o e => k7 b o e
      have nf6 : ∀ b ∈ fp, H4 b = none := fun b hb => (f4 b hb).1.1
      have loop := seg_loop (X := gcx X AG s4 H4 scope ce fp h5.objs.size og) (A := A1.in1) (ea := ea) (Em := Em) (Fin := Fin) (elt := elt) (tg := tg) (iter := iter) (ifs := ifs) (scope := scope) (pos := gpos) (it := it) (fp := fp) (vs := own.map (·.2)) (J := J) (σ := σ) (W := W)
        hAG hcalm rfl rfl (by rw [← hce]; exact S.co) T hal hfS hfp' pg pt pe turn m0 (m0 + 1) 0 { s6 with gens := (s6.setGen s4.gens.size .running).gens } { s6 with gens := (s6.setGen s4.gens.size .running).gens } k0 l0 H4 (Nat.lt_succ_self _) hsh hl0 GI0 st6 nf6 w0
      refine ⟨gcx X AG s4 H4 scope ce fp h5.objs.size og, og, s4.gens.size, m0 + 1, rfl, rfl, rfl, ⟨_, _, hog3.1, hog3.2.1, hog3.2.2⟩, hal, ⟨⟨og, _, _, ga6, hog3.1, hog3.2.1, hog3.2.2⟩, J4.nolimit.keeps k7, hsh, hl0, ?_⟩, fun pins' σ' H' s' I6 => ?_⟩
      · refine ⟨.fresh (.compStart (.GeneratorExp elt [⟨tg, iter, ifs, 0⟩] scope gpos) 0 (.ref it) .none ce), ?_, rfl, seg_begin (X := gcx X AG s4 H4 scope ce fp h5.objs.size og) T st6 loop⟩
        rw [hg6, ← hs4]
        simp [← hs4, ← hce]
      · exact J4.call' (ch := fp) I6.os I6.base I6.hok I6.bare fun b hb => ⟨(f4 b hb).1.2.2.2.1, (f4 b hb).1.2.1, (f4 b hb).1.2.2.2.2.1, (f4 b hb).1.2.2.2.2.2⟩
  cases hf : codeAmong gpos ps.toList with
  | none =>
    refine wpAny_genexprCodeX hcode (cd.code hPs htr) (cd.tab hPs) hf fun c' h' tk hx hge hlt hco' _ htab' _ => ?_
    obtain ⟨o1, v1, f1, tf, fl, tgg, inF, tx, tt1, op, _, _, _, _, _, _, _, _, _, htr', _⟩ := hco'
    exact cont _ h' tk _ hx (Nat.le_trans hge (Nat.le_of_lt hlt)) htab'.2 ⟨_, rfl⟩ htr'
  | some cv =>
    refine wpAny_genexprCode_hit hcode (cd.code hPs htr) hf ?_
    exact cont cv s2.heap s2.toks ps (Heap.ExtBut.refl _ _) (Nat.le_refl _) hPs ⟨#[], by simp⟩ htr
end
end MP
namespace MP
open PySem PySem.Spec PyProof.Rows L2
def eat0 : Eater Unit := ⟨[], fun _ l => l = [], fun _ _ => rfl, fun h => by subst h; rfl, fun h p hp => by subst h; cases hp⟩
section
variable {X XG : Cx} {A : Around} {R : Result → Shared → Prop} {Em : TEm Unit} {Fin : Unit → Hp → Prop} {a : Addr} {g : Nat} {og : Obj}
theorem slp0 {s : Shared} (h : AllBare s.gens) : Slp eat0.SS [] s s := ⟨rfl, h, fun _ _ _ e => e, fun p hp => by cases hp⟩
theorem all_loop (hh : A.handled = none) (hroom : A.in1.depth < recursionLimit) (hpn : XG.pn = [(a, og)]) (hog : ∃ nm qn, og.cls = .type "generator" ∧ og.data = .fields #[.int g 0, nm, qn] ∧ og.slots = #[]) (hal : Aloof XG eat0.SS)
    (hend : ∀ pins σ H s', Inv XG pins σ H s' → Fin () H → R (.ok (.ret (.bool true))) s')
    (hem : ∀ y H Nx, Em () y H Nx → ∃ b, y = V.bl b ∧ ((b = true ∧ Nx () H) ∨ (b = false ∧ ∀ pins σ s', Inv XG pins σ H s' → R (.ok (.ret (.bool false))) s'))) :
    ∀ (n : Nat) (s : Shared), GReady XG A.in1 eat0 Em Fin a g n () [] s → codeAny (model XG.prog XG.w) A (.builtin "all.loop" ⟨[.ref a], []⟩) R s := by
  intro n
  induction n using Nat.strongRecOn with
  | ind n ih =>
  intro s G
  refine codeAny_builtin F.entry_all_loop ?_
  rw [Around.under_plainId F.plain_all_loop _]
  show wpAny _ A.in1 (pyNext (.ref a) >>= _) _ _ s
  refine wpAny_bind (next_gen hh hroom hpn hog hal G (fun H ip σ s' I fin => ?_) (fun y v H ip σ Nx s' I rv em wake => ?_))
  · exact wpAny_bind (wpAny_rule (wpAny_pure (hend _ _ _ _ I fin)))
  · obtain ⟨b, rfl, hb⟩ := hem y H Nx em
    obtain rfl : v = Value.bool b := rv
    refine wpAny_bind (wpAny_holding (wpAny_truthy_bool ?_))
    refine wpAny_bind (wpAny_letGo ?_)
    rcases hb with ⟨rfl, nx⟩ | ⟨rfl, hR⟩
    · simp only [if_true]
      obtain ⟨n', hn, G'⟩ := wake s' () [] (slp0 I.bare) rfl rfl nx
      exact wpAny_pure ⟨plainId_quiet F.plain_all_loop _, ih n' hn s' G'⟩
    · simp only [Bool.false_eq_true, if_false]
      exact wpAny_bind (wpAny_rule (wpAny_pure (hR _ _ _ I)))
theorem any_loop (hh : A.handled = none) (hroom : A.in1.depth < recursionLimit) (hpn : XG.pn = [(a, og)]) (hog : ∃ nm qn, og.cls = .type "generator" ∧ og.data = .fields #[.int g 0, nm, qn] ∧ og.slots = #[]) (hal : Aloof XG eat0.SS)
    (hend : ∀ pins σ H s', Inv XG pins σ H s' → Fin () H → R (.ok (.ret (.bool false))) s')
    (hem : ∀ y H Nx, Em () y H Nx → ∃ b, y = V.bl b ∧ ((b = false ∧ Nx () H) ∨ (b = true ∧ ∀ pins σ s', Inv XG pins σ H s' → R (.ok (.ret (.bool true))) s'))) :
    ∀ (n : Nat) (s : Shared), GReady XG A.in1 eat0 Em Fin a g n () [] s → codeAny (model XG.prog XG.w) A (.builtin "any.loop" ⟨[.ref a], []⟩) R s := by
  intro n
  induction n using Nat.strongRecOn with
  | ind n ih =>
  intro s G
  refine codeAny_builtin F.entry_any_loop ?_
  rw [Around.under_plainId F.plain_any_loop _]
  show wpAny _ A.in1 (pyNext (.ref a) >>= _) _ _ s
  refine wpAny_bind (next_gen hh hroom hpn hog hal G (fun H ip σ s' I fin => ?_) (fun y v H ip σ Nx s' I rv em wake => ?_))
  · exact wpAny_bind (wpAny_rule (wpAny_pure (hend _ _ _ _ I fin)))
  · obtain ⟨b, rfl, hb⟩ := hem y H Nx em
    obtain rfl : v = Value.bool b := rv
    refine wpAny_bind (wpAny_holding (wpAny_truthy_bool ?_))
    refine wpAny_bind (wpAny_letGo ?_)
    rcases hb with ⟨rfl, nx⟩ | ⟨rfl, hR⟩
    · simp only [Bool.false_eq_true, if_false]
      obtain ⟨n', hn, G'⟩ := wake s' () [] (slp0 I.bare) rfl rfl nx
      exact wpAny_pure ⟨plainId_quiet F.plain_any_loop _, ih n' hn s' G'⟩
    · simp only [if_true]
      exact wpAny_bind (wpAny_rule (wpAny_pure (hR _ _ _ I)))
abbrev lobj (acc : Array Value) (c : Nat) : Obj := { cls := .type "list", dict := none, data := .seq acc c, slots := #[] }
def eatL (S : Addr) : Eater (List V) where
  SS := [S]
  shows := fun ys l => ∃ acc c, Vals ys acc.toList ∧ l = [(S, lobj acc c)]
  inj := fun {a b l} ⟨acc, c, r, e⟩ ⟨acc', c', r', e'⟩ => by
    rw [e] at e'
    simp only [List.cons.injEq, Prod.mk.injEq, Obj.mk.injEq, Data.seq.injEq] at e'
    have q : acc = acc' := e'.1.2.2.2.1.1
    subst q
    exact Vals.inj r r'
  ad := fun ⟨acc, c, r, e⟩ => by subst e; rfl
  nc := fun ⟨acc, c, r, e⟩ p hp v q => by
    subst e
    have hp' : p = (S, lobj acc c) := by simpa using hp
    subst hp'
    cases q
end
section
variable {XG : Cx} {A : Around} {R : Result → Shared → Prop} {Em : TEm (List V)} {Fin : List V → Hp → Prop} {a S : Addr} {g : Nat} {og : Obj}
theorem ext_loop (hh : A.handled = none) (hroom : A.in1.depth < recursionLimit) (hpn : XG.pn = [(a, og)]) (hog : ∃ nm qn, og.cls = .type "generator" ∧ og.data = .fields #[.int g 0, nm, qn] ∧ og.slots = #[]) (hal : Aloof XG (eatL S).SS) (res : Value)
    (hend : ∀ ys acc c pins σ H s', Inv XG pins σ H s' → Vals ys acc.toList → s'.heap.get? S = some (lobj acc c) → ys.length ≤ sizeLine → Fin ys H → R (.ok (.ret res)) s')
    (hem : ∀ ys y H Nx, Em ys y H Nx → ys.length < sizeLine ∧ Nx (ys ++ [y]) H) :
    ∀ (n : Nat) (s : Shared) (ys : List V) (acc : Array Value) (c : Nat), Vals ys acc.toList → ys.length ≤ sizeLine → GReady XG A.in1 (eatL S) Em Fin a g n ys [(S, lobj acc c)] s → codeAny (model XG.prog XG.w) A (.builtin "list.extend.loop" ⟨[.ref S, .ref a, res], []⟩) R s := by
  intro n
  induction n using Nat.strongRecOn with
  | ind n ih =>
  intro s ys acc c rv0 hz G
  refine codeAny_builtin F.entry_extend_loop ?_
  rw [Around.under_plainId F.plain_extend_loop _]
  show wpAny _ A.in1 (pyNext (.ref a) >>= _) _ _ s
  have inS : ∀ {pins : List (Addr × Obj)} {σ : L2.St} {H : Hp} {s' : Shared}, Inv XG ([(S, lobj acc c)] ++ pins) σ H s' → s'.heap.get? S = some (lobj acc c) := fun I =>
    (I.pin (S, lobj acc c) (List.mem_append_right _ (List.mem_append_left _ List.mem_cons_self))).1
  refine wpAny_bind (next_gen hh hroom hpn hog hal G (fun H ip σ s' I fin => ?_) (fun y v H ip σ Nx s' I rv em wake => ?_))
  · exact wpAny_pure (hend ys acc c _ _ _ _ I rv0 (inS I) hz fin)
  · obtain ⟨hlt, nx⟩ := hem ys y H Nx em
    have hS := inS I
    have hlen : acc.size = ys.length := by rw [rv0.length]; simp
    show wpAny _ A.in1 (updateSeq S (·.push v) >>= _) _ _ _
    refine wpAny_bind ?_
    have rv1 : Vals (ys ++ [y]) (acc.push v).toList := by
      rw [Array.toList_push]
      exact rv0.append (.cons rv .nil)
    obtain ⟨c', hS'⟩ : ∃ c', (s'.heap.update S (Obj.mapSeq (·.push v))).get? S = some (lobj (acc.push v) c') := ⟨_, Heap.get?_update_self _ hS rfl⟩
    refine wpAny_updateSeq hS rfl (wpAny_pure ⟨plainId_quiet F.plain_extend_loop _, ?_⟩) (by omega) (by show (acc.push v).size ≤ sizeLine + 1; rw [Array.size_push]; omega)
    have z : Slp (eatL S).SS [(S, lobj (acc.push v) c')] s' { s' with heap := s'.heap.update S (Obj.mapSeq (·.push v)) } := by
      refine ⟨rfl, I.bare, fun b o hb e => ?_, fun p hp => ?_⟩
      · exact (Heap.get?_update_other _ _ (fun z : S = b => hb (by rw [← z]; exact List.mem_cons_self))).trans e
      · have hp' : p = (S, lobj (acc.push v) c') := by simpa using hp
        rw [hp']
        exact hS'
    obtain ⟨n', hn, G'⟩ := wake _ (ys ++ [y]) _ z rfl ⟨_, _, rv1, rfl⟩ nx
    exact ih n' hn _ _ _ _ rv1 (by rw [List.length_append, List.length_singleton]; omega) G'
end
section
variable {X : Cx} {A : Around} {pins : List (Addr × Obj)} {vs : List Nat} {σ : L2.St} {J : It} {g : TG} {tt : TT} {te : TE} {H0 : Hp} {a : Addr} {s : Shared} {Q : List Value → Shared → Prop} {E : Value → Shared → Prop}
theorem collect_gen (G : GMadeX X pins vs σ J g tt te H0 a s) (hh : A.handled = none) (hfr : A.frames = X.A.frames) (hd : A.depth = X.A.depth) (hu : A.units + 1 ≤ X.A.units + 8) (hroom : A.depth < recursionLimit)
    {Em : TEm (List V)} {Fin : List V → Hp → Prop} (hem : ∀ ys y H Nx, Em ys y H Nx → ys.length < sizeLine ∧ Nx (ys ++ [y]) H) (hl : GLoop J g tt te vs σ Em Fin [] H0)
    (hQ : ∀ ys acc H s', Inv X pins σ H s' → Vals ys acc → ys.length ≤ sizeLine → Fin ys H → Q acc s') : wpAny (model X.prog X.w) A (collect (.ref a)) Q E s := by
  obtain ⟨gi, hg⟩ := G.gen
  have hla := G.lt
  have hSa : s.heap.objs.size ≠ a := Nat.ne_of_gt hla
  unfold collect
  refine wpAny_bind (wpAny_runValue (codeAny_builtin F.entry_proto_collect ?_))
  rw [Around.under_plainId F.plain_proto_collect _]
  show wpAny _ A.in1 (newList [] >>= fun l => again (.builtin "list.__iadd__" ⟨[l, .ref a], []⟩)) _ _ s
  refine wpAny_bind (wpAny_newObj_type ?_)
  refine wpAny_pure ⟨plainId_quiet F.plain_list_iadd _, codeAny_builtin F.entry_list_iadd ?_⟩
  rw [Around.under_plainId F.plain_list_iadd _]
  show wpAny _ A.in1 (Builtin.List.listExtendWith (.ref s.heap.objs.size) (.ref a) (.ref s.heap.objs.size)) _ _ _
  unfold Builtin.List.listExtendWith
  have up : ∀ (h : Heap) (f : Obj → Obj), (∀ b o, s.heap.get? b = some o → h.get? b = some o) → ∀ b o, s.heap.get? b = some o → (h.update s.heap.objs.size f).get? b = some o := fun h f q b o e =>
    (Heap.get?_update_other _ _ (Ne.symm (Nat.ne_of_lt (Heap.lt_size e)))).trans (q b o e)
  have k1 : ∀ b o, s.heap.get? b = some o → (s.heap.push { cls := .type "list", data := .seq ([] : List Value).toArray }).get? b = some o := fun b o e => Heap.get?_push_of_some _ e
  have gty : ∀ {h : Heap}, (∀ b o, s.heap.get? b = some o → h.get? b = some o) → h.IsGen a gi := fun {h} q => hg.keeps q
  refine wpAny_bind (wpAny_typeOf (Heap.IsGen.typeIs (s := { s with heap := _ }) (gty k1)) ?_)
  have h1 : Builtin.List.listSameRef (.ref s.heap.objs.size) (.ref a) = false := by simp [Builtin.List.listSameRef, hSa]
  have h2 : (Value.type "generator" == Value.type "list") = false := by decide
  have h3 : (Value.type "generator" == Value.type "tuple") = false := by decide
  simp only [h1, h2, h3, Bool.or_false, Bool.false_eq_true, if_false]
  refine wpAny_bind (wpAny_pyIter_gen (s := { s with heap := _ }) (gty k1) ?_)
  refine wpAny_bind (wpAny_holding ?_)
  unfold Builtin.List.listLengthHint
  refine wpAny_bind (wpAny_specialOf (Heap.IsGen.typeIs (s := { s with heap := _ }) (gty k1)) F.gen_no_len ?_)
  show wpAny _ A.in1 (specialOf (Value.ref a) (Str.ofString "__length_hint__") >>= _) _ _ _
  refine wpAny_bind (wpAny_specialOf (Heap.IsGen.typeIs (s := { s with heap := _ }) (gty k1)) F.gen_no_hint ?_)
  refine wpAny_pure ?_
  show wpAny _ A.in1 (rule "list.extend.makes-room" >>= fun _ => Builtin.List.listTouch (.ref s.heap.objs.size) >>= fun _ =>
    again (.builtin "list.extend.loop" ⟨[.ref s.heap.objs.size, .ref a, .ref s.heap.objs.size], []⟩)) _ _ _
  refine wpAny_bind (wpAny_rule ?_)
  have hS1 : (s.heap.push { cls := .type "list", data := .seq ([] : List Value).toArray }).get? s.heap.objs.size = some { cls := .type "list", data := .seq ([] : List Value).toArray } := Heap.get?_push_size _ rfl
  refine wpAny_bind ?_
  show wpAny _ A.in1 (updateSeq s.heap.objs.size (·.push .none) >>= fun _ => updateSeq s.heap.objs.size (·.pop)) _ _ _
  refine wpAny_bind (wpAny_updateSeq hS1 rfl ?_)
  have hS2 := Heap.get?_update_self (Obj.mapSeq (·.push Value.none)) hS1 rfl
  refine wpAny_updateSeq (hz := by seq_fits) hS2 rfl ?_
  have k3 := up _ (Obj.mapSeq (·.pop)) (up _ (Obj.mapSeq (·.push Value.none)) k1)
  obtain ⟨c', hS3⟩ : ∃ c', (((s.heap.push { cls := .type "list", data := .seq ([] : List Value).toArray }).update s.heap.objs.size (Obj.mapSeq (·.push Value.none))).update s.heap.objs.size (Obj.mapSeq (·.pop))).get? s.heap.objs.size = some (lobj #[] c') :=
    ⟨_, Heap.get?_update_self (Obj.mapSeq (·.pop)) hS2 rfl⟩
  refine wpAny_pure ⟨plainId_quiet F.plain_extend_loop _, ?_⟩
  obtain ⟨XG, og, gj, n, eP, eW, hpn, hog, hal, GR, back⟩ := G.ready (eatL s.heap.objs.size) Em Fin [] [(s.heap.objs.size, lobj #[] c')]
    { s with heap := ((s.heap.push { cls := .type "list", data := .seq ([] : List Value).toArray }).update s.heap.objs.size (Obj.mapSeq (·.push Value.none))).update s.heap.objs.size (Obj.mapSeq (·.pop)) } A.in1 hh hfr hd hu k3 rfl rfl
    (fun b hb => by have e : b = s.heap.objs.size := List.mem_singleton.mp hb; exact Nat.le_of_eq e.symm) ⟨#[], c', .nil, rfl⟩ (fun p hp => by have e : p = (s.heap.objs.size, lobj #[] c') := List.mem_singleton.mp hp; rw [e]; exact hS3) hl
  rw [← eP, ← eW]
  refine ext_loop (XG := XG) (Em := Em) (Fin := Fin) hh hroom hpn hog hal (.ref s.heap.objs.size) (fun ys acc c pins' σ' H s' I rv hS hz fin => ?_) hem n _ [] #[] c' .nil (Nat.zero_le _) GR
  show wpAny _ A (load s.heap.objs.size >>= _) _ _ s'
  refine wpAny_bind (wpAny_load hS ?_)
  exact wpAny_pure (hQ ys acc.toList H s' (back _ _ _ _ I) rv hz fin)
end
end MP
namespace MP
open PySem PySem.Spec PyProof.Rows L2
section
variable {X : Cx} {A : Around} {pins : List (Addr × Obj)} {vs : List Nat} {σ : L2.St} {J : It} {g : TG} {tt : TT} {te : TE} {H0 : Hp} {a : Addr} {s : Shared} {E : Value → Shared → Prop}
theorem gm_type (G : GMadeX X pins vs σ J g tt te H0 a s) : s.TypeIs (.ref a) "generator" := by
  obtain ⟨gi, hg⟩ := G.gen
  exact hg.typeIs
theorem gm_iter {A' : Around} {Q : Value → Shared → Prop} (G : GMadeX X pins vs σ J g tt te H0 a s) (h : Q (.ref a) s) : wpAny (model X.prog X.w) A' (pyIter (.ref a)) Q E s := by
  obtain ⟨gi, hg⟩ := G.gen
  exact wpAny_pyIter_gen hg h
theorem new_tuple_gen {Q₁ : Value → Shared → Prop} (G : GMadeX X pins vs σ J g tt te H0 a s) (hh : A.handled = none) (hfr : A.frames = X.A.frames) (hd : A.depth = X.A.depth) (hu : A.units + 2 ≤ X.A.units + 8) (hroom : A.depth < recursionLimit)
    {Em : TEm (List V)} {Fin : List V → Hp → Prop} (hem : ∀ ys y H Nx, Em ys y H Nx → ys.length < sizeLine ∧ Nx (ys ++ [y]) H) (hl : GLoop J g tt te vs σ Em Fin [] H0)
    (h : ∀ ys acc H s', Inv X pins σ H s' → Vals ys acc → ys.length ≤ sizeLine → Fin ys H → Q₁ (.ref s'.heap.objs.size) { s' with heap := s'.heap.push { cls := .type "tuple", data := .seq acc.toArray } }) :
    codeAny (model X.prog X.w) A (.call (.builtin "tuple.__new__") ⟨[.type "tuple", .ref a], []⟩) (wants Q₁ E) s := by
  refine codeAny_of_tree ?_
  show wpAny _ A.in1 (do checkBuiltinCall "tuple.__new__" ⟨[.type "tuple", .ref a], []⟩; again (.builtin "tuple.__new__" ⟨[.type "tuple", .ref a], []⟩)) _ _ s
  refine wpAny_bind (wpAny_of_eq (F.newCall_tuple_1 _) (wpAny_pure ⟨plainId_quiet F.plain_tuple_new _, codeAny_builtin F.entry_tuple_new ?_⟩))
  rw [Around.under_plainId F.plain_tuple_new _]
  have hsub := sub_tuple_self
  have hinit := init_tuple_lookup
  have hmh := madeHere_tuple
  have hTI := gm_type G
  wp_walk using wpAny_typeOf hTI, collect_gen (A := A.in1) G hh hfr hd hu hroom hem hl
  intro ys acc H s' I rv hz fin
  show wpAny _ _ (Builtin.Tuple.tupleExact acc.toArray >>= fun v => ret v) _ _ _
  unfold Builtin.Tuple.tupleExact
  refine wpAny_bind (wpAny_newObj_type ?_ (by show acc.toArray.size ≤ sizeLine; rw [List.size_toArray, ← rv.length]; exact hz))
  exact wpAny_pure (h ys acc H s' I rv hz fin)
theorem tuple_gen {Q : Value → Shared → Prop} (G : GMadeX X pins vs σ J g tt te H0 a s) (hh : A.handled = none) (hfr : A.frames = X.A.frames) (hd : A.depth = X.A.depth) (hu : A.units + 3 ≤ X.A.units + 8) (hroom : A.depth < recursionLimit)
    {Em : TEm (List V)} {Fin : List V → Hp → Prop} (hem : ∀ ys y H Nx, Em ys y H Nx → ys.length < sizeLine ∧ Nx (ys ++ [y]) H) (hl : GLoop J g tt te vs σ Em Fin [] H0)
    (h : ∀ ys acc H s', Inv X pins σ H s' → Vals ys acc → ys.length ≤ sizeLine → Fin ys H → Q (.ref s'.heap.objs.size) { s' with heap := s'.heap.push { cls := .type "tuple", data := .seq acc.toArray } }) :
    wpAny (model X.prog X.w) A (call (.type "tuple") [.ref a]) Q E s := by
  refine callType_codes (Q₁ := fun obj s₁ => s₁.TypeIs obj "tuple" ∧ Q obj s₁) F.called_tuple (F.typeCall_tuple_1 _) F.entry_object_init
    (new_tuple_gen (A := A.in1) G hh hfr hd (by show A.units + 1 + 2 ≤ _; omega) hroom hem hl fun ys acc H s' I rv hz fin => ⟨⟨_, Heap.get?_push_size _ rfl, rfl⟩, h ys acc H s' I rv hz fin⟩) fun obj s₁ h₁ => ?_
  exact ⟨h₁.1, F.args_object_init_2 obj _, object_init_meets F.called_tuple.init.lookup F.called_tuple.made (by decide) X.prog X.w A.in1 _ s₁ ⟨h₁.1, rfl, h₁.2⟩⟩
end
def tGen {κ : Type} (P : Addr) (wi : TI) (g : TG) (tt : TT) (te : TE) (vs : List Nat) (Em : TEm κ) (Fin : κ → Hp → Prop) (k0 : κ) (σ : L2.St) (H : Hp) : Prop :=
  wi σ H fun J H1 => GxR.TabG H1 P ∧ ∀ H2, GxR.Tabbed P H1 H2 → GLoop J g tt te vs σ Em Fin k0 H2
def tGTup (P : Addr) (wi : TI) (g : TG) (tt : TT) (te : TE) (vs : List Nat) : TE := fun σ H Q =>
  tGen P wi g tt te vs (fun ys y H Nx => ys.length < sizeLine ∧ Nx (ys ++ [y]) H) (fun ys H => ∀ p, H p = none → Q (.ref p) (upd H p (.tup ys))) [] σ H
def tGAll (P : Addr) (wi : TI) (g : TG) (tt : TT) (te : TE) (vs : List Nat) : TE := fun σ H Q =>
  tGen P wi g tt te vs (fun _ y H Nx => ∃ b, y = V.bl b ∧ ((b = true ∧ Nx () H) ∨ (b = false ∧ Q (.bl false) H))) (fun _ H => Q (.bl true) H) () σ H
def tGAny (P : Addr) (wi : TI) (g : TG) (tt : TT) (te : TE) (vs : List Nat) : TE := fun σ H Q =>
  tGen P wi g tt te vs (fun _ y H Nx => ∃ b, y = V.bl b ∧ ((b = false ∧ Nx () H) ∨ (b = true ∧ Q (.bl true) H))) (fun _ H => Q (.bl false) H) () σ H
structure GenAsk (X : Cx) (c P : Addr) (elt tg iter : Expr) (ifs : List Expr) (scope : Scope) (own : List (Str × Nat)) (wi : TI) (g : TG) (tt : TT) (te : TE) : Prop where
  calm : X.calm = true
  room : X.A.depth + 1 < recursionLimit
  tb : GxR.TabB X.base X.mg c P
  code : X.env.code = .ref c
  sc : GenSc X.N X.env.scope scope own
  nd : X.N.Nodup
  pi : PI X tg iter wi
  pg : ∀ (A : Around) (s : Shared) (H : Hp) (C : Addr) (cl : List (Str × Addr)) (code : Value) (fp : List Addr) (a : Addr) (og : Obj), PG (gcx X A s H scope (genEnv scope cl C code builtinsNs X.env) fp a og) tg g
  pt : ∀ (A : Around) (s : Shared) (H : Hp) (C : Addr) (cl : List (Str × Addr)) (code : Value) (fp : List Addr) (a : Addr) (og : Obj), A.handled = none → A.depth ≤ X.A.depth + 1 → A.units ≤ X.A.units + 12 → PTs (gcx X A s H scope (genEnv scope cl C code builtinsNs X.env) fp a og) ifs tt
  pe : ∀ (A : Around) (s : Shared) (H : Hp) (C : Addr) (cl : List (Str × Addr)) (code : Value) (fp : List Addr) (a : Addr) (og : Obj), A.handled = none → A.depth ≤ X.A.depth + 1 → A.units ≤ X.A.units + 12 → PE (gcx X A s H scope (genEnv scope cl C code builtinsNs X.env) fp a og) elt te
  fold : ∀ v, genFold iter X.env v = pure v
section
variable {X : Cx} {c P : Addr} {elt tg iter : Expr} {ifs : List Expr} {scope : Scope} {own : List (Str × Nat)} {wi : TI} {g : TG} {tt : TT} {te : TE} {p pos gpos : Pos}
theorem pe_gtup (K : GenAsk X c P elt tg iter ifs scope own wi g tt te) (hg : Gl X "tuple") (hm : X.mg "tuple" = none) (hv : bootBuiltins "tuple" = some (.type "tuple") := by decide +kernel)
    (he : starEach [.GeneratorExp elt [⟨tg, iter, ifs, 0⟩] scope gpos] X.env = (false, eval (.GeneratorExp elt [⟨tg, iter, ifs, 0⟩] scope gpos) X.env) :: starEach [] X.env := by rfl) :
    PE X (.Call (.Name "tuple" p) [.GeneratorExp elt [⟨tg, iter, ifs, 0⟩] scope gpos] [] pos) (tGTup P wi g tt te (own.map (·.2))) := by
  refine ⟨fun pins s σ H Q I h => ?_⟩
  refine wpAny_Call_Name_kw (ld_blt I hg hm hv ?_)
  refine PyProof.Rows.callWith_type1 ?_ he (by rfl)
  rw [he]
  show wpAny _ _ (spliced ((false, eval (.GeneratorExp elt [⟨tg, iter, ifs, 0⟩] scope gpos) X.env) :: backTo pos (starEach [] X.env))) _ _ s
  refine Calls.spliced_cons (gen_make K.calm K.room K.tb K.code K.sc K.nd K.pi K.pg K.pt K.pe K.fold I h fun J H2 a s5 hR G => ?_)
  refine Calls.spliced_nil ?_
  obtain ⟨s4, I4, _⟩ := G.os
  refine tuple_gen (A := X.A) G (I4.ok.hd K.calm) rfl rfl (by omega) (Nat.lt_of_succ_lt K.room) (fun ys y H Nx h => h) hR fun ys acc H3 s' I' rv hz fin => ?_
  have hf : H3 s'.heap.objs.size = none := I'.hok.fresh (Nat.le_refl _)
  refine ⟨.ref s'.heap.objs.size, upd H3 s'.heap.objs.size (.tup ys), I'.laid (t' := s'.toks) (fun b u e => Heap.get?_push_of_some _ e) (Nat.le_refl _) ?_, rfl, fin _ hf⟩
  exact ⟨hz, acc, rv, ⟨_, Heap.get?_push_size _ rfl, rfl, _, rfl⟩⟩
theorem pe_gall (K : GenAsk X c P elt tg iter ifs scope own wi g tt te) (hg : Gl X "all") (hm : X.mg "all" = none) (hv : bootBuiltins "all" = some (.builtin "all") := by decide +kernel)
    (he : starEach [.GeneratorExp elt [⟨tg, iter, ifs, 0⟩] scope gpos] X.env = (false, eval (.GeneratorExp elt [⟨tg, iter, ifs, 0⟩] scope gpos) X.env) :: starEach [] X.env := by rfl) :
    PE X (.Call (.Name "all" p) [.GeneratorExp elt [⟨tg, iter, ifs, 0⟩] scope gpos] [] pos) (tGAll P wi g tt te (own.map (·.2))) := by
  refine ⟨fun pins s σ H Q I h => ?_⟩
  refine wpAny_Call_Name_kw (ld_blt I hg hm hv ?_)
  refine PyProof.Rows.callWith_builtin1 ?_ he (by rfl)
  rw [he]
  show wpAny _ _ (spliced ((false, eval (.GeneratorExp elt [⟨tg, iter, ifs, 0⟩] scope gpos) X.env) :: backTo pos (starEach [] X.env))) _ _ s
  refine Calls.spliced_cons (gen_make K.calm K.room K.tb K.code K.sc K.nd K.pi K.pg K.pt K.pe K.fold I h fun J H2 a s5 hR G => ?_)
  refine Calls.spliced_nil ?_
  obtain ⟨s4, I4, _⟩ := G.os
  have hh : X.A.handled = none := I4.ok.hd K.calm
  refine call_function_tree F.kind_all F.plain_all F.entry_all (F.args_all1 _) ?_
  unfold Builtin.«all»
  refine wpAny_bind (m := oneArg "all" _) (wpAny_pure ?_)
  refine wpAny_bind (gm_iter G ?_)
  obtain ⟨XG, og, gi, n, eP, eW, hpn, hog, hal, GR, back⟩ := G.ready eat0 _ _ () [] s5 X.A.in1 hh rfl rfl (by show X.A.units + 1 ≤ _; omega) (fun _ _ e => e) rfl rfl (fun b hb => by cases hb) rfl (fun p hp => by cases hp) hR
  rw [← eP, ← eW]
  refine wpAny_pure ⟨plainId_quiet F.plain_all_loop _, all_loop (A := X.A) hh (Nat.lt_of_succ_lt K.room) hpn hog hal (fun pins' σ' H' s' I' fin => ?_) (fun y H' Nx em => ?_) n s5 GR⟩
  · exact ⟨.bl true, H', back _ _ _ _ I', rfl, fin⟩
  · obtain ⟨b, e, h1 | ⟨h1, h2⟩⟩ := em
    · exact ⟨b, e, .inl h1⟩
    · exact ⟨b, e, .inr ⟨h1, fun pins' σ' s' I' => ⟨.bl false, H', back _ _ _ _ I', rfl, h2⟩⟩⟩
theorem pe_gany (K : GenAsk X c P elt tg iter ifs scope own wi g tt te) (hg : Gl X "any") (hm : X.mg "any" = none) (hv : bootBuiltins "any" = some (.builtin "any") := by decide +kernel)
    (he : starEach [.GeneratorExp elt [⟨tg, iter, ifs, 0⟩] scope gpos] X.env = (false, eval (.GeneratorExp elt [⟨tg, iter, ifs, 0⟩] scope gpos) X.env) :: starEach [] X.env := by rfl) :
    PE X (.Call (.Name "any" p) [.GeneratorExp elt [⟨tg, iter, ifs, 0⟩] scope gpos] [] pos) (tGAny P wi g tt te (own.map (·.2))) := by
  refine ⟨fun pins s σ H Q I h => ?_⟩
  refine wpAny_Call_Name_kw (ld_blt I hg hm hv ?_)
  refine PyProof.Rows.callWith_builtin1 ?_ he (by rfl)
  rw [he]
  show wpAny _ _ (spliced ((false, eval (.GeneratorExp elt [⟨tg, iter, ifs, 0⟩] scope gpos) X.env) :: backTo pos (starEach [] X.env))) _ _ s
  refine Calls.spliced_cons (gen_make K.calm K.room K.tb K.code K.sc K.nd K.pi K.pg K.pt K.pe K.fold I h fun J H2 a s5 hR G => ?_)
  refine Calls.spliced_nil ?_
  obtain ⟨s4, I4, _⟩ := G.os
  have hh : X.A.handled = none := I4.ok.hd K.calm
  refine call_function_tree F.kind_any F.plain_any F.entry_any (F.args_any1 _) ?_
  unfold Builtin.«any»
  refine wpAny_bind (m := oneArg "any" _) (wpAny_pure ?_)
  refine wpAny_bind (gm_iter G ?_)
  obtain ⟨XG, og, gi, n, eP, eW, hpn, hog, hal, GR, back⟩ := G.ready eat0 _ _ () [] s5 X.A.in1 hh rfl rfl (by show X.A.units + 1 ≤ _; omega) (fun _ _ e => e) rfl rfl (fun b hb => by cases hb) rfl (fun p hp => by cases hp) hR
  rw [← eP, ← eW]
  refine wpAny_pure ⟨plainId_quiet F.plain_any_loop _, any_loop (A := X.A) hh (Nat.lt_of_succ_lt K.room) hpn hog hal (fun pins' σ' H' s' I' fin => ?_) (fun y H' Nx em => ?_) n s5 GR⟩
  · exact ⟨.bl false, H', back _ _ _ _ I', rfl, fin⟩
  · obtain ⟨b, e, h1 | ⟨h1, h2⟩⟩ := em
    · exact ⟨b, e, .inl h1⟩
    · exact ⟨b, e, .inr ⟨h1, fun pins' σ' s' I' => ⟨.bl true, H', back _ _ _ _ I', rfl, h2⟩⟩⟩
end
end MP
namespace MP
open PySem (Str)
inductive D where
  | non | bl (b : Bool) | int (i : Int) | str (x : Str) | tup (ds : List D) | ref (n : Nat)
  deriving Inhabited
mutual
def D.eqv : D → D → Bool
  | .non, .non => true
  | .bl a, .bl b => a == b
  | .bl a, .int j => (if a then 1 else 0) == j
  | .int i, .bl b => i == (if b then 1 else 0)
  | .int i, .int j => i == j
  | .str x, .str y => x == y
  | .tup xs, .tup ys => D.eqvs xs ys
  | _, _ => false
termination_by structural x => x
def D.eqvs : List D → List D → Bool
  | [], [] => true
  | x :: xs, y :: ys => D.eqv x y && D.eqvs xs ys
  | _, _ => false
termination_by structural x => x
end
mutual
def D.flat : Nat → D → Bool
  | _, .ref _ => false
  | 0, .tup _ => false
  | n + 1, .tup ds => D.flats n ds
  | _, _ => true
def D.flats : Nat → List D → Bool
  | _, [] => true
  | n, d :: r => D.flat n d && D.flats n r
end
def deep : Nat := 300
inductive HB where
  | lst (ds : List D) | rol (ds : List D) | dic (kvs : List (D × D)) | set (ds : List D) | ins (C : Nat) (fs : List (Str × D))
  deriving Inhabited
abbrev HI := List HB
abbrev St := List (Option D)
abbrev Rz := Option (D × HI)
def big : Nat := 16777216
def hnew (h : HI) (o : HB) : Rz := some (.ref h.length, h ++ [o])
def lstOf (h : HI) : D → Option (List D)
  | .ref n => match h[n]? with
    | some (.lst ds) => some ds
    | some (.rol ds) => some ds
    | _ => none
  | _ => none
def seqOf (h : HI) : D → Option (List D)
  | .tup ds => some ds
  | d => lstOf h d
def D.key : D → Bool
  | .int _ => true
  | .str _ => true
  | _ => false
def kFind (kvs : List (D × D)) (k : D) : Option D := (kvs.find? fun p => D.eqv p.1 k).map (·.2)
def kPut (kvs : List (D × D)) (k v : D) : List (D × D) :=
  if (kvs.any fun p => D.eqv p.1 k) = true then kvs.map (fun p => if D.eqv p.1 k = true then (p.1, v) else p) else kvs ++ [(k, v)]
inductive BOp | add | sub | mul | mod | fdv | pow
  deriving DecidableEq
inductive COp | eq | ne | lt | le | gt | ge | isN | notN | inn | nin
  deriving DecidableEq
def small64 (i : Int) : Bool := decide (-(2 ^ 64) < i) && decide (i < 2 ^ 64)
def intOp : BOp → Int → Int → Option Int
  | .add, i, j => some (i + j)
  | .sub, i, j => some (i - j)
  | .mul, i, j => if small64 i || small64 j then some (i * j) else none
  | .mod, i, j => if j = 0 then none else some (i.fmod j)
  | .fdv, i, j => if j ≠ 0 ∧ j.natAbs < 1073741824 then some (i.fdiv j) else none
  | .pow, i, j => if 0 ≤ j ∧ j ≤ 1000000 ∧ i.natAbs < 2 ^ 64 then some (i ^ j.toNat) else none
def binD (op : BOp) (x y : D) (h : HI) : Rz :=
  match x, y with
  | .int i, .int j => (intOp op i j).map fun k => (.int k, h)
  | .str a, .str b => if op = .add ∧ a.cps.size + b.cps.size ≤ big then some (.str ⟨a.cps ++ b.cps⟩, h) else none
  | .tup a, .tup b => if op = .add ∧ a.length + b.length ≤ big then some (.tup (a ++ b), h) else none
  | .ref m, .ref n => match h[m]?, h[n]? with
    | some (.lst a), some (.lst b) => if op = .add ∧ a.length + b.length ≤ big then hnew h (.lst (a ++ b)) else none
    | _, _ => none
  | _, _ => none
def isNon : D → Bool
  | .non => true
  | _ => false
def anyEq (x : D) (ds : List D) : Bool := ds.any fun y => D.eqv y x
def inD (x y : D) (h : HI) : Option Bool :=
  match y with
  | .tup ds => if D.flat deep x && D.flats deep ds then some (anyEq x ds) else none
  | .ref n => match h[n]? with
    | some (.lst ds) => if D.flat deep x && D.flats deep ds then some (anyEq x ds) else none
    | some (.rol ds) => if D.flat deep x && D.flats deep ds then some (anyEq x ds) else none
    | some (.dic kvs) => if x.key then some (kFind kvs x).isSome else none
    | _ => none
  | _ => none
def cmpB (op : COp) (x y : D) (h : HI) : Option Bool :=
  match op with
  | .eq => if D.flat deep x && D.flat deep y then some (D.eqv x y) else none
  | .ne => if D.flat deep x && D.flat deep y then some (!D.eqv x y) else none
  | .lt => match x, y with | .int i, .int j => some (decide (i < j)) | _, _ => none
  | .le => match x, y with | .int i, .int j => some (decide (i ≤ j)) | _, _ => none
  | .gt => match x, y with | .int i, .int j => some (decide (j < i)) | _, _ => none
  | .ge => match x, y with | .int i, .int j => some (decide (j ≤ i)) | _, _ => none
  | .isN => if isNon y then some (isNon x) else none
  | .notN => if isNon y then some (!isNon x) else none
  | .inn => inD x y h
  | .nin => (inD x y h).map (!·)
def truth (d : D) (h : HI) : Option Bool :=
  match d with
  | .non => some false
  | .bl b => some b
  | .int i => some (i != 0)
  | .str x => if x.cps.size ≤ big then some (x.cps.size != 0) else none
  | .tup ds => some (!ds.isEmpty)
  | .ref n => match h[n]? with
    | some (.lst ds) => some (!ds.isEmpty)
    | some (.rol ds) => some (!ds.isEmpty)
    | some (.dic kvs) => some (!kvs.isEmpty)
    | _ => none
def ixAt (n : Nat) (i : Int) : Option Nat := if 0 ≤ i then (if i < n then some i.toNat else none) else if -(n : Int) ≤ i then some (i + n).toNat else none
def atD (ds : List D) (i : Int) : Option D := (ixAt ds.length i).bind fun j => ds[j]?
def idxD (x i : D) (h : HI) : Rz :=
  match x, i with
  | .tup ds, .int k => (atD ds k).map fun d => (d, h)
  | .str z, .int k => if z.cps.size ≤ big then ((ixAt z.cps.size k).bind fun j => z.cps[j]?).map fun c => (.str ⟨#[c]⟩, h) else none
  | .ref n, i => match h[n]?, i with
    | some (.lst ds), .int k => (atD ds k).map fun d => (d, h)
    | some (.rol ds), .int k => (atD ds k).map fun d => (d, h)
    | some (.dic kvs), i => if i.key then (kFind kvs i).map fun d => (d, h) else none
    | _, _ => none
  | _, _ => none
def clip (n d : Nat) : Option Int → Nat
  | none => d
  | some i => if 0 ≤ i then min i.toNat n else (i + n).toNat
def cut {α : Type} (xs : List α) (lo hi : Option Int) : List α := (xs.drop (clip xs.length 0 lo)).take (clip xs.length xs.length hi - clip xs.length 0 lo)
def slcD (x : D) (lo hi : Option Int) (h : HI) : Rz :=
  match x with
  | .tup ds => some (.tup (cut ds lo hi), h)
  | .str z => if z.cps.size ≤ big then some (.str ⟨(cut z.cps.toList lo hi).toArray⟩, h) else none
  | .ref n => match h[n]? with
    | some (.lst ds) => hnew h (.lst (cut ds lo hi))
    | some (.rol ds) => hnew h (.lst (cut ds lo hi))
    | _ => none
  | _ => none
def setIx (x i v : D) (h : HI) : Option HI :=
  match x, i with
  | .ref n, i => match h[n]?, i with
    | some (.lst ds), .int k => (ixAt ds.length k).map fun j => h.set n (.lst (ds.set j v))
    | some (.dic kvs), i => if i.key && decide (kvs.length < big) then some (h.set n (.dic (kPut kvs i v))) else none
    | _, _ => none
  | _, _ => none
inductive Ty | int | bool | str | tup | lst | dic
  deriving DecidableEq
inductive Blt | len | int | str | list | tuple | isi (t : Ty)
  deriving DecidableEq
inductive Mth | append | extend | pop | get
  deriving DecidableEq
def hasTy (t : Ty) (d : D) (h : HI) : Option Bool :=
  match d with
  | .non => some false
  | .bl _ => some (t = .bool || t = .int)
  | .int _ => some (t = .int)
  | .str _ => some (t = .str)
  | .tup _ => some (t = .tup)
  | .ref n => match h[n]? with
    | some (.lst _) => some (t = .lst)
    | some (.rol _) => some (t = .lst)
    | some (.dic _) => some (t = .dic)
    | _ => none
def signs (z : Str) : List D := z.cps.toList.map fun c => .str ⟨#[c]⟩
def bltD (b : Blt) (args : List D) (h : HI) : Rz :=
  match b, args with
  | .len, [.str z] => if z.cps.size ≤ big then some (.int z.cps.size, h) else none
  | .len, [.tup ds] => some (.int ds.length, h)
  | .len, [.ref n] => match h[n]? with
    | some (.lst ds) => some (.int ds.length, h)
    | some (.rol ds) => some (.int ds.length, h)
    | some (.dic kvs) => some (.int kvs.length, h)
    | _ => none
  | .int, [.int i] => some (.int i, h)
  | .int, [.bl b] => some (.int (if b then 1 else 0), h)
  | .str, [.int i] => if i.natAbs.log2 < 1920 then some (.str (Str.ofString (toString i)), h) else none
  | .list, [.str z] => if z.cps.size ≤ big then hnew h (.lst (signs z)) else none
  | .list, [.tup ds] => hnew h (.lst ds)
  | .list, [.ref n] => match h[n]? with
    | some (.lst ds) => hnew h (.lst ds)
    | some (.rol ds) => hnew h (.lst ds)
    | _ => none
  | .tuple, [.tup ds] => some (.tup ds, h)
  | .tuple, [.ref n] => match h[n]? with
    | some (.lst ds) => some (.tup ds, h)
    | some (.rol ds) => some (.tup ds, h)
    | _ => none
  | .isi t, [d] => (hasTy t d h).map fun b => (.bl b, h)
  | _, _ => none
def mthD (m : Mth) (o : D) (args : List D) (h : HI) : Rz :=
  match m, o, args with
  | .append, .ref n, [d] => match h[n]? with
    | some (.lst ds) => if ds.length < big then some (.non, h.set n (.lst (ds ++ [d]))) else none
    | _ => none
  | .extend, .ref n, [.ref m] => match h[n]?, h[m]? with
    | some (.lst ds), some (.lst es) => if ds.length + es.length ≤ big then some (.non, h.set n (.lst (ds ++ es))) else none
    | _, _ => none
  | .pop, .ref n, [] => match h[n]? with
    | some (.lst ds) => match ds.getLast? with
      | some d => some (d, h.set n (.lst ds.dropLast))
      | none => none
    | _ => none
  | .get, .ref n, [k] => match h[n]? with
    | some (.dic kvs) => if k.key then some ((kFind kvs k).getD .non, h) else none
    | _ => none
  | .get, .ref n, [k, d] => match h[n]? with
    | some (.dic kvs) => if k.key then some ((kFind kvs k).getD d, h) else none
    | _ => none
  | _, _, _ => none
def recv (m : Mth) (d : D) (h : HI) : Bool :=
  match m, d with
  | .get, .ref n => match h[n]? with
    | some (.dic _) => true
    | _ => false
  | .append, .ref n => match h[n]? with
    | some (.lst _) => true
    | _ => false
  | .extend, .ref n => match h[n]? with
    | some (.lst _) => true
    | _ => false
  | .pop, .ref n => match h[n]? with
    | some (.lst _) => true
    | _ => false
  | _, _ => false
inductive CK | lst | gtup | gall | gany | gsum | dct
  deriving DecidableEq
mutual
inductive ME where
  | var (i : Nat) | cst (d : D) | glb (d : D)
  | tup (es : MEs) | lst (es : MEs) | dnew
  | bin (op : BOp) (a b : ME) | neg (a : ME)
  | cmp (op : COp) (a b : ME)
  | and (a b : ME) | or (a b : ME) | not (a : ME) | ife (c a b : ME)
  | idx (a i : ME) | slc (a lo hi : ME) | omit
  | call (f : Nat) (es : MEs) | blt (b : Blt) (es : MEs) | isi (t : Ty) (a : ME) | mth (m : Mth) (o : ME) (es : MEs)
  | comp (k : CK) (own : List Nat) (c : Cl)
inductive MEs where
  | nil | cons (e : ME) (es : MEs)
inductive MI where
  | ex (e : ME) | rng (es : MEs) | zip (a b : ME) | enm (a : ME)
inductive Tg where
  | nm (i : Nat) | tp (ts : Tgs)
inductive Tgs where
  | nil | cons (t : Tg) (ts : Tgs)
inductive Cl where
  | one (t : Tg) (i : MI) (c e v : ME)
  | more (t : Tg) (i : MI) (c : ME) (own : List Nat) (r : Cl)
end
mutual
inductive MS where
  | asg (t : Tg) (e : ME) | par (i j : Nat) (a b : ME) | sub (o i e : ME)
  | expr (e : ME) | ret (e : ME) | retN
  | ite (c : ME) (a b : MSs)
  | fr (t : Tg) (i : MI) (b : MSs) | whl (c : ME) (b : MSs)
  | brk | cont | pass
  | aug (i : Nat) (op : BOp) (e : ME)
inductive MSs where
  | nil | cons (s : MS) (r : MSs)
end
inductive It where
  | seq (ds : List D) | live (n len : Nat) | zip (a b : It) | enm (a : It)
def It.len : It → Nat
  | .seq ds => ds.length
  | .live _ k => k
  | .zip a b => min a.len b.len
  | .enm a => a.len
def It.nx : It → Nat → HI → Option D
  | .seq ds, i, _ => ds[i]?
  | .live n _, i, h => (lstOf h (.ref n)).bind fun ds => ds[i]?
  | .zip a b, i, h => match a.nx i h, b.nx i h with
    | some x, some y => some (.tup [x, y])
    | _, _ => none
  | .enm a, i, h => (a.nx i h).map fun x => .tup [.int i, x]
def It.fin : It → HI → Bool
  | .live n k, h => match lstOf h (.ref n) with
    | some ds => decide (ds.length ≤ k)
    | none => false
  | .zip a b, h => a.fin h && b.fin h
  | .enm a, h => a.fin h
  | .seq _, _ => true
def itOf (d : D) (h : HI) : Option It :=
  match d with
  | .tup ds => some (.seq ds)
  | .str z => if z.cps.size ≤ big then some (.seq (signs z)) else none
  | .ref n => (lstOf h (.ref n)).map fun ds => .live n ds.length
  | _ => none
def zipOf (d e : D) (h : HI) : Option It :=
  match d, e with
  | .tup ds, .tup es => some (.zip (.seq ds) (.seq es))
  | .ref m, .ref n => match lstOf h (.ref m), lstOf h (.ref n) with
    | some ds, some es => some (.zip (.live m ds.length) (.live n es.length))
    | _, _ => none
  | _, _ => none
def enmOf (d : D) (h : HI) : Option It :=
  match d with
  | .ref n => (lstOf h (.ref n)).map fun ds => .enm (.live n ds.length)
  | _ => none
def rngIt : List D → Option It
  | [.int j] => if -(2 ^ 62) ≤ j ∧ j < 2 ^ 62 then some (.seq ((List.range j.toNat).map fun k => .int (k : Nat))) else none
  | [.int i, .int j] => if -(2 ^ 62) ≤ i ∧ i < 2 ^ 62 ∧ -(2 ^ 62) ≤ j ∧ j < 2 ^ 62 then some (.seq ((List.range (j - i).toNat).map fun k => .int (i + (k : Nat)))) else none
  | _ => none
def loopN {α β : Type} (nx : Nat → HI → Option D) (fin : HI → Bool) (body : D → α → HI → Option ((α ⊕ β) × HI)) : Nat → Nat → α → HI → Option ((α ⊕ β) × HI)
  | 0, _, a, h => if fin h then some (.inl a, h) else none
  | r + 1, i, a, h => match nx i h with
    | none => none
    | some d => match body d a h with
      | some (.inl a', h') => loopN nx fin body r (i + 1) a' h'
      | some (.inr b, h') => some (.inr b, h')
      | none => none
mutual
def bind1 : Tg → D → St → Option St
  | .nm i, d, σ => if i < σ.length then some (σ.set i (some d)) else none
  | .tp ts, .tup ds, σ => binds ts ds σ
  | _, _, _ => none
def binds : Tgs → List D → St → Option St
  | .nil, [], σ => some σ
  | .cons t ts, d :: ds, σ => (bind1 t d σ).bind fun σ' => binds ts ds σ'
  | _, _, _ => none
end
def wipeD (σ : St) : List Nat → St
  | [] => σ
  | v :: vs => (wipeD σ vs).set v none
inductive Acc where
  | ds (l : List D) | sum (i : Int) | yes
def acc0 (k : CK) (h : HI) : Acc × HI :=
  match k with
  | .lst => (.ds [], h ++ [.lst []])
  | .dct => (.ds [], h ++ [.dic []])
  | .gtup => (.ds [], h)
  | .gsum => (.sum 0, h)
  | _ => (.yes, h)
section run
variable (cl : Nat → List D → HI → Rz)
def emit (k : CK) (n : Nat) (d v : D) (a : Acc) (h : HI) : Option ((Acc ⊕ D) × HI) :=
  match k, a with
  | .lst, a => match h[n]? with
    | some (.lst ds) => if ds.length < big then some (.inl a, h.set n (.lst (ds ++ [d]))) else none
    | _ => none
  | .dct, a => match h[n]? with
    | some (.dic kvs) => if d.key && decide (kvs.length < big) then some (.inl a, h.set n (.dic (kPut kvs d v))) else none
    | _ => none
  | .gtup, .ds l => if l.length < big then some (.inl (.ds (l ++ [d])), h) else none
  | .gsum, .sum i => match d with
    | .int j => if -(2 ^ 62) < j ∧ j < 2 ^ 62 ∧ -(2 ^ 62) < i + j ∧ i + j < 2 ^ 62 then some (.inl (.sum (i + j)), h) else none
    | _ => none
  | .gall, a => match d with
    | .bl true => some (.inl a, h)
    | .bl false => some (.inr (.bl false), h)
    | _ => none
  | .gany, a => match d with
    | .bl false => some (.inl a, h)
    | .bl true => some (.inr (.bl true), h)
    | _ => none
  | _, _ => none
def compEnd (k : CK) (n : Nat) (a : Acc) : Option D :=
  match k, a with
  | .lst, _ => some (.ref n)
  | .dct, _ => some (.ref n)
  | .gtup, .ds l => some (.tup l)
  | .gsum, .sum i => some (.int i)
  | .gall, _ => some (.bl true)
  | .gany, _ => some (.bl false)
  | _, _ => none
def partOf : Bool → D → Option (Option Int)
  | true, _ => some none
  | false, .int i => some (some i)
  | _, _ => none
def isOmit : ME → Bool
  | .omit => true
  | _ => false
mutual
def evE : ME → St → HI → Rz
  | .var i, σ, h => match σ[i]? with
    | some (some d) => some (d, h)
    | _ => none
  | .cst d, _, h => some (d, h)
  | .glb d, _, h => some (d, h)
  | .tup es, σ, h => (evEs es σ h).bind fun r => if r.1.length ≤ big then some (.tup r.1, r.2) else none
  | .lst es, σ, h => (evEs es σ h).bind fun r => if r.1.length ≤ big then hnew r.2 (.lst r.1) else none
  | .dnew, _, h => hnew h (.dic [])
  | .bin op a b, σ, h => (evE a σ h).bind fun r => (evE b σ r.2).bind fun q => binD op r.1 q.1 q.2
  | .neg a, σ, h => (evE a σ h).bind fun r => match r.1 with
    | .int i => some (.int (-i), r.2)
    | _ => none
  | .cmp op a b, σ, h => (evE a σ h).bind fun r => (evE b σ r.2).bind fun q => (cmpB op r.1 q.1 q.2).map fun c => (.bl c, q.2)
  | .and a b, σ, h => (evE a σ h).bind fun r => match truth r.1 r.2 with
    | some true => evE b σ r.2
    | some false => some r
    | none => none
  | .or a b, σ, h => (evE a σ h).bind fun r => match truth r.1 r.2 with
    | some true => some r
    | some false => evE b σ r.2
    | none => none
  | .not a, σ, h => (evE a σ h).bind fun r => (truth r.1 r.2).map fun c => (.bl (!c), r.2)
  | .ife c a b, σ, h => (evE c σ h).bind fun r => match truth r.1 r.2 with
    | some true => evE a σ r.2
    | some false => evE b σ r.2
    | none => none
  | .idx a i, σ, h => (evE a σ h).bind fun r => (evE i σ r.2).bind fun q => idxD r.1 q.1 q.2
  | .slc a lo hi, σ, h => (evE a σ h).bind fun r => (evE lo σ r.2).bind fun p => (evE hi σ p.2).bind fun q =>
      match partOf (isOmit lo) p.1, partOf (isOmit hi) q.1 with
      | some l, some u => slcD r.1 l u q.2
      | _, _ => none
  | .omit, _, h => some (.non, h)
  | .call f es, σ, h => (evEs es σ h).bind fun r => cl f r.1 r.2
  | .blt b es, σ, h => (evEs es σ h).bind fun r => bltD b r.1 r.2
  | .isi t a, σ, h => (evE a σ h).bind fun r => bltD (.isi t) [r.1] r.2
  | .mth m o es, σ, h => (evE o σ h).bind fun r => if recv m r.1 r.2 then (evEs es σ r.2).bind fun q => mthD m r.1 q.1 q.2 else none
  | .comp k own c, σ, h => evC k own c σ h
def evEs : MEs → St → HI → Option (List D × HI)
  | .nil, _, h => some ([], h)
  | .cons e es, σ, h => (evE e σ h).bind fun r => (evEs es σ r.2).bind fun q => some (r.1 :: q.1, q.2)
def evI : MI → St → HI → Option (It × HI)
  | .ex e, σ, h => (evE e σ h).bind fun r => (itOf r.1 r.2).map fun t => (t, r.2)
  | .rng es, σ, h => (evEs es σ h).bind fun r => (rngIt r.1).map fun t => (t, r.2)
  | .zip a b, σ, h => (evE a σ h).bind fun r => (evE b σ r.2).bind fun q => (zipOf r.1 q.1 q.2).map fun t => (t, q.2)
  | .enm a, σ, h => (evE a σ h).bind fun r => (enmOf r.1 r.2).map fun t => (t, r.2)
def evC (k : CK) (own : List Nat) : Cl → St → HI → Rz
  | .one t i c e v, σ, h => (evI i σ h).bind fun r =>
      (loopN r.1.nx r.1.fin (fun d a h => (bind1 t d (wipeD σ own)).bind fun σ' => (evE c σ' h).bind fun q => match truth q.1 q.2 with
        | some true => (evE e σ' q.2).bind fun x => (evE v σ' x.2).bind fun y => emit k r.2.length x.1 y.1 a y.2
        | some false => some (.inl a, q.2)
        | none => none) r.1.len 0 (acc0 k r.2).1 (acc0 k r.2).2).bind fun z => match z.1 with
          | .inl a => (compEnd k r.2.length a).map fun d => (d, z.2)
          | .inr d => some (d, z.2)
  | .more t i c own1 l, σ, h => (evI i σ h).bind fun r =>
      (loopN r.1.nx r.1.fin (fun d a h => (bind1 t d (wipeD σ own)).bind fun σ' => (evE c σ' h).bind fun q => match truth q.1 q.2 with
        | some true => evD k own1 r.2.length l a σ' q.2
        | some false => some (.inl a, q.2)
        | none => none) r.1.len 0 (acc0 k r.2).1 (acc0 k r.2).2).bind fun z => match z.1 with
          | .inl a => (compEnd k r.2.length a).map fun d => (d, z.2)
          | .inr d => some (d, z.2)
def evD (k : CK) (own : List Nat) (n : Nat) : Cl → Acc → St → HI → Option ((Acc ⊕ D) × HI)
  | .one t i c e v, a, σ, h => (evI i σ h).bind fun r =>
      loopN r.1.nx r.1.fin (fun d a h => (bind1 t d (wipeD σ own)).bind fun σ' => (evE c σ' h).bind fun q => match truth q.1 q.2 with
        | some true => (evE e σ' q.2).bind fun x => (evE v σ' x.2).bind fun y => emit k n x.1 y.1 a y.2
        | some false => some (.inl a, q.2)
        | none => none) r.1.len 0 a r.2
  | .more t i c own1 l, a, σ, h => (evI i σ h).bind fun r =>
      loopN r.1.nx r.1.fin (fun d a h => (bind1 t d (wipeD σ own)).bind fun σ' => (evE c σ' h).bind fun q => match truth q.1 q.2 with
        | some true => evD k own1 n l a σ' q.2
        | some false => some (.inl a, q.2)
        | none => none) r.1.len 0 a r.2
end
end run
inductive Fl where
  | nx (σ : St) | brk (σ : St) | ct (σ : St) | rt (d : D)
section runS
variable (cl : Nat → List D → HI → Rz) (wf : Nat)
def whileN (test : St → HI → Option (Bool × HI)) (body : St → HI → Option (Fl × HI)) : Nat → St → HI → Option (Fl × HI)
  | 0, _, _ => none
  | n + 1, σ, h => match test σ h with
    | some (true, h1) => match body σ h1 with
      | some (.nx σ', h2) => whileN test body n σ' h2
      | some (.ct σ', h2) => whileN test body n σ' h2
      | some (.brk σ', h2) => some (.nx σ', h2)
      | some (.rt d, h2) => some (.rt d, h2)
      | none => none
    | some (false, h1) => some (.nx σ, h1)
    | none => none
def afterFor : (St ⊕ Fl) → Fl
  | .inl σ => .nx σ
  | .inr (.brk σ) => .nx σ
  | .inr f => f
def turnOf : Fl → St ⊕ Fl
  | .nx σ => .inl σ
  | .ct σ => .inl σ
  | f => .inr f
def testE (c : ME) (σ : St) (h : HI) : Option (Bool × HI) := (evE cl c σ h).bind fun r => (truth r.1 r.2).map fun b => (b, r.2)
mutual
def evS : MS → St → HI → Option (Fl × HI)
  | .asg t e, σ, h => (evE cl e σ h).bind fun r => (bind1 t r.1 σ).map fun σ' => (.nx σ', r.2)
  | .par i j a b, σ, h => (evE cl a σ h).bind fun r => (evE cl b σ r.2).bind fun q =>
      if i < σ.length ∧ j < σ.length then some (.nx ((σ.set i (some r.1)).set j (some q.1)), q.2) else none
  | .sub o i e, σ, h => (evE cl e σ h).bind fun r => (evE cl o σ r.2).bind fun p => (evE cl i σ p.2).bind fun q => (setIx p.1 q.1 r.1 q.2).map fun h' => (.nx σ, h')
  | .expr e, σ, h => (evE cl e σ h).map fun r => (.nx σ, r.2)
  | .ret e, σ, h => (evE cl e σ h).map fun r => (.rt r.1, r.2)
  | .retN, _, h => some (.rt .non, h)
  | .ite c a b, σ, h => (testE cl c σ h).bind fun r => if r.1 then evSs a σ r.2 else evSs b σ r.2
  | .fr t i b, σ, h => (evI cl i σ h).bind fun r =>
      (loopN r.1.nx r.1.fin (fun d σ h => (bind1 t d σ).bind fun σ' => (evSs b σ' h).map fun q => (turnOf q.1, q.2)) r.1.len 0 σ r.2).map fun z => (afterFor z.1, z.2)
  | .whl c b, σ, h => whileN (testE cl c) (evSs b) wf σ h
  | .brk, σ, h => some (.brk σ, h)
  | .cont, σ, h => some (.ct σ, h)
  | .pass, σ, h => some (.nx σ, h)
  | .aug i op e, σ, h => match σ[i]? with
    | some (some x) => (evE cl e σ h).bind fun r => (binD op x r.1 r.2).map fun q => (.nx (σ.set i (some q.1)), q.2)
    | _ => none
def evSs : MSs → St → HI → Option (Fl × HI)
  | .nil, σ, h => some (.nx σ, h)
  | .cons s r, σ, h => match evS s σ h with
    | some (.nx σ', h') => evSs r σ' h'
    | x => x
end
end runS
structure Def where
  np : Nat
  nn : Nat
  body : MSs
def startD (nn : Nat) (ds : List D) : St := ds.map some ++ List.replicate (nn - ds.length) none
def callI (P : List Def) (wf : Nat) : Nat → Nat → List D → HI → Rz
  | 0, _, _, _ => none
  | k + 1, f, ds, h => match P[f]? with
    | some d => if ds.length = d.np then match evSs (callI P wf k) wf d.body (startD d.nn ds) h with
        | some (.rt x, h') => some (x, h')
        | some (.nx _, h') => some (.non, h')
        | _ => none
      else none
    | none => none
end MP
namespace MP
open PySem PySem.Spec PyProof.Rows L2
mutual
inductive RV (K : PySem.W.Frag) (μ : List Addr) (H : Hp) : D → V → Prop where
  | non : RV K μ H .non .non
  | bl (b : Bool) : RV K μ H (.bl b) (.bl b)
  | int (i : Int) : RV K μ H (.int i) (.int i)
  | str (x : Str) : RV K μ H (.str x) (.str x)
  | tup {a : Addr} {ds : List D} {vs : List V} : SqT K H a vs → RVs K μ H ds vs → RV K μ H (.tup ds) (.ref a)
  | ref {n : Nat} {a : Addr} : μ[n]? = some a → RV K μ H (.ref n) (.ref a)
inductive RVs (K : PySem.W.Frag) (μ : List Addr) (H : Hp) : List D → List V → Prop where
  | nil : RVs K μ H [] []
  | cons {d : D} {ds : List D} {v : V} {vs : List V} : RV K μ H d v → RVs K μ H ds vs → RVs K μ H (d :: ds) (v :: vs)
end
def TK (K : PySem.W.Frag) (H H' : Hp) : Prop := ∀ a xs, SqT K H a xs → SqT K H' a xs
theorem TK.refl {K : PySem.W.Frag} {H : Hp} : TK K H H := fun _ _ h => h
theorem TK.trans {K : PySem.W.Frag} {H H1 H2 : Hp} (a : TK K H H1) (b : TK K H1 H2) : TK K H H2 := fun c xs h => b c xs (a c xs h)
section
variable {K : PySem.W.Frag} {μ μ' : List Addr} {H H' : Hp}
theorem pre_get {n : Nat} {a : Addr} (p : μ <+: μ') (h : μ[n]? = some a) : μ'[n]? = some a := by
  obtain ⟨r, rfl⟩ := p
  rw [List.getElem?_append_left (by
    rcases Nat.lt_or_ge n μ.length with q | q
    · exact q
    · rw [List.getElem?_eq_none q] at h; cases h)]
  exact h
mutual
theorem RV.mono (p : μ <+: μ') (t : TK K H H') : ∀ {d : D} {v : V}, RV K μ H d v → RV K μ' H' d v
  | _, _, .non => .non
  | _, _, .bl b => .bl b
  | _, _, .int i => .int i
  | _, _, .str x => .str x
  | _, _, .tup h r => .tup (t _ _ h) (RVs.mono p t r)
  | _, _, .ref h => .ref (pre_get p h)
theorem RVs.mono (p : μ <+: μ') (t : TK K H H') : ∀ {ds : List D} {vs : List V}, RVs K μ H ds vs → RVs K μ' H' ds vs
  | _, _, .nil => .nil
  | _, _, .cons h r => .cons (RV.mono p t h) (RVs.mono p t r)
end
theorem RVs.length : ∀ {ds : List D} {vs : List V}, RVs K μ H ds vs → ds.length = vs.length
  | _, _, .nil => rfl
  | _, _, .cons _ r => congrArg (· + 1) (RVs.length r)
theorem RVs.get : ∀ {ds : List D} {vs : List V} {i : Nat} {d : D}, RVs K μ H ds vs → ds[i]? = some d → ∃ v, vs[i]? = some v ∧ RV K μ H d v
  | _, _, _, _, .nil, e => by simp at e
  | _, _, 0, _, .cons h _, e => by simp at e; subst e; exact ⟨_, rfl, h⟩
  | _, _, i + 1, _, .cons _ r, e => by
    obtain ⟨v, h1, h2⟩ := RVs.get (i := i) r (by simpa using e)
    exact ⟨v, by simpa using h1, h2⟩
theorem RVs.append : ∀ {ds es : List D} {vs ws : List V}, RVs K μ H ds vs → RVs K μ H es ws → RVs K μ H (ds ++ es) (vs ++ ws)
  | _, _, _, _, .nil, s => s
  | _, _, _, _, .cons h r, s => .cons h (RVs.append r s)
theorem RVs.drop : ∀ {ds : List D} {vs : List V} (n : Nat), RVs K μ H ds vs → RVs K μ H (ds.drop n) (vs.drop n)
  | _, _, 0, r => r
  | _, _, _ + 1, .nil => .nil
  | _, _, n + 1, .cons _ r => RVs.drop n r
theorem RVs.take : ∀ {ds : List D} {vs : List V} (n : Nat), RVs K μ H ds vs → RVs K μ H (ds.take n) (vs.take n)
  | _, _, 0, _ => .nil
  | _, _, _ + 1, .nil => .nil
  | _, _, n + 1, .cons h r => .cons h (RVs.take n r)
theorem RVs.set {d : D} {v : V} (q : RV K μ H d v) : ∀ {ds : List D} {vs : List V} (i : Nat), RVs K μ H ds vs → RVs K μ H (ds.set i d) (vs.set i v)
  | _, _, _, .nil => .nil
  | _, _, 0, .cons _ r => .cons q r
  | _, _, i + 1, .cons h r => .cons h (RVs.set q i r)
theorem RVs.dropLast : ∀ {ds : List D} {vs : List V}, RVs K μ H ds vs → RVs K μ H ds.dropLast vs.dropLast
  | _, _, .nil => .nil
  | _, _, .cons _ .nil => .nil
  | _, _, .cons h (.cons g r) => .cons h (RVs.dropLast (.cons g r))
theorem RVs.strs {z : List Nat} : RVs K μ H (z.map fun c => .str ⟨#[c]⟩) (z.map fun c => .str ⟨#[c]⟩) := by
  induction z with
  | nil => exact .nil
  | cons c r ih => exact .cons (.str _) ih
end
def keyOf : D → Option Key
  | .int i => some (.inl i)
  | .str x => some (.inr x)
  | _ => none
def RKV (K : PySem.W.Frag) (μ : List Addr) (H : Hp) : List (D × D) → List (Key × V) → Prop := Paired fun p q => keyOf p.1 = some q.1 ∧ RV K μ H p.2 q.2
def RoL (K : PySem.W.Frag) (H : Hp) (a : Addr) (vs : List V) : Prop := (∃ o, H a = some (.frz o (.lst vs))) ∨
    ∃ (o : Obj) (its : Array Value) (n : Nat), K.lookup a = some o ∧ o.cls = .type "list" ∧ o.dict = none ∧ o.data = .seq its n ∧ its.size ≤ sizeLine ∧ Vals vs its.toList
theorem RoL.sq {K : PySem.W.Frag} {H : Hp} {a : Addr} {vs : List V} (h : RoL K H a vs) : SqL K H a vs := h.elim (fun ⟨o, e⟩ => .inl (.inr ⟨o, e⟩)) .inr
def OR (K : PySem.W.Frag) (μ : List Addr) (H : Hp) (a : Addr) : HB → Prop
  | .lst ds => ∃ vs, H a = some (.lst vs) ∧ RVs K μ H ds vs
  | .rol ds => ∃ vs, RoL K H a vs ∧ RVs K μ H ds vs
  | .dic kvs => ∃ ks, H a = some (.dK ks) ∧ RKV K μ H kvs ks
  | _ => False
def HB.wr : HB → Bool
  | .rol _ => false
  | _ => true
structure HR (K : PySem.W.Frag) (T : List Addr) (μ : List Addr) (h : HI) (H : Hp) : Prop where
  len : μ.length = h.length
  inj : ∀ (m n : Nat) (a : Addr) (o u : HB), μ[m]? = some a → μ[n]? = some a → h[m]? = some o → h[n]? = some u → o.wr = true → u.wr = true → m = n
  obj : ∀ (n : Nat) (a : Addr) (o : HB), μ[n]? = some a → h[n]? = some o → OR K μ H a o
  tab : ∀ P ∈ T, GxR.TabG H P
section
variable {K : PySem.W.Frag} {T μ μ' : List Addr} {h : HI} {H H' : Hp} {a : Addr} {n : Nat} {o : HB}
theorem RKV.mono (p : μ <+: μ') (t : TK K H H') {kvs : List (D × D)} {ks : List (Key × V)} (r : RKV K μ H kvs ks) : RKV K μ' H' kvs ks := Paired.mapP r fun x y q => ⟨q.1, q.2.mono p t⟩
theorem HR.at (R : HR K T μ h H) (e : h[n]? = some o) : ∃ a, μ[n]? = some a ∧ OR K μ H a o := by
  have hl : n < μ.length := by
    rw [R.len]
    rcases Nat.lt_or_ge n h.length with q | q
    · exact q
    · rw [List.getElem?_eq_none q] at e; cases e
  exact ⟨μ[n], List.getElem?_eq_getElem hl, R.obj n _ o (List.getElem?_eq_getElem hl) e⟩
theorem HR.of (R : HR K T μ h H) (ea : μ[n]? = some a) (e : h[n]? = some o) : OR K μ H a o := R.obj n a o ea e
def Wr (H : Hp) (a : Addr) : Prop := ∃ u, H a = some u ∧ ((∃ vs, u = .lst vs) ∨ ∃ ks, u = .dK ks)
theorem TK.updW {ob : HO} (w : Wr H a) : TK K H (upd H a ob) := by
  obtain ⟨u, e, hu⟩ := w
  have ne : ∀ b u', H b = some u' → (∀ vs, u' ≠ .lst vs) → (∀ ks, u' ≠ .dK ks) → b ≠ a := fun b u' e' h1 h2 z => by
    rw [z, e] at e'
    cases e'
    rcases hu with ⟨vs, q⟩ | ⟨ks, q⟩
    · exact h1 vs q
    · exact h2 ks q
  intro b xs q
  rcases q with (q | ⟨o, q⟩) | q
  · exact .inl (.inl (by rw [upd_ne (ne b _ q (fun _ z => by cases z) (fun _ z => by cases z))]; exact q))
  · exact .inl (.inr ⟨o, by rw [upd_ne (ne b _ q (fun _ z => by cases z) (fun _ z => by cases z))]; exact q⟩)
  · exact .inr q
theorem TK.newT {ob : HO} (hn : H a = none) : TK K H (upd H a ob) := by
  intro b xs q
  rcases q with (q | ⟨o, q⟩) | q
  · exact .inl (.inl (by rw [upd_ne (ne_of_none q hn)]; exact q))
  · exact .inl (.inr ⟨o, by rw [upd_ne (ne_of_none q hn)]; exact q⟩)
  · exact .inr q
theorem tabG_upd {P : Addr} {ob : HO} (h : GxR.TabG H P) (ha : P ≠ a) : GxR.TabG (upd H a ob) P := by
  obtain ⟨ps, e, r⟩ := h
  exact ⟨ps, by rw [upd_ne ha]; exact e, r⟩
theorem OR.wr_some (q : OR K μ H a o) (w : o.wr = true) : Wr H a := by
  cases o with
  | lst ds => obtain ⟨vs, e, _⟩ := q; exact ⟨_, e, .inl ⟨vs, rfl⟩⟩
  | dic kvs => obtain ⟨ks, e, _⟩ := q; exact ⟨_, e, .inr ⟨ks, rfl⟩⟩
  | rol ds => cases w
  | set ds => exact q.elim
  | ins C fs => exact q.elim
theorem OR.mono {u : HB} (p : μ <+: μ') (t : TK K H H') (he : ∀ ob, (∀ ps, ob ≠ .tbl ps) → H a = some ob → H' a = some ob) (q : OR K μ H a u) : OR K μ' H' a u := by
  cases u with
  | lst ds => obtain ⟨vs, e, r⟩ := q; exact ⟨vs, he _ (fun _ z => by cases z) e, r.mono p t⟩
  | dic kvs => obtain ⟨ks, e, r⟩ := q; exact ⟨ks, he _ (fun _ z => by cases z) e, r.mono p t⟩
  | rol ds =>
    obtain ⟨vs, e, r⟩ := q
    refine ⟨vs, ?_, r.mono p t⟩
    rcases e with ⟨ob, e⟩ | e
    · exact .inl ⟨ob, he _ (fun _ z => by cases z) e⟩
    · exact .inr e
  | set ds => exact q.elim
  | ins C fs => exact q.elim
theorem OR.wr_new {ob : HO} (q : OR K μ (L2.upd H a ob) a o) (w : o.wr = true) : (∃ vs, ob = .lst vs) ∨ ∃ ks, ob = .dK ks := by
  cases o with
  | lst ds => obtain ⟨vs, e, _⟩ := q; rw [upd_same] at e; cases e; exact .inl ⟨vs, rfl⟩
  | dic kvs => obtain ⟨ks, e, _⟩ := q; rw [upd_same] at e; cases e; exact .inr ⟨ks, rfl⟩
  | rol ds => cases w
  | set ds => exact q.elim
  | ins C fs => exact q.elim
theorem HR.set {o' : HB} {ob : HO} (R : HR K T μ h H) (ea : μ[n]? = some a) (e : h[n]? = some o) (w : o.wr = true) (w' : o'.wr = true) (q : OR K μ (upd H a ob) a o') : HR K T μ (h.set n o') (upd H a ob) := by
  have hw := (R.of ea e).wr_some w
  have hlt : n < h.length := by
    rcases Nat.lt_or_ge n h.length with z | z
    · exact z
    · rw [List.getElem?_eq_none z] at e; cases e
  have kind : ∀ {m : Nat} {u : HB}, (h.set n o')[m]? = some u → u.wr = true → ∃ u', h[m]? = some u' ∧ u'.wr = true := fun {m u} hm hu => by
    by_cases z : m = n
    · subst z; exact ⟨o, e, w⟩
    · rw [List.getElem?_set_ne (Ne.symm z)] at hm; exact ⟨u, hm, hu⟩
  refine ⟨by rw [List.length_set]; exact R.len, fun m k b u u' h1 h2 h3 h4 h5 h6 => ?_, fun m b u h1 h2 => ?_, fun P hP => ?_⟩
  · obtain ⟨v, a1, a2⟩ := kind h3 h5
    obtain ⟨v', b1, b2⟩ := kind h4 h6
    exact R.inj m k b v v' h1 h2 a1 b1 a2 b2
  · by_cases z : m = n
    · subst z
      rw [List.getElem?_set_self hlt] at h2
      cases h2
      rw [ea] at h1; cases h1
      exact q
    · rw [List.getElem?_set_ne (Ne.symm z)] at h2
      have q2 := R.of h1 h2
      by_cases zb : b = a
      · subst zb
        cases hu : u.wr with
        | true => exact absurd (R.inj m n b u o h1 ea h2 e hu w) z
        | false =>
          cases u with
          | rol ds =>
            obtain ⟨vs, r1, r2⟩ := q2
            refine ⟨vs, ?_, r2.mono (List.prefix_refl _) (TK.updW hw)⟩
            rcases r1 with ⟨o2, r1⟩ | r1
            · obtain ⟨u1, e1, hu1⟩ := hw
              rw [r1] at e1; cases e1
              rcases hu1 with ⟨_, z⟩ | ⟨_, z⟩ <;> cases z
            · exact .inr r1
          | lst ds => cases hu
          | dic ds => cases hu
          | set ds => cases hu
          | ins C fs => cases hu
      · exact q2.mono (List.prefix_refl _) (TK.updW hw) fun ob' _ z2 => by rw [upd_ne zb]; exact z2
  · refine tabG_upd (R.tab P hP) fun z => ?_
    obtain ⟨ps, e1, _⟩ := R.tab P hP
    obtain ⟨u1, e2, hu1⟩ := hw
    rw [z, e2] at e1; cases e1
    rcases hu1 with ⟨_, z⟩ | ⟨_, z⟩ <;> cases z
theorem HR.new {p : Addr} {o' : HB} {ob : HO} (R : HR K T μ h H) (hp : H p = none) (q : OR K (μ ++ [p]) (upd H p ob) p o') : HR K T (μ ++ [p]) (h ++ [o']) (upd H p ob) := by
  have pre : μ <+: μ ++ [p] := List.prefix_append ..
  have split : ∀ {m : Nat} {b : Addr}, (μ ++ [p])[m]? = some b → μ[m]? = some b ∨ (m = h.length ∧ b = p) := fun {m b} e => by
    rcases Nat.lt_or_ge m μ.length with z | z
    · rw [List.getElem?_append_left z] at e; exact .inl e
    · rw [List.getElem?_append_right z] at e
      right
      have : m - μ.length = 0 := by
        rcases Nat.eq_zero_or_pos (m - μ.length) with y | y
        · exact y
        · rw [List.getElem?_eq_none (by simp; omega)] at e; cases e
      rw [this] at e
      have e' : p = b := by simpa using e
      exact ⟨by rw [← R.len]; omega, e'.symm⟩
  have hget : ∀ {m : Nat} {b : Addr} {u : HB}, μ[m]? = some b → (h ++ [o'])[m]? = some u → h[m]? = some u := fun {m b u} e1 e2 => by
    have hl : m < h.length := by
      rw [← R.len]
      rcases Nat.lt_or_ge m μ.length with z | z
      · exact z
      · rw [List.getElem?_eq_none z] at e1; cases e1
    rw [List.getElem?_append_left hl] at e2
    exact e2
  have nwr : ∀ {m : Nat} {u : HB}, μ[m]? = some p → (h ++ [o'])[m]? = some u → u.wr = true → False := fun {m u} e1 e2 e3 => by
    obtain ⟨u1, z, _⟩ := (R.of e1 (hget e1 e2)).wr_some e3
    rw [hp] at z; cases z
  refine ⟨by rw [List.length_append, List.length_append, R.len]; rfl, fun m k b u u' h1 h2 h3 h4 h5 h6 => ?_, fun m b u h1 h2 => ?_, fun P hP => ?_⟩
  · rcases split h1 with y1 | ⟨y1, y2⟩ <;> rcases split h2 with z1 | ⟨z1, z2⟩
    · exact R.inj m k b u u' y1 z1 (hget y1 h3) (hget z1 h4) h5 h6
    · rw [z2] at y1; exact (nwr y1 h3 h5).elim
    · rw [y2] at z1; exact (nwr z1 h4 h6).elim
    · omega
  · rcases split h1 with y1 | ⟨y1, y2⟩
    · have q2 := R.of y1 (hget y1 h2)
      refine q2.mono pre (TK.newT hp) fun ob' _ z => ?_
      rw [upd_ne (ne_of_none z hp)]
      exact z
    · subst y2
      rw [y1, List.getElem?_append_right (Nat.le_refl _)] at h2
      have : o' = u := by simpa using h2
      rw [← this]
      exact q
  · obtain ⟨ps, e1, r⟩ := R.tab P hP
    exact ⟨ps, by rw [upd_ne (ne_of_none e1 hp)]; exact e1, r⟩
theorem HR.tup {p : Addr} {vs : List V} (R : HR K T μ h H) (hp : H p = none) : HR K T μ h (upd H p (.tup vs)) := by
  refine ⟨R.len, R.inj, fun m b u h1 h2 => (R.of h1 h2).mono (List.prefix_refl _) (TK.newT hp) fun ob _ z => by rw [upd_ne (ne_of_none z hp)]; exact z, fun P hP => ?_⟩
  obtain ⟨ps, e1, r⟩ := R.tab P hP
  exact ⟨ps, by rw [upd_ne (ne_of_none e1 hp)]; exact e1, r⟩
theorem HR.tabbed {P : Addr} (R : HR K T μ h H) (hP : P ∈ T) (t : GxR.Tabbed P H H') : TK K H H' ∧ HR K T μ h H' := by
  obtain ⟨hg, he⟩ := t
  obtain ⟨ps, e0, _⟩ := R.tab P hP
  have ne : ∀ b u, H b = some u → (∀ q, u ≠ .tbl q) → b ≠ P := fun b u e q z => by
    rw [z, e0] at e; cases e; exact q ps rfl
  have tk : TK K H H' := fun b xs q => by
    rcases q with (q | ⟨o, q⟩) | q
    · exact .inl (.inl (by rw [he b (ne b _ q fun _ z => by cases z)]; exact q))
    · exact .inl (.inr ⟨o, by rw [he b (ne b _ q fun _ z => by cases z)]; exact q⟩)
    · exact .inr q
  refine ⟨tk, R.len, R.inj, fun m b u h1 h2 => ?_, fun Q hQ => ?_⟩
  · have q := R.of h1 h2
    exact q.mono (List.prefix_refl _) tk fun ob nt e => by rw [he b (ne b _ e nt)]; exact e
  · by_cases z : Q = P
    · rw [z]; exact hg
    · obtain ⟨qs, e1, r⟩ := R.tab Q hQ
      exact ⟨qs, by rw [he Q z]; exact e1, r⟩
end
end MP
namespace MP
open PySem PySem.Spec PyProof.Rows L2
mutual
def toPy : D → PyData
  | .non => .none
  | .bl b => .bool b
  | .int i => .int i
  | .str x => .str x
  | .tup ds => .tuple (toPys ds)
  | .ref _ => .none
def toPys : List D → List PyData
  | [] => []
  | d :: r => toPy d :: toPys r
end
theorem toPys_map : ∀ ds : List D, toPys ds = ds.map toPy
  | [] => rfl
  | d :: r => by simp only [toPys, List.map_cons, toPys_map r]
mutual
theorem plain_toPy : ∀ d : D, (toPy d).plain = true
  | .non => rfl
  | .bl _ => rfl
  | .int _ => rfl
  | .str _ => rfl
  | .tup ds => by simp only [toPy, PyData.plain]; exact plain_toPys ds
  | .ref _ => rfl
theorem plain_toPys : ∀ ds : List D, PyData.plainAll (toPys ds) = true
  | [] => rfl
  | d :: r => by simp only [toPys, PyData.plainAll, plain_toPy d, plain_toPys r, Bool.and_self]
end
mutual
theorem depth_toPy : ∀ (n : Nat) (d : D), D.flat n d = true → (toPy d).depth ≤ n
  | _, .non, _ => by simp [toPy, PyData.depth]
  | _, .bl _, _ => by simp [toPy, PyData.depth]
  | _, .int _, _ => by simp [toPy, PyData.depth]
  | _, .str _, _ => by simp [toPy, PyData.depth]
  | 0, .tup _, h => by simp [D.flat] at h
  | n + 1, .tup ds, h => by
    have := depth_toPys n ds (by simpa [D.flat] using h)
    simp only [toPy, PyData.depth]
    omega
  | 0, .ref _, h => by simp [D.flat] at h
  | _ + 1, .ref _, h => by simp [D.flat] at h
theorem depth_toPys : ∀ (n : Nat) (ds : List D), D.flats n ds = true → PyData.depthAll (toPys ds) ≤ n
  | _, [], _ => by simp [toPys, PyData.depthAll]
  | n, d :: r, h => by
    have h' : D.flat n d = true ∧ D.flats n r = true := by simpa [D.flats] using h
    have h1 := depth_toPy n d h'.1
    have h2 := depth_toPys n r h'.2
    simp only [toPys, PyData.depthAll]
    omega
end
mutual
theorem eqv_toPy : ∀ (n m : Nat) (d e : D), D.flat n d = true → D.flat m e = true → PyData.eqv (toPy d) (toPy e) = D.eqv d e
  | n, m, .ref _, _, h, _ => by cases n <;> simp [D.flat] at h
  | n, m, .non, e, _, h => by cases e <;> first | (cases m <;> simp [D.flat] at h; done) | simp [toPy, PyData.eqv, D.eqv]
  | n, m, .bl _, e, _, h => by cases e <;> first | (cases m <;> simp [D.flat] at h; done) | simp [toPy, PyData.eqv, D.eqv]
  | n, m, .int _, e, _, h => by cases e <;> first | (cases m <;> simp [D.flat] at h; done) | simp [toPy, PyData.eqv, D.eqv]
  | n, m, .str _, e, _, h => by cases e <;> first | (cases m <;> simp [D.flat] at h; done) | simp [toPy, PyData.eqv, D.eqv]
  | 0, m, .tup _, e, h, _ => by simp [D.flat] at h
  | n + 1, m, .tup ds, .tup es, h, g => by
    cases m with
    | zero => simp [D.flat] at g
    | succ m =>
      simp only [toPy, PyData.eqv, D.eqv]
      exact eqvs_toPys n m ds es (by simpa [D.flat] using h) (by simpa [D.flat] using g)
  | n + 1, m, .tup ds, .non, _, _ => by simp [toPy, PyData.eqv, D.eqv]
  | n + 1, m, .tup ds, .bl _, _, _ => by simp [toPy, PyData.eqv, D.eqv]
  | n + 1, m, .tup ds, .int _, _, _ => by simp [toPy, PyData.eqv, D.eqv]
  | n + 1, m, .tup ds, .str _, _, _ => by simp [toPy, PyData.eqv, D.eqv]
  | n + 1, m, .tup ds, .ref _, _, g => by cases m <;> simp [D.flat] at g
theorem eqvs_toPys : ∀ (n m : Nat) (ds es : List D), D.flats n ds = true → D.flats m es = true → PyData.eqvAll (toPys ds) (toPys es) = D.eqvs ds es
  | _, _, [], [], _, _ => rfl
  | _, _, [], _ :: _, _, _ => rfl
  | _, _, _ :: _, [], _, _ => rfl
  | n, m, d :: ds, e :: es, h, g => by
    have h' : D.flat n d = true ∧ D.flats n ds = true := by simpa [D.flats] using h
    have g' : D.flat m e = true ∧ D.flats m es = true := by simpa [D.flats] using g
    simp only [toPys, PyData.eqvAll, D.eqvs, eqv_toPy n m d e h'.1 g'.1, eqvs_toPys n m ds es h'.2 g'.2]
end
section
variable {X : Cx} {pins : List (Addr × Obj)} {σ : L2.St} {H : Hp} {s : Shared} {μ : List Addr}
mutual
theorem rv_reads (I : Inv X pins σ H s) : ∀ (n : Nat) (d : D) (v : V) (u : Value), D.flat n d = true → RV X.K μ H d v → RelV v u → ∃ as, Reads s.heap u (toPy d) as
  | _, .non, _, _, _, h, r => by cases h; cases r; exact ⟨_, Reads.none⟩
  | _, .bl b, _, _, _, h, r => by cases h; cases r; exact ⟨_, Reads.bool b⟩
  | _, .int i, _, _, _, h, r => by cases h; obtain ⟨t, rfl⟩ := r; exact ⟨_, Reads.int i t⟩
  | _, .str x, _, _, _, h, r => by cases h; obtain ⟨t, rfl⟩ := r; exact ⟨_, Reads.str x t⟩
  | 0, .tup ds, _, _, f, _, _ => by simp [D.flat] at f
  | n + 1, .tup ds, _, _, f, h, r => by
    cases h with
    | tup hs ha =>
      cases r
      obtain ⟨its, rv, ⟨o, ho, hc, k, hd⟩, _⟩ := I.tuple hs
      obtain ⟨as, hr⟩ := rvs_reads I n ds _ its (by simpa [D.flat] using f) ha rv
      exact ⟨_, Reads.tuple ho hc hd hr⟩
  | 0, .ref _, _, _, f, _, _ => by simp [D.flat] at f
  | _ + 1, .ref _, _, _, f, _, _ => by simp [D.flat] at f
theorem rvs_reads (I : Inv X pins σ H s) : ∀ (n : Nat) (ds : List D) (vs : List V) (us : List Value), D.flats n ds = true → RVs X.K μ H ds vs → Vals vs us → ∃ as, ReadsAll s.heap us (toPys ds) as
  | _, [], _, _, _, h, r => by cases h; cases r; exact ⟨_, ReadsAll.nil⟩
  | n, d :: ds, _, _, f, h, r => by
    have f' : D.flat n d = true ∧ D.flats n ds = true := by simpa [D.flats] using f
    cases h with
    | cons h1 h2 =>
      cases r with
      | cons r1 r2 =>
        obtain ⟨as, q1⟩ := rv_reads I n d _ _ f'.1 h1 r1
        obtain ⟨bs, q2⟩ := rvs_reads I n ds _ _ f'.2 h2 r2
        exact ⟨_, ReadsAll.cons q1 q2⟩
end
end
theorem any_toPys {n m : Nat} {x : D} (hx : D.flat n x = true) : ∀ {ds : List D}, D.flats m ds = true → ((toPys ds).any fun y => PyData.eqv y (toPy x)) = anyEq x ds
  | [], _ => rfl
  | d :: r, h => by
    have h' : D.flat m d = true ∧ D.flats m r = true := by simpa [D.flats] using h
    have ih := any_toPys hx h'.2
    unfold anyEq at ih ⊢
    simp only [toPys, List.any_cons, eqv_toPy m n d x h'.1 hx, ih]
section
variable (K : PySem.W.Frag) (T : List Addr)
def Ok1 (μ : List Addr) (H : Hp) (r : D × HI) (Q : VK) : Prop := ∀ μ' H' v, μ <+: μ' → TK K H H' → HR K T μ' r.2 H' → RV K μ' H' r.1 v → Q v H'
def rV1 (g : D → HI → Rz) : V → Hp → VK → Prop := fun x H Q => ∃ μ h dx r, HR K T μ h H ∧ RV K μ H dx x ∧ g dx h = some r ∧ Ok1 K T μ H r Q
def rV2 (g : D → D → HI → Rz) : R2 := fun x y H Q => ∃ μ h dx dy r, HR K T μ h H ∧ RV K μ H dx x ∧ RV K μ H dy y ∧ g dx dy h = some r ∧ Ok1 K T μ H r Q
def rVs (g : List D → HI → Rz) : List V → Hp → VK → Prop := fun xs H Q => ∃ μ h ds r, HR K T μ h H ∧ RVs K μ H ds xs ∧ g ds h = some r ∧ Ok1 K T μ H r Q
def rVm (g : D → List D → HI → Rz) : V → List V → Hp → VK → Prop := fun x xs H Q => ∃ μ h d ds r, HR K T μ h H ∧ RV K μ H d x ∧ RVs K μ H ds xs ∧ g d ds h = some r ∧ Ok1 K T μ H r Q
end
section
variable {K : PySem.W.Frag} {T μ : List Addr} {h : HI} {H : Hp} {r : D × HI} {Q : VK}
theorem Ok1.here {d : D} {v : V} (q : Ok1 K T μ H (d, h) Q) (R : HR K T μ h H) (rv : RV K μ H d v) : Q v H := q μ H v (List.prefix_refl _) TK.refl R rv
theorem Ok1.newL {ds : List D} {vs : List V} (q : Ok1 K T μ H (.ref h.length, h ++ [.lst ds]) Q) (R : HR K T μ h H) (rv : RVs K μ H ds vs) : ∀ p, H p = none → Q (.ref p) (upd H p (.lst vs)) := fun p hp => by
  have pre : μ <+: μ ++ [p] := List.prefix_append ..
  refine q (μ ++ [p]) _ _ pre (TK.newT hp) (R.new hp ⟨vs, upd_same, rv.mono pre (TK.newT hp)⟩) (.ref ?_)
  rw [← R.len, List.getElem?_append_right (Nat.le_refl _)]
  simp
theorem Ok1.newD (q : Ok1 K T μ H (.ref h.length, h ++ [.dic []]) Q) (R : HR K T μ h H) : ∀ p, H p = none → Q (.ref p) (upd H p (.dK [])) := fun p hp => by
  have pre : μ <+: μ ++ [p] := List.prefix_append ..
  refine q (μ ++ [p]) _ _ pre (TK.newT hp) (R.new hp ⟨[], upd_same, .nil⟩) (.ref ?_)
  rw [← R.len, List.getElem?_append_right (Nat.le_refl _)]
  simp
theorem Ok1.newT {ds : List D} {vs : List V} (q : Ok1 K T μ H (.tup ds, h) Q) (R : HR K T μ h H) (rv : RVs K μ H ds vs) : ∀ p, H p = none → Q (.ref p) (upd H p (.tup vs)) := fun p hp =>
  q μ _ _ (List.prefix_refl _) (TK.newT hp) (R.tup hp) (.tup (.inl (.inl upd_same)) (rv.mono (List.prefix_refl _) (TK.newT hp)))
end
section
variable {X : Cx} {T : List Addr}
theorem ix_eq (n : Nat) (i : Int) : ixAt n i = ixN n i := rfl
theorem big_eq : big = sizeLine := by rw [sizeLine_eq]; rfl
def opOf : BOp → Operator
  | .add => .Add | .sub => .Sub | .mul => .Mult | .mod => .Mod | .fdv => .FloorDiv | .pow => .Pow
theorem op_all (op : BOp) : OpR X (binaryOp (opOf op)) (rV2 X.K T (binD op)) := by
  intro pins s σ H x y v u Q I rx ry ⟨μ, h, dx, dy, r, R, vx, vy, e, q⟩
  cases vx with
  | int i =>
    cases vy with
    | int j =>
      obtain ⟨k, ek, er⟩ : ∃ k, intOp op i j = some k ∧ r = (.int k, h) := by
        simp only [binD, Option.map_eq_some_iff] at e
        obtain ⟨k, h1, h2⟩ := e
        exact ⟨k, h1, h2.symm⟩
      subst er
      have fin := q.here R (.int k)
      cases op with
      | add => simp only [intOp, Option.some.injEq] at ek; subst ek; exact op_add pins s σ H _ _ v u Q I rx ry ⟨i, j, rfl, rfl, fin⟩
      | sub => simp only [intOp, Option.some.injEq] at ek; subst ek; exact op_sub pins s σ H _ _ v u Q I rx ry ⟨i, j, rfl, rfl, fin⟩
      | mul =>
        simp only [intOp, Option.ite_none_right_eq_some, Option.some.injEq] at ek
        obtain ⟨hc, ek⟩ := ek
        subst ek
        refine op_mul pins s σ H _ _ v u Q I rx ry ⟨i, j, rfl, rfl, ?_, fin⟩
        simpa [small64, CMul] using hc
      | mod =>
        simp only [intOp, Option.ite_none_left_eq_some, Option.some.injEq] at ek
        obtain ⟨hc, ek⟩ := ek
        subst ek
        exact op_modN pins s σ H _ _ v u Q I rx ry ⟨i, j, rfl, rfl, hc, fin⟩
      | fdv =>
        simp only [intOp, Option.ite_none_right_eq_some, Option.some.injEq] at ek
        obtain ⟨hc, ek⟩ := ek
        subst ek
        exact op_fdivN pins s σ H _ _ v u Q I rx ry ⟨i, j, rfl, rfl, hc, fin⟩
      | pow =>
        simp only [intOp, Option.ite_none_right_eq_some, Option.some.injEq] at ek
        obtain ⟨hc, ek⟩ := ek
        subst ek
        exact op_pow pins s σ H _ _ v u Q I rx ry ⟨i, j, rfl, rfl, hc, fin⟩
    | _ => simp [binD] at e
  | str a =>
    cases vy with
    | str b =>
      simp only [binD, Option.ite_none_right_eq_some, Option.some.injEq] at e
      obtain ⟨⟨rfl, hl⟩, rfl⟩ := e
      exact op_add_str pins s σ H _ _ v u Q I rx ry ⟨a, b, rfl, rfl, by rw [← big_eq]; exact hl, q.here R (.str _)⟩
    | _ => simp [binD] at e
  | tup ha ra =>
    cases vy with
    | tup hb rb =>
      rename_i p ds vs p2 ds2 vs2
      simp only [binD, Option.ite_none_right_eq_some, Option.some.injEq] at e
      obtain ⟨⟨rfl, hl⟩, rfl⟩ := e
      have l1 := ra.length
      have l2 := rb.length
      refine op_catA pins s σ H _ _ v u Q I rx ry ⟨p, p2, vs, vs2, rfl, rfl, ha, hb, by rw [← big_eq]; omega, ?_, ?_, ?_⟩
      · intro z
        subst z
        cases ra
        exact q.here R (.tup hb rb)
      · intro _ z
        subst z
        cases rb
        rw [List.append_nil] at q
        exact q.here R (.tup ha ra)
      · intro _ _
        exact q.newT R (ra.append rb)
    | _ => simp [binD] at e
  | ref ea =>
    cases vy with
    | ref eb =>
      rename_i m a n b
      simp only [binD] at e
      split at e
      · rename_i ds es h1 h2
        simp only [Option.ite_none_right_eq_some, hnew, Option.some.injEq] at e
        obtain ⟨⟨rfl, hl⟩, rfl⟩ := e
        obtain ⟨vs, o1, r1⟩ := R.of ea h1
        obtain ⟨ws, o2, r2⟩ := R.of eb h2
        have l1 := r1.length
        have l2 := r2.length
        exact op_cat pins s σ H _ _ v u Q I rx ry ⟨a, b, vs, ws, rfl, rfl, o1, o2, by rw [← big_eq]; omega, q.newL R (r1.append r2)⟩
      · cases e
    | _ => simp [binD] at e
  | _ => simp [binD] at e
end
end MP
namespace MP
open PySem PySem.Spec PyProof.Rows L2
section
variable {K : PySem.W.Frag} {T μ : List Addr} {h : HI} {H : Hp}
theorem keyOf_kV {d : D} {v : V} {k : Key} (r : RV K μ H d v) (e : keyOf d = some k) : v = kV k := by
  cases r <;> simp [keyOf] at e <;> subst e <;> rfl
theorem key_some {d : D} (h : d.key = true) : ∃ k, keyOf d = some k := by
  cases d <;> simp [D.key] at h <;> exact ⟨_, rfl⟩
theorem keyOf_key {d : D} {k : Key} (e : keyOf d = some k) : d.key = true := by
  cases d <;> simp [keyOf] at e <;> rfl
theorem eqv_key {d e : D} {k j : Key} (h1 : keyOf d = some k) (h2 : keyOf e = some j) : D.eqv d e = decide (k = j) := by
  cases d <;> simp [keyOf] at h1 <;> cases e <;> simp [keyOf] at h2 <;> subst h1 <;> subst h2 <;> simp [D.eqv] <;> first | rfl | exact Bool.eq_iff_iff.mpr (by simp)
theorem kFind_val {d : D} {k : Key} (e : keyOf d = some k) : ∀ {kvs : List (D × D)} {ks : List (Key × V)}, RKV K μ H kvs ks →
    (∀ y, kFind kvs d = some y → ∃ v, valV ks k = some v ∧ RV K μ H y v) ∧ (kFind kvs d = none → valV ks k = none)
  | _, _, .nil => ⟨fun y z => by simp [kFind] at z, fun _ => rfl⟩
  | p :: r, q :: s, .cons h t => by
    have ih := kFind_val e t
    have hk := eqv_key h.1 e
    unfold kFind valV at ih ⊢
    simp only [List.find?_cons, hk]
    by_cases c : q.1 = k
    · simp only [c, decide_true]
      exact ⟨fun y z => ⟨q.2, rfl, by cases z; exact h.2⟩, fun z => by cases z⟩
    · simp only [c, decide_false]
      exact ih
theorem kFind_isSome {d : D} {k : Key} (e : keyOf d = some k) {kvs : List (D × D)} {ks : List (Key × V)} (r : RKV K μ H kvs ks) : (kFind kvs d).isSome = (valV ks k).isSome := by
  obtain ⟨h1, h2⟩ := kFind_val e r
  cases c : kFind kvs d with
  | none => rw [h2 c]; rfl
  | some y =>
    obtain ⟨v, h3, _⟩ := h1 y c
    rw [h3]; rfl
theorem any_key {d : D} {k : Key} (e : keyOf d = some k) : ∀ {kvs : List (D × D)} {ks : List (Key × V)}, RKV K μ H kvs ks → (kvs.any fun p => D.eqv p.1 d) = (ks.any fun q => decide (q.1 = k))
  | _, _, .nil => rfl
  | p :: r, q :: s, .cons h t => by
    rw [List.any_cons, List.any_cons, eqv_key h.1 e, any_key e t]
theorem RKV.append : ∀ {a b : List (D × D)} {c d : List (Key × V)}, RKV K μ H a c → RKV K μ H b d → RKV K μ H (a ++ b) (c ++ d)
  | _, _, _, _, .nil, s => s
  | _, _, _, _, .cons h r, s => .cons h (RKV.append r s)
theorem RKV.put {d x : D} {k : Key} {v : V} (e : keyOf d = some k) (rx : RV K μ H x v) {kvs : List (D × D)} {ks : List (Key × V)} (r : RKV K μ H kvs ks) : RKV K μ H (kPut kvs d x) (putK ks k v) := by
  unfold kPut putK
  rw [any_key e r]
  by_cases c : (ks.any fun q => decide (q.1 = k)) = true
  · rw [if_pos c, if_pos c]
    clear c
    induction r with
    | nil => exact .nil
    | cons h t ih =>
      rename_i p q l l'
      simp only [List.map_cons]
      refine .cons ?_ ih
      have hk := eqv_key h.1 e
      rw [hk]
      by_cases z : q.1 = k
      · simp only [z, decide_true, if_true]
        exact ⟨by rw [h.1, z], rx⟩
      · simp only [z, decide_false, if_false]
        exact h
  · rw [if_neg c, if_neg c]
    exact r.append (.cons ⟨e, rx⟩ .nil)
theorem RKV.length : ∀ {kvs : List (D × D)} {ks : List (Key × V)}, RKV K μ H kvs ks → kvs.length = ks.length
  | _, _, .nil => rfl
  | _, _, .cons _ r => congrArg (· + 1) (RKV.length r)
theorem isEmpty_rv {ds : List D} {vs : List V} (r : RVs K μ H ds vs) : ds.isEmpty = vs.isEmpty := by cases r <;> rfl
theorem isEmpty_rkv {ds : List (D × D)} {vs : List (Key × V)} (r : RKV K μ H ds vs) : ds.isEmpty = vs.isEmpty := by cases r <;> rfl
theorem tru_of (R : HR K T μ h H) {d : D} {v : V} {k : Bool} (r : RV K μ H d v) (e : truth d h = some k) : TruV K v H k := by
  cases r with
  | non => simp [truth] at e; exact e
  | bl b => simp [truth] at e; exact e.symm
  | int i => simp [truth] at e; exact e.symm
  | str x =>
    simp only [truth, Option.ite_none_right_eq_some, Option.some.injEq] at e
    refine ⟨by rw [← big_eq]; exact e.1, e.2.symm.trans ?_⟩
    show (x.cps.size != 0) = (((x.cps.size : Nat) : Int) != 0)
    cases x.cps.size <;> rfl
  | tup hs rs =>
    simp only [truth, Option.some.injEq] at e
    exact .inr (.inl ⟨_, hs, by rw [← e, isEmpty_rv rs]⟩)
  | ref ea =>
    rename_i n a
    simp only [truth] at e
    split at e
    · rename_i ds hn
      obtain ⟨vs, o, rs⟩ := R.of ea hn
      exact .inl ⟨vs, .of o, by rw [← Option.some.inj e, isEmpty_rv rs]⟩
    · rename_i ds hn
      obtain ⟨vs, o, rs⟩ := R.of ea hn
      exact .inl ⟨vs, o.sq, by rw [← Option.some.inj e, isEmpty_rv rs]⟩
    · rename_i kvs hn
      obtain ⟨ks, o, rs⟩ := R.of ea hn
      exact .inr (.inr ⟨ks, o, by rw [← Option.some.inj e, isEmpty_rkv rs]⟩)
    · cases e
theorem list_of (R : HR K T μ h H) {n : Nat} {a : Addr} {ds : List D} (ea : μ[n]? = some a) (e : lstOf h (.ref n) = some ds) : ∃ vs, SqL K H a vs ∧ RVs K μ H ds vs := by
  simp only [lstOf] at e
  split at e
  · rename_i ds' hn
    cases e
    obtain ⟨vs, o, rs⟩ := R.of ea hn
    exact ⟨vs, .of o, rs⟩
  · rename_i ds' hn
    cases e
    obtain ⟨vs, o, rs⟩ := R.of ea hn
    exact ⟨vs, o.sq, rs⟩
  · cases e
end
section
variable {X : Cx} {T : List Addr}
def cmpOf : COp → CmpOp
  | .eq => .Eq | .ne => .NotEq | .lt => .Lt | .le => .LtE | .gt => .Gt | .ge => .GtE | .isN => .Is | .notN => .IsNot | .inn => .In | .nin => .NotIn
theorem isNon_eq {K : PySem.W.Frag} {μ : List Addr} {H : Hp} {d : D} {v : V} (r : RV K μ H d v) : decide (v = .non) = isNon d := by
  cases r <;> simp [isNon]
theorem isNon_non {K : PySem.W.Frag} {μ : List Addr} {H : Hp} {d : D} {v : V} (r : RV K μ H d v) (h : isNon d = true) : v = .non := by
  cases r <;> first | rfl | simp [isNon] at h
theorem list_reads {pins : List (Addr × Obj)} {σ : L2.St} {H : Hp} {s : Shared} {μ : List Addr} (I : Inv X pins σ H s) {a : Addr} {ds : List D} {vs : List V} (hs : SqL X.K H a vs) (rs : RVs X.K μ H ds vs) (f : D.flats deep ds = true) :
    ∃ as, Reads s.heap (.ref a) (.list (toPys ds)) as := by
  obtain ⟨its, rv, ⟨o, n, ho, hc, hd, hx⟩, _⟩ := I.list hs
  obtain ⟨as, hr⟩ := rvs_reads I deep ds _ its f rs rv
  exact ⟨_, Reads.list ho hc hx hr⟩
theorem tup_reads {pins : List (Addr × Obj)} {σ : L2.St} {H : Hp} {s : Shared} {μ : List Addr} (I : Inv X pins σ H s) {a : Addr} {ds : List D} {vs : List V} (hs : SqT X.K H a vs) (rs : RVs X.K μ H ds vs) (f : D.flats deep ds = true) :
    ∃ as, Reads s.heap (.ref a) (.tuple (toPys ds)) as := by
  obtain ⟨its, rv, ⟨o, ho, hc, k, hd⟩, _⟩ := I.tuple hs
  obtain ⟨as, hr⟩ := rvs_reads I deep ds _ its f rs rv
  exact ⟨_, Reads.tuple ho hc hd hr⟩
theorem in_all {pins : List (Addr × Obj)} {s : Shared} {σ : L2.St} {H : Hp} {x y : V} {v u : Value} {μ : List Addr} {h : HI} {dx dy : D} {b : Bool} (hu : X.A.units + 400 < cLine) (I : Inv X pins σ H s) (rx : RelV x v) (ry : RelV y u) (R : HR X.K T μ h H)
    (vx : RV X.K μ H dx x) (vy : RV X.K μ H dy y) (e : inD dx dy h = some b) (Q : Bool → Value → Shared → Prop) (hQ : ∀ c s', Inv X pins σ H s' → Q c (.bool c) s') :
    wpAny (model X.prog X.w) X.A (compareOp .In v u) (Q b) X.xe s ∧ wpAny (model X.prog X.w) X.A (compareOp .NotIn v u) (Q (!b)) X.xe s := by
  have ld : ∀ {a : Addr} {ds : List D} {vs : List V}, SqL X.K H a vs → RVs X.K μ H ds vs → (D.flat deep dx && D.flats deep ds) = true → u = .ref a → b = anyEq dx ds →
      wpAny (model X.prog X.w) X.A (compareOp .In v u) (Q b) X.xe s ∧ wpAny (model X.prog X.w) X.A (compareOp .NotIn v u) (Q (!b)) X.xe s := by
    intro a ds vs hs rs f eu eb
    simp only [Bool.and_eq_true] at f
    subst eu eb
    obtain ⟨as, r1⟩ := list_reads I hs rs f.2
    obtain ⟨bs, r2⟩ := rv_reads I deep dx x v f.1 vx rx
    have d1 := depth_toPy deep dx f.1
    have hh : X.A.units + 1 + min (PyData.depthAll (toPys ds)) (toPy dx).depth < cLine := by
      have := Nat.min_le_right (PyData.depthAll (toPys ds)) (toPy dx).depth
      unfold deep at d1
      omega
    have ea := any_toPys f.1 f.2
    exact ⟨SeqAt.in_list_data r1 r2 (plain_toPys ds) (plain_toPy dx) hh (by rw [ea]; exact hQ _ _ I), SeqAt.notIn_list_data r1 r2 (plain_toPys ds) (plain_toPy dx) hh (by rw [ea]; exact hQ _ _ I)⟩
  cases vy with
  | tup hs rs =>
    rename_i ta tds tvs
    simp only [inD, Option.ite_none_right_eq_some, Option.some.injEq] at e
    obtain ⟨f, eb⟩ := e
    simp only [Bool.and_eq_true] at f
    cases ry
    subst eb
    obtain ⟨as, r1⟩ := tup_reads I hs rs f.2
    obtain ⟨bs, r2⟩ := rv_reads I deep dx x v f.1 vx rx
    have d1 := depth_toPy deep dx f.1
    have hh : X.A.units + 1 + min (PyData.depthAll (toPys tds)) (toPy dx).depth < cLine := by
      have := Nat.min_le_right (PyData.depthAll (toPys tds)) (toPy dx).depth
      unfold deep at d1
      omega
    have ea := any_toPys f.1 f.2
    exact ⟨SeqAt.in_tuple_data r1 r2 (plain_toPys _) (plain_toPy dx) hh (by rw [ea]; exact hQ _ _ I), SeqAt.notIn_tuple_data r1 r2 (plain_toPys _) (plain_toPy dx) hh (by rw [ea]; exact hQ _ _ I)⟩
  | ref ea =>
    cases ry
    simp only [inD] at e
    split at e
    · rename_i ds hn
      simp only [Option.ite_none_right_eq_some, Option.some.injEq] at e
      obtain ⟨vs, o, rs⟩ := R.of ea hn
      exact ld (.of o) rs e.1 rfl e.2.symm
    · rename_i ds hn
      simp only [Option.ite_none_right_eq_some, Option.some.injEq] at e
      obtain ⟨vs, o, rs⟩ := R.of ea hn
      exact ld o.sq rs e.1 rfl e.2.symm
    · rename_i kvs hn
      simp only [Option.ite_none_right_eq_some, Option.some.injEq] at e
      obtain ⟨hk, eb⟩ := e
      obtain ⟨k, ek⟩ := key_some hk
      obtain ⟨ks, o, rs⟩ := R.of ea hn
      have ex := keyOf_kV vx ek
      subst ex
      rw [kFind_isSome ek rs] at eb
      subst eb
      exact ⟨d_in (by omega) I (.k o) rx fun s' I' => hQ _ s' I', d_notIn (by omega) I (.k o) rx fun s' I' => hQ _ s' I'⟩
    · cases e
  | _ => simp [inD] at e
theorem cmp_all (hu : X.A.units + 400 < cLine) (op : COp) : OpR X (compareOp (cmpOf op)) (rV2 X.K T fun x y h => (cmpB op x y h).map fun c => (.bl c, h)) := by
  intro pins s σ H x y v u Q I rx ry ⟨μ, h, dx, dy, r, R, vx, vy, e, q⟩
  obtain ⟨c, ec, er⟩ : ∃ c, cmpB op dx dy h = some c ∧ r = (.bl c, h) := by
    simp only [Option.map_eq_some_iff] at e
    obtain ⟨k, h1, h2⟩ := e
    exact ⟨k, h1, h2.symm⟩
  subst er
  have fin := q.here R (.bl c)
  have eqq : D.flat deep dx = true → D.flat deep dy = true → ∃ as bs, Reads s.heap v (toPy dx) as ∧ Reads s.heap u (toPy dy) bs ∧ X.A.units + min (toPy dx).depth (toPy dy).depth < cLine := by
    intro f1 f2
    obtain ⟨as, r1⟩ := rv_reads I deep dx x v f1 vx rx
    obtain ⟨bs, r2⟩ := rv_reads I deep dy y u f2 vy ry
    have d1 := depth_toPy deep dx f1
    refine ⟨as, bs, r1, r2, ?_⟩
    have := Nat.min_le_left (toPy dx).depth (toPy dy).depth
    unfold deep at d1
    omega
  have ii : ∀ {f : Int → Int → Bool}, (match dx, dy with | .int i, .int j => some (f i j) | _, _ => none) = some c → ∃ i j, x = .int i ∧ y = .int j ∧ c = f i j := by
    intro f ef
    cases vx with
    | int i =>
      cases vy with
      | int j => exact ⟨i, j, rfl, rfl, (Option.some.inj ef).symm⟩
      | _ => cases ef
    | _ => cases ef
  cases op with
  | eq =>
    simp only [cmpB, Option.ite_none_right_eq_some, Bool.and_eq_true, Option.some.injEq] at ec
    obtain ⟨⟨f1, f2⟩, rfl⟩ := ec
    obtain ⟨as, bs, r1, r2, hh⟩ := eqq f1 f2
    exact SeqAt.eq_plain r1 r2 (plain_toPy _) (plain_toPy _) hh (by rw [eqv_toPy _ _ _ _ f1 f2]; exact ⟨.bl _, H, I, rfl, fin⟩)
  | ne =>
    simp only [cmpB, Option.ite_none_right_eq_some, Bool.and_eq_true, Option.some.injEq] at ec
    obtain ⟨⟨f1, f2⟩, rfl⟩ := ec
    obtain ⟨as, bs, r1, r2, hh⟩ := eqq f1 f2
    exact SeqAt.ne_plain r1 r2 (plain_toPy _) (plain_toPy _) hh (by rw [eqv_toPy _ _ _ _ f1 f2]; exact ⟨.bl _, H, I, rfl, fin⟩)
  | lt =>
    obtain ⟨i, j, rfl, rfl, rfl⟩ := ii (f := fun i j => decide (i < j)) (by cases dx <;> cases dy <;> first | exact ec | cases ec)
    exact op_lt pins s σ H _ _ v u Q I rx ry ⟨i, j, rfl, rfl, fin⟩
  | le =>
    obtain ⟨i, j, rfl, rfl, rfl⟩ := ii (f := fun i j => decide (i ≤ j)) (by cases dx <;> cases dy <;> first | exact ec | cases ec)
    exact op_le pins s σ H _ _ v u Q I rx ry ⟨i, j, rfl, rfl, fin⟩
  | gt =>
    obtain ⟨i, j, rfl, rfl, rfl⟩ := ii (f := fun i j => decide (j < i)) (by cases dx <;> cases dy <;> first | exact ec | cases ec)
    exact op_gt pins s σ H _ _ v u Q I rx ry ⟨i, j, rfl, rfl, fin⟩
  | ge =>
    obtain ⟨i, j, rfl, rfl, rfl⟩ := ii (f := fun i j => decide (j ≤ i)) (by cases dx <;> cases dy <;> first | exact ec | cases ec)
    exact op_ge pins s σ H _ _ v u Q I rx ry ⟨i, j, rfl, rfl, fin⟩
  | isN =>
    simp only [cmpB, Option.ite_none_right_eq_some, Option.some.injEq] at ec
    exact op_isN pins s σ H _ _ v u Q I rx ry ⟨isNon_non vy ec.1, by rw [isNon_eq vx, ec.2]; exact fin⟩
  | notN =>
    simp only [cmpB, Option.ite_none_right_eq_some, Option.some.injEq] at ec
    exact op_notN pins s σ H _ _ v u Q I rx ry ⟨isNon_non vy ec.1, by rw [isNon_eq vx, ec.2]; exact fin⟩
  | inn => exact thn (in_all (T := T) hu I rx ry R vx vy ec (fun c' w s' => c' = c → EP X pins σ Q w s') fun c' s' I' z => ⟨.bl c', H, I', rfl, z ▸ fin⟩).1 fun w s2 z => z rfl
  | nin =>
    simp only [cmpB, Option.map_eq_some_iff] at ec
    obtain ⟨b, eb, rfl⟩ := ec
    exact thn (in_all (T := T) hu I rx ry R vx vy eb (fun c' w s' => c' = (!b) → EP X pins σ Q w s') fun c' s' I' z => ⟨.bl c', H, I', rfl, z ▸ fin⟩).2 fun w s2 z => z rfl
end
end MP
namespace MP
open PySem PySem.Spec PyProof.Rows L2
section
variable {X : Cx} {T : List Addr}
theorem un_neg' : UnR X (unaryOp .USub) (rV1 X.K T fun x h => match x with | .int i => some (.int (-i), h) | _ => none) := by
  intro pins s σ H x v Q I rx ⟨μ, h, dx, r, R, vx, e, q⟩
  cases vx with
  | int i =>
    simp only [Option.some.injEq] at e
    subst e
    exact un_neg pins s σ H _ v Q I rx ⟨i, rfl, q.here R (.int _)⟩
  | _ => cases e
theorem at_rv {K : PySem.W.Frag} {μ : List Addr} {H : Hp} {ds : List D} {vs : List V} {i : Int} {d : D} (r : RVs K μ H ds vs) (e : atD ds i = some d) : ∃ v, atI vs i = some v ∧ RV K μ H d v := by
  simp only [atD, Option.bind_eq_some_iff] at e
  obtain ⟨j, h1, h2⟩ := e
  obtain ⟨v, h3, h4⟩ := r.get h2
  refine ⟨v, ?_, h4⟩
  unfold atI
  rw [← r.length]
  show (ixAt ds.length i).bind _ = _
  rw [h1]
  exact h3
theorem ix_all (hu : X.A.units + 400 < cLine) : IxR X (rV2 X.K T idxD) := by
  intro value slice pins s σ H x y v u Q I rx ry ⟨μ, h, dx, dy, r, R, vx, vy, e, q⟩ hs
  have ls : ∀ {a : Addr} {ds : List D} {vs : List V} {k : Int}, SqL X.K H a vs → RVs X.K μ H ds vs → x = .ref a → y = .int k → ((atD ds k).map fun d => (d, h)) = some r → wpAny (model X.prog X.w) X.A (subscriptTail value slice v u) (EP X pins σ Q) X.xe s := by
    intro a ds vs k hq rs ex ey e
    simp only [Option.map_eq_some_iff] at e
    obtain ⟨d, h1, rfl⟩ := e
    obtain ⟨w, h2, h3⟩ := at_rv rs h1
    subst ex ey
    exact ix_list value slice pins s σ H _ _ v u Q I rx ry ⟨a, vs, k, w, rfl, rfl, hq, h2, q.here R h3⟩ hs
  cases vx with
  | tup ht rs =>
    cases vy with
    | int k =>
      simp only [idxD, Option.map_eq_some_iff] at e
      obtain ⟨d, h1, rfl⟩ := e
      obtain ⟨w, h2, h3⟩ := at_rv rs h1
      exact ix_tup value slice pins s σ H _ _ v u Q I rx ry ⟨_, _, k, w, rfl, rfl, ht, h2, q.here R h3⟩ hs
    | _ => simp [idxD] at e
  | str z =>
    cases vy with
    | int k =>
      simp only [idxD, Option.ite_none_right_eq_some, Option.map_eq_some_iff] at e
      obtain ⟨hz, c, h1, rfl⟩ := e
      refine ix_str value slice pins s σ H _ _ v u Q I rx ry ⟨z, k, c, rfl, rfl, by rw [← big_eq]; exact hz, ?_, q.here R (.str _)⟩ hs
      unfold atI
      show (ixAt z.cps.toList.length k).bind _ = _
      rw [Array.length_toList, ← h1]
      simp
    | _ => simp [idxD] at e
  | ref ea =>
    rename_i n a
    simp only [idxD] at e
    split at e
    · rename_i ds k hn
      obtain ⟨vs, o, rs⟩ := R.of ea hn
      cases vy
      exact ls (.of o) rs rfl rfl e
    · rename_i ds k hn
      obtain ⟨vs, o, rs⟩ := R.of ea hn
      cases vy
      exact ls o.sq rs rfl rfl e
    · rename_i kvs hn
      simp only [Option.ite_none_right_eq_some, Option.map_eq_some_iff] at e
      obtain ⟨hk, d, h1, rfl⟩ := e
      obtain ⟨k, ek⟩ := key_some hk
      obtain ⟨ks, o, rs⟩ := R.of ea hn
      have ex := keyOf_kV vy ek
      subst ex
      obtain ⟨w, h2, h3⟩ := (kFind_val ek rs).1 d h1
      cases rx
      have g : DGet H a (kV k) (some w) := h2 ▸ DGet.k o
      have hdt := dict_typeIs I g
      exact tail_any hdt PySem.F.slot_dict_getitem.lookup (d_getItem (by omega) I g ry fun w' s' I' rw' => ⟨w, H, I', rw', q.here R h3⟩) hs
    · cases e
  | _ => simp [idxD] at e
theorem clip_eq (n d : Nat) (o : Option Int) : clip n d o = HT.sIx n d o := by
  cases o with
  | none => rfl
  | some i =>
    unfold clip HT.sIx
    by_cases c : 0 ≤ i
    · simp only [if_pos c, if_neg (by omega : ¬ i < 0)]
    · simp only [if_neg c, if_pos (by omega : i < 0)]
theorem cut_rv {K : PySem.W.Frag} {μ : List Addr} {H : Hp} {ds : List D} {vs : List V} (r : RVs K μ H ds vs) (lo hi : Option Int) : RVs K μ H (cut ds lo hi) (cutV vs lo hi) := by
  unfold cut cutV
  rw [clip_eq, clip_eq, ← r.length]
  exact (r.drop _).take _
theorem sl_all : SlR X (fun x lo hi H Q => rV1 X.K T (fun d h => slcD d lo hi h) x H Q) := by
  intro pins s σ H x v vl vu lo hi sl Q I rx hs pl pu ⟨μ, h, dx, r, R, vx, e, q⟩
  cases vx with
  | tup ht rs =>
    simp only [slcD, Option.some.injEq] at e
    subst e
    refine sl_tupA pins s σ H _ v vl vu lo hi sl Q I rx hs pl pu ⟨_, _, rfl, ht, fun hw => ?_, fun _ => q.newT R (cut_rv rs lo hi)⟩
    refine q.here R (.tup ht ?_)
    have c := cut_rv rs lo hi
    unfold cutV at c
    rw [hw.1, hw.2] at c
    simpa using c
  | str z =>
    simp only [slcD, Option.ite_none_right_eq_some, Option.some.injEq] at e
    obtain ⟨hz, rfl⟩ := e
    refine sl_str pins s σ H _ v vl vu lo hi sl Q I rx hs pl pu ⟨z, rfl, by rw [← big_eq]; exact hz, ?_⟩
    have hc : cutS z lo hi = ⟨(cut z.cps.toList lo hi).toArray⟩ := by
      unfold cutS cut
      rw [clip_eq, clip_eq, Array.length_toList]
      rfl
    rw [hc]
    exact q.here R (.str _)
  | ref ea =>
    simp only [slcD] at e
    split at e
    · rename_i ds hn
      obtain ⟨vs, o, rs⟩ := R.of ea hn
      simp only [hnew, Option.some.injEq] at e
      subst e
      exact sl_list pins s σ H _ v vl vu lo hi sl Q I rx hs pl pu ⟨_, vs, rfl, .of o, q.newL R (cut_rv rs lo hi)⟩
    · rename_i ds hn
      obtain ⟨vs, o, rs⟩ := R.of ea hn
      simp only [hnew, Option.some.injEq] at e
      subst e
      exact sl_list pins s σ H _ v vl vu lo hi sl Q I rx hs pl pu ⟨_, vs, rfl, o.sq, q.newL R (cut_rv rs lo hi)⟩
    · cases e
  | _ => simp [slcD] at e
def rV3 (K : PySem.W.Frag) (T : List Addr) : TSet := fun o i v H Q => ∃ μ h d k x h', HR K T μ h H ∧ RV K μ H d o ∧ RV K μ H k i ∧ RV K μ H x v ∧ setIx d k x h = some h' ∧
  ∀ H', TK K H H' → HR K T μ h' H' → Q H'
theorem set_all (hu : X.A.units + 400 < cLine) : PSet X (rV3 X.K T) := by
  intro pins s σ H o i v ov iv u Q I ro ri rv ⟨μ, h, d, k, x, h', R, vo, vi, vv, e, q⟩
  cases vo with
  | ref ea =>
    rename_i n a
    simp only [setIx] at e
    split at e
    · rename_i ds j hn
      simp only [Option.map_eq_some_iff] at e
      obtain ⟨m, hm, rfl⟩ := e
      obtain ⟨vs, ob, rs⟩ := R.of ea hn
      cases vi
      have w : Wr H a := ⟨_, ob, .inl ⟨_, rfl⟩⟩
      refine set_list pins s σ H _ _ v ov iv u Q I ro ri rv ⟨a, vs, j, m, rfl, rfl, ob, by rw [← rs.length]; exact hm, q _ (TK.updW w) (R.set ea hn rfl rfl ⟨_, upd_same, ?_⟩)⟩
      exact (rs.mono (List.prefix_refl _) (TK.updW w)).set (vv.mono (List.prefix_refl _) (TK.updW w)) m
    · rename_i kvs hn
      simp only [Option.ite_none_right_eq_some, Bool.and_eq_true, decide_eq_true_eq, Option.some.injEq] at e
      obtain ⟨⟨hk, hl⟩, rfl⟩ := e
      obtain ⟨kk, ek⟩ := key_some hk
      obtain ⟨ks, ob, rs⟩ := R.of ea hn
      have ex := keyOf_kV vi ek
      subst ex
      have w : Wr H a := ⟨_, ob, .inr ⟨_, rfl⟩⟩
      have ll := rs.length
      refine set_dict (by omega) pins s σ H _ _ v ov iv u Q I ro ri rv ⟨a, _, rfl, DPut.k ob (by rw [← big_eq]; omega), q _ (TK.updW w) (R.set ea hn rfl rfl ⟨_, upd_same, ?_⟩)⟩
      exact (rs.mono (List.prefix_refl _) (TK.updW w)).put ek (vv.mono (List.prefix_refl _) (TK.updW w))
    · cases e
  | _ => simp [setIx] at e
end
end MP
namespace MP
open PySem PySem.Spec PyProof.Rows L2
section
variable {X : Cx} {T : List Addr}
theorem len_all : CallR X (.builtin "len") (rVs X.K T (bltD .len)) := by
  intro pins s σ H xs us Q I rx ⟨μ, h, ds, r, R, vs, e, q⟩
  have one : ∀ {x : V} {n : Nat}, xs = [x] → LenV X.K x H n → r = (.int n, h) → wpAny (model X.prog X.w) X.A (call (.builtin "len") us) (EP X pins σ Q) X.xe s := by
    intro x n ex l er
    subst ex er
    exact call_len pins s σ H _ us Q I rx ⟨x, n, rfl, l, q.here R (.int _)⟩
  cases vs with
  | nil => simp [bltD] at e
  | cons v1 v2 =>
    cases v2 with
    | cons _ _ => cases v1 <;> simp [bltD] at e
    | nil =>
      cases v1 with
      | str z =>
        simp only [bltD, Option.ite_none_right_eq_some, Option.some.injEq] at e
        exact one (n := z.cps.size) rfl ⟨by rw [← big_eq]; exact e.1, rfl⟩ e.2.symm
      | tup ht rs =>
        simp only [bltD, Option.some.injEq] at e
        exact one rfl (.inr ⟨_, ht, rfl⟩) (by rw [← rs.length]; exact e.symm)
      | ref ea =>
        simp only [bltD] at e
        split at e
        · rename_i ds hn
          obtain ⟨ws, o, rs⟩ := R.of ea hn
          simp only [Option.some.injEq] at e
          exact one rfl (.inl ⟨ws, .of o, rfl⟩) (by rw [← rs.length]; exact e.symm)
        · rename_i ds hn
          obtain ⟨ws, o, rs⟩ := R.of ea hn
          simp only [Option.some.injEq] at e
          exact one rfl (.inl ⟨ws, o.sq, rfl⟩) (by rw [← rs.length]; exact e.symm)
        · rename_i kvs hn
          obtain ⟨ks, o, rs⟩ := R.of ea hn
          simp only [Option.some.injEq] at e
          subst e
          rw [rs.length] at q
          exact call_lenD pins s σ H _ us Q I rx ⟨_, ks, rfl, o, q.here R (.int _)⟩
        · cases e
      | _ => simp [bltD] at e
theorem int_all : CallR X (.type "int") (rVs X.K T (bltD .int)) := by
  intro pins s σ H xs us Q I rx ⟨μ, h, ds, r, R, vs, e, q⟩
  cases vs with
  | nil => simp [bltD] at e
  | cons v1 v2 =>
    cases v2 with
    | cons _ _ => cases v1 <;> simp [bltD] at e
    | nil =>
      cases v1 with
      | int i =>
        simp only [bltD, Option.some.injEq] at e
        subst e
        exact call_int1 pins s σ H _ us Q I rx (.inl ⟨i, rfl, q.here R (.int _)⟩)
      | bl b =>
        simp only [bltD, Option.some.injEq] at e
        subst e
        exact call_int1 pins s σ H _ us Q I rx (.inr ⟨b, rfl, q.here R (.int _)⟩)
      | _ => simp [bltD] at e
theorem str_all : CallR X (.type "str") (rVs X.K T (bltD .str)) := by
  intro pins s σ H xs us Q I rx ⟨μ, h, ds, r, R, vs, e, q⟩
  cases vs with
  | nil => simp [bltD] at e
  | cons v1 v2 =>
    cases v2 with
    | cons _ _ => cases v1 <;> simp [bltD] at e
    | nil =>
      cases v1 with
      | int i =>
        simp only [bltD, Option.ite_none_right_eq_some, Option.some.injEq] at e
        obtain ⟨hl, rfl⟩ := e
        exact call_str_int pins s σ H _ us Q I rx ⟨i, rfl, hl, q.here R (.str _)⟩
      | _ => simp [bltD] at e
theorem signs_rv {K : PySem.W.Frag} {μ : List Addr} {H : Hp} (z : Str) : RVs K μ H (signs z) (z.cps.toList.map fun c => V.str ⟨#[c]⟩) := RVs.strs
theorem list_all (hc : X.calm = true) : CallR X (.type "list") (rVs X.K T (bltD .list)) := by
  intro pins s σ H xs us Q I rx ⟨μ, h, ds, r, R, vs, e, q⟩
  cases vs with
  | nil => simp [bltD] at e
  | cons v1 v2 =>
    cases v2 with
    | cons _ _ => cases v1 <;> simp [bltD] at e
    | nil =>
      cases v1 with
      | str z =>
        simp only [bltD, Option.ite_none_right_eq_some, hnew, Option.some.injEq] at e
        obtain ⟨hz, rfl⟩ := e
        obtain ⟨u, rfl, t, rfl⟩ := rx.one
        refine PySem.call_list_str (I.ok.hd hc) z t (hn := by rw [← big_eq]; exact hz) fun h' tk acc c' hk e hi => ?_
        refine ⟨.ref s.heap.objs.size, upd H s.heap.objs.size (.lst (z.cps.toList.map fun c => V.str ⟨#[c]⟩)), I.laid hk (Nat.le_refl _) ⟨?_, acc.toList, c', ?_, by rw [Array.toArray_toList]; exact e⟩, rfl, q.newL R (signs_rv z) _ (I.hok.fresh (Nat.le_refl _))⟩
        · rw [List.length_map, Array.length_toList, ← big_eq]; exact hz
        · refine vals_of_idx _ _ (by rw [List.length_map, Array.length_toList, Array.length_toList]; exact hi.1) fun j u hj => ?_
          obtain ⟨c, t', hc, rfl⟩ := hi.2 j u (by rw [← Array.getElem?_toList]; exact hj)
          exact ⟨.str ⟨#[c]⟩, by simp [hc], ⟨_, rfl⟩⟩
      | tup ht rs =>
        simp only [bltD, hnew, Option.some.injEq] at e
        subst e
        exact call_list_of pins s σ H _ us Q I rx ⟨_, _, rfl, .inr ht, q.newL R rs⟩
      | ref ea =>
        simp only [bltD] at e
        split at e
        · rename_i ds hn
          obtain ⟨ws, o, rs⟩ := R.of ea hn
          simp only [hnew, Option.some.injEq] at e
          subst e
          exact call_list_of pins s σ H _ us Q I rx ⟨_, _, rfl, .inl (.of o), q.newL R rs⟩
        · rename_i ds hn
          obtain ⟨ws, o, rs⟩ := R.of ea hn
          simp only [hnew, Option.some.injEq] at e
          subst e
          exact call_list_of pins s σ H _ us Q I rx ⟨_, _, rfl, .inl o.sq, q.newL R rs⟩
        · cases e
      | _ => simp [bltD] at e
theorem tuple_all : CallR X (.type "tuple") (rVs X.K T (bltD .tuple)) := by
  intro pins s σ H xs us Q I rx ⟨μ, h, ds, r, R, vs, e, q⟩
  cases vs with
  | nil => simp [bltD] at e
  | cons v1 v2 =>
    cases v2 with
    | cons _ _ => cases v1 <;> simp [bltD] at e
    | nil =>
      cases v1 with
      | tup ht rs =>
        simp only [bltD, Option.some.injEq] at e
        subst e
        exact call_tuple_of pins s σ H _ us Q I rx ⟨_, _, rfl, .inr ⟨ht, q.here R (.tup ht rs)⟩⟩
      | ref ea =>
        simp only [bltD] at e
        split at e
        · rename_i ds hn
          obtain ⟨ws, o, rs⟩ := R.of ea hn
          simp only [Option.some.injEq] at e
          subst e
          exact call_tuple_of pins s σ H _ us Q I rx ⟨_, _, rfl, .inl ⟨.of o, q.newT R rs⟩⟩
        · rename_i ds hn
          obtain ⟨ws, o, rs⟩ := R.of ea hn
          simp only [Option.some.injEq] at e
          subst e
          exact call_tuple_of pins s σ H _ us Q I rx ⟨_, _, rfl, .inl ⟨o.sq, q.newT R rs⟩⟩
        · cases e
      | _ => simp [bltD] at e
def tyName : Ty → String
  | .int => "int" | .bool => "bool" | .str => "str" | .tup => "tuple" | .lst => "list" | .dic => "dict"
def rIs (K : PySem.W.Frag) (T : List Addr) (t : Ty) : List V → Hp → VK → Prop := fun xs H Q => ∃ x, xs = [x, .ty (tyName t)] ∧ rVs K T (bltD (.isi t)) [x] H Q
theorem tyX_tup {K : PySem.W.Frag} {H : Hp} {a : Addr} {xs : List V} (h : SqT K H a xs) : TyX K H (.ref a) (.type "tuple") := by
  rcases h with (h | ⟨o, h⟩) | ⟨o, _, _, h, hc, _⟩
  · exact .base (.tup h)
  · exact .fTuple h
  · exact .kTuple h hc
theorem tyX_lst {K : PySem.W.Frag} {H : Hp} {a : Addr} {xs : List V} (h : SqL K H a xs) : TyX K H (.ref a) (.type "list") := by
  rcases h with (h | ⟨o, h⟩) | ⟨o, _, _, h, hc, _⟩
  · exact .base (.lst h)
  · exact .base (.frz h)
  · exact .kList h hc
theorem isi_all (t : Ty) : CallR X (.builtin "isinstance") (rIs X.K T t) := by
  intro pins s σ H xs us Q I rx ⟨x, ex, μ, h, ds, r, R, vs, e, q⟩
  subst ex
  have fin : ∀ {n : String} {b : Bool}, TyX X.K H x (.type n) → kitB n (tyName t) = some b → r = (.bl b, h) → wpAny (model X.prog X.w) X.A (call (.builtin "isinstance") us) (EP X pins σ Q) X.xe s := by
    intro n b ty kb er
    subst er
    exact call_isi pins s σ H _ us Q I rx ⟨x, _, .type n, .type (tyName t), b, rfl, .ty _, ty, kit_ty kb, q.here R (.bl b)⟩
  cases vs with
  | cons v1 v2 =>
    cases v2 with
    | nil =>
      simp only [bltD, Option.map_eq_some_iff] at e
      obtain ⟨b, hb, er⟩ := e
      cases v1 with
      | non =>
        simp only [hasTy, Option.some.injEq] at hb; subst hb
        exact fin (.base .non) (by cases t <;> decide +kernel) er.symm
      | bl y =>
        simp only [hasTy, Option.some.injEq] at hb; subst hb
        exact fin (.base (.bl y)) (by cases t <;> decide +kernel) er.symm
      | int y =>
        simp only [hasTy, Option.some.injEq] at hb; subst hb
        exact fin (.base (.int y)) (by cases t <;> decide +kernel) er.symm
      | str y =>
        simp only [hasTy, Option.some.injEq] at hb; subst hb
        exact fin (.base (.str y)) (by cases t <;> decide +kernel) er.symm
      | tup ht rs =>
        simp only [hasTy, Option.some.injEq] at hb; subst hb
        exact fin (tyX_tup ht) (by cases t <;> decide +kernel) er.symm
      | ref ea =>
        simp only [hasTy] at hb
        split at hb
        · rename_i ds hn
          obtain ⟨ws, o, rs⟩ := R.of ea hn
          simp only [Option.some.injEq] at hb; subst hb
          exact fin (.base (.lst o)) (by cases t <;> decide +kernel) er.symm
        · rename_i ds hn
          obtain ⟨ws, o, rs⟩ := R.of ea hn
          simp only [Option.some.injEq] at hb; subst hb
          exact fin (tyX_lst o.sq) (by cases t <;> decide +kernel) er.symm
        · rename_i ds hn
          obtain ⟨ws, o, rs⟩ := R.of ea hn
          simp only [Option.some.injEq] at hb; subst hb
          exact fin (.base (.dK o)) (by cases t <;> decide +kernel) er.symm
        · cases hb
def mtId : Mth → String × String × String
  | .append => ("list", "append", "list.append") | .extend => ("list", "extend", "list.extend") | .pop => ("list", "pop", "list.pop") | .get => ("dict", "get", "dict.get")
theorem mt_all (hu : X.A.units + 400 < cLine) (m : Mth) : MtR X (mtId m).2.2 (rVm X.K T (mthD m)) := by
  intro pins s σ H x xs v us Q I rx rxs ⟨μ, h, d, ds, r, R, vx, vs, e, q⟩
  cases vx with
  | ref ea =>
    rename_i n a
    cases m with
    | append =>
      cases vs with
      | nil => simp [mthD] at e
      | cons v1 v2 =>
        cases v2 with
        | cons _ _ => simp [mthD] at e
        | nil =>
          simp only [mthD] at e
          split at e
          · rename_i es hn
            simp only [Option.ite_none_right_eq_some, Option.some.injEq] at e
            obtain ⟨hl, rfl⟩ := e
            obtain ⟨ws, o, rs⟩ := R.of ea hn
            have w : Wr H a := ⟨_, o, .inl ⟨_, rfl⟩⟩
            have p := List.prefix_refl μ
            refine mt_append pins s σ H _ _ v us Q I rx rxs ⟨a, ws, _, rfl, rfl, o, by rw [← big_eq, ← rs.length]; exact hl, q μ _ _ p (TK.updW w) (R.set ea hn rfl rfl ⟨_, upd_same, ?_⟩) .non⟩
            exact (rs.mono p (TK.updW w)).append (.cons (v1.mono p (TK.updW w)) .nil)
          · cases e
    | extend =>
      cases vs with
      | nil => simp [mthD] at e
      | cons v1 v2 =>
        cases v2 with
        | cons _ _ => cases v1 <;> simp [mthD] at e
        | nil =>
          cases v1 with
          | ref eb =>
            rename_i m b
            simp only [mthD] at e
            split at e
            · rename_i es fs hn hm
              simp only [Option.ite_none_right_eq_some, Option.some.injEq] at e
              obtain ⟨hl, rfl⟩ := e
              obtain ⟨ws, o, rs⟩ := R.of ea hn
              obtain ⟨ws2, o2, rs2⟩ := R.of eb hm
              have w : Wr H a := ⟨_, o, .inl ⟨_, rfl⟩⟩
              have p := List.prefix_refl μ
              refine mt_extend pins s σ H _ _ v us Q I rx rxs ⟨a, b, ws, ws2, rfl, rfl, o, o2, by rw [← big_eq, ← rs.length, ← rs2.length]; exact hl, q μ _ _ p (TK.updW w) (R.set ea hn rfl rfl ⟨_, upd_same, ?_⟩) .non⟩
              exact (rs.mono p (TK.updW w)).append (rs2.mono p (TK.updW w))
            · cases e
          | _ => simp [mthD] at e
    | pop =>
      cases vs with
      | cons _ _ => simp [mthD] at e
      | nil =>
        simp only [mthD] at e
        split at e
        · rename_i es hn
          obtain ⟨ws, o, rs⟩ := R.of ea hn
          split at e
          · rename_i y hy
            simp only [Option.some.injEq] at e
            subst e
            have w : Wr H a := ⟨_, o, .inl ⟨_, rfl⟩⟩
            have p := List.prefix_refl μ
            rw [List.getLast?_eq_getElem?] at hy
            obtain ⟨z, hz, rz⟩ := rs.get hy
            refine mt_pop pins s σ H _ _ v us Q I rx rxs ⟨a, ws, z, rfl, rfl, o, by rw [← rs.length]; exact hz, q μ _ _ p (TK.updW w) (R.set ea hn rfl rfl ⟨_, upd_same, ?_⟩) (rz.mono p (TK.updW w))⟩
            exact rs.dropLast.mono p (TK.updW w)
          · cases e
        · cases e
    | get =>
      cases rx
      cases vs with
      | nil => simp [mthD] at e
      | cons v1 v2 =>
        cases v2 with
        | nil =>
          simp only [mthD] at e
          split at e
          · rename_i kvs hn
            simp only [Option.ite_none_right_eq_some, Option.some.injEq] at e
            obtain ⟨hk, rfl⟩ := e
            obtain ⟨k, ek⟩ := key_some hk
            obtain ⟨ks, o, rs⟩ := R.of ea hn
            have ex := keyOf_kV v1 ek
            subst ex
            obtain ⟨u1, rfl, ru⟩ := rxs.one
            refine d_get1 (by omega) I (.k o) ru fun w' s' I' rw' => ⟨_, H, I', rw', q.here R ?_⟩
            obtain ⟨h1, h2⟩ := kFind_val ek rs
            cases c : kFind kvs _ with
            | none => rw [h2 c]; exact .non
            | some y => obtain ⟨w, h3, h4⟩ := h1 y c; rw [h3]; exact h4
          · cases e
        | cons v3 v4 =>
          cases v4 with
          | cons _ _ => simp [mthD] at e
          | nil =>
            simp only [mthD] at e
            split at e
            · rename_i kvs hn
              simp only [Option.ite_none_right_eq_some, Option.some.injEq] at e
              obtain ⟨hk, rfl⟩ := e
              obtain ⟨k, ek⟩ := key_some hk
              obtain ⟨ks, o, rs⟩ := R.of ea hn
              have ex := keyOf_kV v1 ek
              subst ex
              obtain ⟨u1, u2, rfl, ru, ru2⟩ := rxs.two
              refine d_get2 (by omega) I (.k o) ru ru2 fun w' s' I' rw' => ⟨_, H, I', rw', q.here R ?_⟩
              obtain ⟨h1, h2⟩ := kFind_val ek rs
              cases c : kFind kvs _ with
              | none => rw [h2 c]; exact v3
              | some y => obtain ⟨w, h3, h4⟩ := h1 y c; rw [h3]; exact h4
            · cases e
  | _ => cases m <;> simp [mthD] at e
theorem tyV_of {K : PySem.W.Frag} {μ : List Addr} {h : HI} {H : Hp} {m : Mth} {d : D} {v : V} (R : HR K T μ h H) (rv : RV K μ H d v) (e : recv m d h = true) : tyV K (mtId m).1 v H := by
  cases rv with
  | ref ea =>
    rename_i n a
    cases m with
    | get =>
      simp only [recv] at e
      split at e
      · rename_i hn
        obtain ⟨vs, q, _⟩ := R.of ea hn
        exact .inr (.inr (.inl ⟨rfl, .inl ⟨vs, q⟩⟩))
      · cases e
    | _ =>
      simp only [recv] at e
      split at e
      · rename_i hn
        obtain ⟨vs, q, _⟩ := R.of ea hn
        exact .inl ⟨rfl, vs, .of q⟩
      · cases e
  | _ => cases m <;> simp [recv] at e
end
end MP
namespace MP
open PySem PySem.Spec PyProof.Rows L2
def SR (K : PySem.W.Frag) (μ : List Addr) (H : Hp) (σd : MP.St) (σ : L2.St) : Prop := σd.length = σ.length ∧ ∀ (i : Nat) (d : D), σd[i]? = some (some d) → ∃ v : V, σ[i]? = some (some v) ∧ RV K μ H d v
section
variable (K : PySem.W.Frag) (T : List Addr)
def OkL (μ : List Addr) (H : Hp) (r : List D × HI) (Q : List V → Hp → Prop) : Prop := ∀ μ' H' vs, μ <+: μ' → TK K H H' → HR K T μ' r.2 H' → RVs K μ' H' r.1 vs → Q vs H'
def OkB (μ : List Addr) (H : Hp) (r : Bool × HI) (Q : Bool → Hp → Prop) : Prop := ∀ μ' H', μ <+: μ' → TK K H H' → HR K T μ' r.2 H' → Q r.1 H'
def tI (ev : MP.St → HI → Rz) : TE := fun σ H Q => ∃ μ h σd r, HR K T μ h H ∧ SR K μ H σd σ ∧ ev σd h = some r ∧ Ok1 K T μ H r Q
def tL (ev : MP.St → HI → Option (List D × HI)) : TA := fun σ H Q => ∃ μ h σd r, HR K T μ h H ∧ SR K μ H σd σ ∧ ev σd h = some r ∧ OkL K T μ H r Q
def tBl (ev : MP.St → HI → Option (Bool × HI)) : TT := fun σ H Q => ∃ μ h σd r, HR K T μ h H ∧ SR K μ H σd σ ∧ ev σd h = some r ∧ OkB K T μ H r Q
end
section
variable {K : PySem.W.Frag} {T : List Addr} {μ μ' : List Addr} {H H' : Hp} {σd : MP.St} {σ : L2.St}
theorem SR.mono (s : SR K μ H σd σ) (p : μ <+: μ') (t : TK K H H') : SR K μ' H' σd σ := ⟨s.1, fun i d e => by
  obtain ⟨v, h1, h2⟩ := s.2 i d e
  exact ⟨v, h1, h2.mono p t⟩⟩
theorem SR.set (s : SR K μ H σd σ) (i : Nat) {d : D} {v : V} (r : RV K μ H d v) : SR K μ H (σd.set i (some d)) (σ.set i (some v)) := by
  refine ⟨by rw [List.length_set, List.length_set]; exact s.1, fun j x e => ?_⟩
  by_cases z : i = j
  · subst z
    by_cases hl : i < σd.length
    · rw [List.getElem?_set_self hl] at e
      cases e
      exact ⟨v, by rw [List.getElem?_set_self (by rw [← s.1]; exact hl)], r⟩
    · rw [List.getElem?_eq_none (by simpa using hl)] at e; cases e
  · rw [List.getElem?_set_ne z] at e ⊢
    exact s.2 j x e
theorem SR.unset (s : SR K μ H σd σ) (i : Nat) : SR K μ H (σd.set i none) (σ.set i none) := by
  refine ⟨by rw [List.length_set, List.length_set]; exact s.1, fun j x e => ?_⟩
  by_cases z : i = j
  · subst z
    by_cases hl : i < σd.length
    · rw [List.getElem?_set_self hl] at e
      cases e
    · rw [List.getElem?_eq_none (by simpa using hl)] at e; cases e
  · rw [List.getElem?_set_ne z] at e ⊢
    exact s.2 j x e
theorem SR.wipe (s : SR K μ H σd σ) : ∀ vs : List Nat, SR K μ H (wipeD σd vs) (L2.wipe σ vs)
  | [] => s
  | v :: vs => (SR.wipe s vs).unset v
theorem Ok1.later {μ1 : List Addr} {H1 : Hp} {r : D × HI} {Q : VK} (q : Ok1 K T μ H r Q) (p : μ <+: μ1) (t : TK K H H1) : Ok1 K T μ1 H1 r Q := fun μ' H' v p' t' R rv => q μ' H' v (p.trans p') (t.trans t') R rv
theorem OkL.later {μ1 : List Addr} {H1 : Hp} {r : List D × HI} {Q : List V → Hp → Prop} (q : OkL K T μ H r Q) (p : μ <+: μ1) (t : TK K H H1) : OkL K T μ1 H1 r Q := fun μ' H' v p' t' R rv => q μ' H' v (p.trans p') (t.trans t') R rv
theorem OkB.later {μ1 : List Addr} {H1 : Hp} {r : Bool × HI} {Q : Bool → Hp → Prop} (q : OkB K T μ H r Q) (p : μ <+: μ1) (t : TK K H H1) : OkB K T μ1 H1 r Q := fun μ' H' p' t' R => q μ' H' (p.trans p') (t.trans t') R
theorem OkL.here {h : HI} {ds : List D} {vs : List V} {Q : List V → Hp → Prop} (q : OkL K T μ H (ds, h) Q) (R : HR K T μ h H) (rv : RVs K μ H ds vs) : Q vs H := q μ H vs (List.prefix_refl _) TK.refl R rv
end
theorem _root_.L2.PE.imp {X : Cx} {e : Expr} {t t' : TE} (h : PE X e t) (i : ∀ σ H Q, t' σ H Q → t σ H Q) : PE X e t' := ⟨fun pins s σ H Q I q => h.run pins s σ H Q I (i _ _ _ q)⟩
theorem _root_.L2.PT.imp {X : Cx} {e : Expr} {t t' : TT} (h : PT X e t) (i : ∀ σ H Q, t' σ H Q → t σ H Q) : PT X e t' := ⟨fun pins s σ H Q I q => h.run pins s σ H Q I (i _ _ _ q)⟩
theorem _root_.L2.PW.imp {X : Cx} {e : Expr} {t t' : TT} (h : PW X e t) (i : ∀ σ H Q, t' σ H Q → t σ H Q) : PW X e t' := ⟨fun wh pins s σ H Q I q => h.run wh pins s σ H Q I (i _ _ _ q)⟩
theorem _root_.L2.PA.imp {X : Cx} {e : List Expr} {t t' : TA} (h : PA X e t) (i : ∀ σ H Q, t' σ H Q → t σ H Q) : PA X e t' := ⟨fun pos pins s σ H Q I q => h.run pos pins s σ H Q I (i _ _ _ q)⟩
theorem _root_.L2.PTs.imp {X : Cx} {e : List Expr} {t t' : TT} (h : PTs X e t) (i : ∀ σ H Q, t' σ H Q → t σ H Q) : PTs X e t' := ⟨fun pins s σ H Q I q => h.run pins s σ H Q I (i _ _ _ q)⟩
theorem _root_.L2.PS.imp {X : Cx} {e : Stmt} {t t' : TS} (h : PS X e t) (i : ∀ D σ H, t' D σ H → t D σ H) : PS X e t' := ⟨fun pins s σ H D I q => h.run pins s σ H D I (i _ _ _ q)⟩
theorem _root_.L2.PSs.imp {X : Cx} {e : List Stmt} {t t' : TS} (h : PSs X e t) (i : ∀ D σ H, t' D σ H → t D σ H) : PSs X e t' := ⟨fun pins s σ H D I q => h.run pins s σ H D I (i _ _ _ q)⟩
section
variable {K : PySem.W.Frag} {T : List Addr} {σ : L2.St} {H : Hp} {Q : VK}
theorem tI_ev {f g : MP.St → HI → Rz} (h : ∀ σ x, f σ x = g σ x) (q : tI K T f σ H Q) : tI K T g σ H Q := by
  obtain ⟨μ, h0, σd, r, R, S, e, o⟩ := q
  exact ⟨μ, h0, σd, r, R, S, by rw [← h]; exact e, o⟩
theorem tI_un {a : MP.St → HI → Rz} {g : D → HI → Rz} (q : tI K T (fun σ h => (a σ h).bind fun r => g r.1 r.2) σ H Q) : tI K T a σ H fun x H1 => rV1 K T g x H1 Q := by
  obtain ⟨μ, h, σd, r, R, S, e, o⟩ := q
  obtain ⟨ra, e1, e2⟩ := Option.bind_eq_some_iff.mp e
  exact ⟨μ, h, σd, ra, R, S, e1, fun μ1 H1 x p t R1 rx => ⟨μ1, ra.2, ra.1, r, R1, rx, e2, o.later p t⟩⟩
theorem tI_bin {a b : MP.St → HI → Rz} {g : D → D → HI → Rz} (q : tI K T (fun σ h => (a σ h).bind fun r => (b σ r.2).bind fun q => g r.1 q.1 q.2) σ H Q) :
    tI K T a σ H fun x H1 => tI K T b σ H1 fun y H2 => rV2 K T g x y H2 Q := by
  obtain ⟨μ, h, σd, r, R, S, e, o⟩ := q
  obtain ⟨ra, e1, e2⟩ := Option.bind_eq_some_iff.mp e
  obtain ⟨rb, e3, e4⟩ := Option.bind_eq_some_iff.mp e2
  exact ⟨μ, h, σd, ra, R, S, e1, fun μ1 H1 x p t R1 rx => ⟨μ1, ra.2, σd, rb, R1, S.mono p t, e3, fun μ2 H2 y p2 t2 R2 ry => ⟨μ2, rb.2, ra.1, rb.1, r, R2, rx.mono p2 t2, ry, e4, (o.later p t).later p2 t2⟩⟩⟩
theorem tI_fn {a : MP.St → HI → Option (List D × HI)} {g : List D → HI → Rz} (q : tI K T (fun σ h => (a σ h).bind fun r => g r.1 r.2) σ H Q) : tL K T a σ H fun xs H1 => rVs K T g xs H1 Q := by
  obtain ⟨μ, h, σd, r, R, S, e, o⟩ := q
  obtain ⟨ra, e1, e2⟩ := Option.bind_eq_some_iff.mp e
  exact ⟨μ, h, σd, ra, R, S, e1, fun μ1 H1 x p t R1 rx => ⟨μ1, ra.2, ra.1, r, R1, rx, e2, o.later p t⟩⟩
theorem tL_nil {Q : List V → Hp → Prop} (q : tL K T (fun _ h => some ([], h)) σ H Q) : tNil σ H Q := by
  obtain ⟨μ, h, σd, r, R, S, e, o⟩ := q
  cases e
  exact o.here R .nil
theorem tL_cons {a : MP.St → HI → Rz} {b : MP.St → HI → Option (List D × HI)} {Q : List V → Hp → Prop} (q : tL K T (fun σ h => (a σ h).bind fun r => (b σ r.2).bind fun q => some (r.1 :: q.1, q.2)) σ H Q) : tCons (tI K T a) (tL K T b) σ H Q := by
  obtain ⟨μ, h, σd, r, R, S, e, o⟩ := q
  obtain ⟨ra, e1, e2⟩ := Option.bind_eq_some_iff.mp e
  obtain ⟨rb, e3, e4⟩ := Option.bind_eq_some_iff.mp e2
  cases e4
  exact ⟨μ, h, σd, ra, R, S, e1, fun μ1 H1 x p t R1 rx => ⟨μ1, ra.2, σd, rb, R1, S.mono p t, e3, fun μ2 H2 ys p2 t2 R2 ry => (o.later p t).later p2 t2 |>.here R2 (.cons (rx.mono p2 t2) ry)⟩⟩
theorem tI_mth {a : MP.St → HI → Rz} {b : MP.St → HI → Option (List D × HI)} {m : Mth} (q : tI K T (fun σ h => (a σ h).bind fun r => if recv m r.1 r.2 then (b σ r.2).bind fun q => mthD m r.1 q.1 q.2 else none) σ H Q) :
    tI K T a σ H fun x H1 => tyV K (mtId m).1 x H1 ∧ tL K T b σ H1 fun xs H2 => rVm K T (mthD m) x xs H2 Q := by
  obtain ⟨μ, h, σd, r, R, S, e, o⟩ := q
  obtain ⟨ra, e1, e2⟩ := Option.bind_eq_some_iff.mp e
  obtain ⟨hc, e2⟩ := Option.ite_none_right_eq_some.mp e2
  obtain ⟨rb, e3, e4⟩ := Option.bind_eq_some_iff.mp e2
  exact ⟨μ, h, σd, ra, R, S, e1, fun μ1 H1 x p t R1 rx => ⟨tyV_of R1 rx hc, μ1, ra.2, σd, rb, R1, S.mono p t, e3, fun μ2 H2 ys p2 t2 R2 ry => ⟨μ2, rb.2, ra.1, rb.1, r, R2, rx.mono p2 t2, ry, e4, (o.later p t).later p2 t2⟩⟩⟩
theorem tB_val {a : MP.St → HI → Rz} {Q : Bool → Hp → Prop} (q : tBl K T (fun σ h => (a σ h).bind fun r => (truth r.1 r.2).map fun b => (b, r.2)) σ H Q) : tI K T a σ H fun x H1 => ∃ k, TruV K x H1 k ∧ Q k H1 := by
  obtain ⟨μ, h, σd, r, R, S, e, o⟩ := q
  obtain ⟨ra, e1, e2⟩ := Option.bind_eq_some_iff.mp e
  obtain ⟨b, e3, rfl⟩ := Option.map_eq_some_iff.mp e2
  exact ⟨μ, h, σd, ra, R, S, e1, fun μ1 H1 x p t R1 rx => ⟨b, tru_of R1 rx e3, o μ1 H1 p t R1⟩⟩
end
section
variable {X : Cx} {a b : Expr} {rest : List Expr} {pos : Pos} {ta tb : TE}
def tAndX (K : PySem.W.Frag) (ta tb : TE) : TE := fun σ H Q => ta σ H fun x H1 => ∃ c, TruV K x H1 c ∧ if c = true then tb σ H1 Q else Q x H1
def tOrX (K : PySem.W.Frag) (ta tb : TE) : TE := fun σ H Q => ta σ H fun x H1 => ∃ c, TruV K x H1 c ∧ if c = true then Q x H1 else tb σ H1 Q
def tNotX (K : PySem.W.Frag) (ta : TE) : TE := fun σ H Q => ta σ H fun x H1 => ∃ c, TruV K x H1 c ∧ Q (.bl (!c)) H1
theorem pe_andX (ha : PE X a ta) (hb : PE X (.BoolOp .And (b :: rest) pos) tb) : PE X (.BoolOp .And (a :: b :: rest) pos) (tAndX X.K ta tb) := by
  refine ⟨fun pins s σ H Q I h => ?_⟩
  refine BoolOp_and (thn (ha.run pins s σ H _ I h) fun v s1 ⟨x, H1, I1, r1, c, tc, q1⟩ => ?_)
  refine thn (tru_ok pins s1 σ H1 x v (fun k H2 => H2 = H1 ∧ k = c) I1 r1 ⟨c, tc, rfl, rfl⟩) fun k s2 ⟨H2, I2, e, ek⟩ => ?_
  subst e ek
  cases k with
  | true => exact hb.run pins s2 σ H2 Q I2 q1
  | false => exact ⟨x, H2, I2, r1, q1⟩
theorem pe_orX (ha : PE X a ta) (hb : PE X (.BoolOp .Or (b :: rest) pos) tb) : PE X (.BoolOp .Or (a :: b :: rest) pos) (tOrX X.K ta tb) := by
  refine ⟨fun pins s σ H Q I h => ?_⟩
  refine BoolOp_or (thn (ha.run pins s σ H _ I h) fun v s1 ⟨x, H1, I1, r1, c, tc, q1⟩ => ?_)
  refine thn (tru_ok pins s1 σ H1 x v (fun k H2 => H2 = H1 ∧ k = c) I1 r1 ⟨c, tc, rfl, rfl⟩) fun k s2 ⟨H2, I2, e, ek⟩ => ?_
  subst e ek
  cases k with
  | false => exact hb.run pins s2 σ H2 Q I2 q1
  | true => exact ⟨x, H2, I2, r1, q1⟩
theorem pe_notX (ha : PE X a ta) : PE X (.UnaryOp .Not a pos) (tNotX X.K ta) := by
  refine ⟨fun pins s σ H Q I h => ?_⟩
  refine UnaryOp_ (thn (ha.run pins s σ H _ I h) fun v s1 ⟨x, H1, I1, r1, c, tc, q1⟩ => ?_)
  refine not_of (thn (tru_ok pins s1 σ H1 x v (fun k H2 => H2 = H1 ∧ k = c) I1 r1 ⟨c, tc, rfl, rfl⟩) fun k s2 ⟨H2, I2, e, ek⟩ => ?_)
  subst e ek
  exact ⟨.bl (!k), H2, I2, rfl, q1⟩
end
end MP
namespace MP
open PySem PySem.Spec PyProof.Rows L2
section
variable (K : PySem.W.Frag) (T : List Addr)
structure ItR (J : L2.It) (t : MP.It) (μ0 : List Addr) (H0 : Hp) : Prop where
  go : ∀ (μ : List Addr) (h : HI) (H : Hp) (i : Nat) (d : D), μ0 <+: μ → TK K H0 H → HR K T μ h H → t.nx i h = some d →
    J.go i H ∧ ∀ x H', J.yld i H x H' → RV K μ H' d x ∧ TK K H H' ∧ HR K T μ h H'
  stop : ∀ (μ : List Addr) (h : HI) (H : Hp), μ0 <+: μ → TK K H0 H → HR K T μ h H → t.fin h = true → J.stop t.len H
def tIt (ev : MP.St → HI → Option (MP.It × HI)) : TI := fun σ H R => ∃ μ h σd r, HR K T μ h H ∧ SR K μ H σd σ ∧ ev σd h = some r ∧
  ∀ μ' H' J, μ <+: μ' → TK K H H' → HR K T μ' r.2 H' → ItR K T J r.1 μ' H' → R J H'
end
section
variable {K : PySem.W.Frag} {T μ0 : List Addr} {H0 : Hp}
theorem itr_tup {a : Addr} {ds : List D} {vs : List V} (ht : SqT K H0 a vs) (rs : RVs K μ0 H0 ds vs) : ItR K T (Itt K a) (.seq ds) μ0 H0 where
  go := fun μ h H i d p t R e => by
    obtain ⟨v, h1, h2⟩ := (rs.mono p t).get (show ds[i]? = some d from e)
    have h3 := t _ _ ht
    refine ⟨⟨vs, v, h3, h1⟩, fun x H' y => ?_⟩
    obtain ⟨eH, y⟩ := y
    subst eH
    have := y vs h3
    rw [h1] at this
    cases this
    exact ⟨h2, TK.refl, R⟩
  stop := fun μ h H p t R _ => ⟨vs, t _ _ ht, by show vs.length ≤ ds.length; rw [rs.length]; exact Nat.le_refl _⟩
theorem itr_live {n : Nat} {a : Addr} {k : Nat} (ea : μ0[n]? = some a) : ItR K T (Itl K a) (.live n k) μ0 H0 where
  go := fun μ h H i d p t R e => by
    obtain ⟨ds, e1, e2⟩ := Option.bind_eq_some_iff.mp (show ((lstOf h (.ref n)).bind fun ds => ds[i]?) = some d from e)
    obtain ⟨vs, hs, rs⟩ := list_of R (pre_get p ea) e1
    obtain ⟨v, h1, h2⟩ := rs.get e2
    refine ⟨⟨vs, v, hs, h1⟩, fun x H' y => ?_⟩
    obtain ⟨eH, y⟩ := y
    subst eH
    have := y vs hs
    rw [h1] at this
    cases this
    exact ⟨h2, TK.refl, R⟩
  stop := fun μ h H p t R e => by
    have e : (match lstOf h (.ref n) with | some ds => decide (ds.length ≤ k) | none => false) = true := e
    split at e
    · rename_i ds e1
      obtain ⟨vs, hs, rs⟩ := list_of R (pre_get p ea) e1
      exact ⟨vs, hs, by rw [← rs.length]; exact of_decide_eq_true e⟩
    · cases e
theorem itr_str {z : Str} : ItR K T (Its z) (.seq (signs z)) μ0 H0 where
  go := fun μ h H i d p t R e => by
    have e : (signs z)[i]? = some d := e
    unfold signs at e
    rw [List.getElem?_map] at e
    obtain ⟨c, hc, rfl⟩ := Option.map_eq_some_iff.mp e
    rw [Array.getElem?_toList] at hc
    have hi : i < z.cps.size := by
      rcases Nat.lt_or_ge i z.cps.size with q | q
      · exact q
      · rw [Array.getElem?_eq_none q] at hc; cases hc
    refine ⟨hi, fun x H' y => ?_⟩
    obtain ⟨eH, c', hc', ex⟩ := y
    subst eH ex
    rw [hc] at hc'
    cases hc'
    exact ⟨.str _, TK.refl, R⟩
  stop := fun μ h H p t R _ => by
    show z.cps.size ≤ (signs z).length
    unfold signs
    simp
theorem itr_rng {i : Int} {n : Nat} : ItR K T (Itr i n) (.seq ((List.range n).map fun k => .int (i + (k : Nat)))) μ0 H0 where
  go := fun μ h H j d p t R e => by
    have e : ((List.range n).map fun k => D.int (i + (k : Nat)))[j]? = some d := e
    rw [List.getElem?_map] at e
    obtain ⟨c, hc, rfl⟩ := Option.map_eq_some_iff.mp e
    obtain ⟨hl, hv⟩ := List.getElem?_eq_some_iff.mp hc
    simp only [List.getElem_range] at hv
    subst hv
    simp only [List.length_range] at hl
    refine ⟨hl, fun x H' y => ?_⟩
    obtain ⟨eH, ex⟩ := y
    subst eH ex
    exact ⟨.int _, TK.refl, R⟩
  stop := fun μ h H p t R _ => by
    show n ≤ ((List.range n).map fun k => D.int (i + (k : Nat))).length
    simp
theorem itr_zipT {a b : Addr} {ds es : List D} {vs ws : List V} (ha : SqT K H0 a vs) (ra : RVs K μ0 H0 ds vs) (hb : SqT K H0 b ws) (rb : RVs K μ0 H0 es ws) : ItR K T (RZ.ItzT K a b) (.zip (.seq ds) (.seq es)) μ0 H0 where
  go := fun μ h H i d p t R e => by
    have e : (match ds[i]?, es[i]? with | some x, some y => some (D.tup [x, y]) | _, _ => none) = some d := e
    split at e
    · rename_i x y e1 e2
      cases e
      obtain ⟨v, h1, h2⟩ := (ra.mono p t).get e1
      obtain ⟨w, h3, h4⟩ := (rb.mono p t).get e2
      refine ⟨⟨vs, ws, v, w, t _ _ ha, t _ _ hb, h1, h3⟩, fun x H' y => ?_⟩
      obtain ⟨P, x1, y1, ex, hP, eH, q1, q2⟩ := y
      have z1 := q1 vs (t _ _ ha)
      have z2 := q2 ws (t _ _ hb)
      rw [h1] at z1
      rw [h3] at z2
      cases z1; cases z2
      subst ex eH
      refine ⟨.tup (.inl (.inl upd_same)) (.cons (h2.mono (List.prefix_refl _) (TK.newT hP)) (.cons (h4.mono (List.prefix_refl _) (TK.newT hP)) .nil)), TK.newT hP, R.tup hP⟩
    · cases e
  stop := fun μ h H p t R _ => by
    refine ⟨vs, ws, t _ _ ha, t _ _ hb, ?_⟩
    show vs.length ≤ min ds.length es.length ∨ ws.length ≤ min ds.length es.length
    have l1 := ra.length
    have l2 := rb.length
    omega
theorem itr_zipL {m n : Nat} {a b : Addr} {k l : Nat} (ea : μ0[m]? = some a) (eb : μ0[n]? = some b) : ItR K T (Itz K a b) (.zip (.live m k) (.live n l)) μ0 H0 where
  go := fun μ h H i d p t R e => by
    have e : (match ((lstOf h (.ref m)).bind fun ds => ds[i]?), ((lstOf h (.ref n)).bind fun ds => ds[i]?) with | some x, some y => some (D.tup [x, y]) | _, _ => none) = some d := e
    split at e
    · rename_i x y e1 e2
      cases e
      obtain ⟨ds, e1, e3⟩ := Option.bind_eq_some_iff.mp e1
      obtain ⟨es, e2, e4⟩ := Option.bind_eq_some_iff.mp e2
      obtain ⟨vs, hs, rs⟩ := list_of R (pre_get p ea) e1
      obtain ⟨ws, hs2, rs2⟩ := list_of R (pre_get p eb) e2
      obtain ⟨v, h1, h2⟩ := rs.get e3
      obtain ⟨w, h3, h4⟩ := rs2.get e4
      refine ⟨⟨vs, ws, v, w, hs, hs2, h1, h3⟩, fun x H' y => ?_⟩
      obtain ⟨P, x1, y1, ex, hP, eH, q1, q2⟩ := y
      have z1 := q1 vs hs
      have z2 := q2 ws hs2
      rw [h1] at z1
      rw [h3] at z2
      cases z1; cases z2
      subst ex eH
      refine ⟨.tup (.inl (.inl upd_same)) (.cons (h2.mono (List.prefix_refl _) (TK.newT hP)) (.cons (h4.mono (List.prefix_refl _) (TK.newT hP)) .nil)), TK.newT hP, R.tup hP⟩
    · cases e
  stop := fun μ h H p t R e => by
    have e : ((match lstOf h (.ref m) with | some ds => decide (ds.length ≤ k) | none => false) && (match lstOf h (.ref n) with | some ds => decide (ds.length ≤ l) | none => false)) = true := e
    rw [Bool.and_eq_true] at e
    obtain ⟨e1, e2⟩ := e
    split at e1
    · rename_i ds e3
      split at e2
      · rename_i es e4
        obtain ⟨vs, hs, rs⟩ := list_of R (pre_get p ea) e3
        obtain ⟨ws, hs2, rs2⟩ := list_of R (pre_get p eb) e4
        refine ⟨vs, ws, hs, hs2, ?_⟩
        show vs.length ≤ min k l ∨ ws.length ≤ min k l
        have l1 := rs.length
        have l2 := rs2.length
        have l3 := of_decide_eq_true e1
        have l4 := of_decide_eq_true e2
        omega
      · cases e2
    · cases e1
theorem itr_enm {n : Nat} {a : Addr} {k : Nat} (ea : μ0[n]? = some a) : ItR K T (Ite K a) (.enm (.live n k)) μ0 H0 where
  go := fun μ h H i d p t R e => by
    have e : (((lstOf h (.ref n)).bind fun ds => ds[i]?).map fun x => D.tup [.int i, x]) = some d := e
    obtain ⟨x, e1, rfl⟩ := Option.map_eq_some_iff.mp e
    obtain ⟨ds, e1, e3⟩ := Option.bind_eq_some_iff.mp e1
    obtain ⟨vs, hs, rs⟩ := list_of R (pre_get p ea) e1
    obtain ⟨v, h1, h2⟩ := rs.get e3
    refine ⟨⟨vs, v, hs, h1⟩, fun x H' y => ?_⟩
    obtain ⟨P, x1, ex, hP, eH, q1⟩ := y
    have z1 := q1 vs hs
    rw [h1] at z1
    cases z1
    subst ex eH
    exact ⟨.tup (.inl (.inl upd_same)) (.cons (.int _) (.cons (h2.mono (List.prefix_refl _) (TK.newT hP)) .nil)), TK.newT hP, R.tup hP⟩
  stop := fun μ h H p t R e => by
    have e : (match lstOf h (.ref n) with | some ds => decide (ds.length ≤ k) | none => false) = true := e
    split at e
    · rename_i ds e1
      obtain ⟨vs, hs, rs⟩ := list_of R (pre_get p ea) e1
      exact ⟨vs, hs, by rw [← rs.length]; exact of_decide_eq_true e⟩
    · cases e
end
section
variable {X : Cx} {T : List Addr} {tg e e2 : Expr} {es : List Expr} {a b : MP.St → HI → Rz} {l : MP.St → HI → Option (List D × HI)}
theorem pi_ex (he : PE X e (tI X.K T a)) : PI X tg e (tIt X.K T fun σ h => (a σ h).bind fun r => (itOf r.1 r.2).map fun t => (t, r.2)) := by
  refine ⟨fun pins s σ H Rr I ⟨μ, h, σd, r, R, S, e0, o⟩ => ?_⟩
  obtain ⟨ra, e1, e2⟩ := Option.bind_eq_some_iff.mp e0
  obtain ⟨t, e3, rfl⟩ := Option.map_eq_some_iff.mp e2
  obtain ⟨d, h1⟩ := ra
  cases d with
  | tup ds =>
    cases e3
    refine (pi_tup he).run pins s σ H Rr I ⟨μ, h, σd, _, R, S, e1, fun μ1 H1 x p t R1 rx => ?_⟩
    cases rx with
    | tup ht rs => exact ⟨_, rfl, ⟨_, ht⟩, o μ1 H1 _ p t R1 (itr_tup ht rs)⟩
  | str z =>
    simp only [itOf, Option.ite_none_right_eq_some, Option.some.injEq] at e3
    obtain ⟨_, rfl⟩ := e3
    refine (pi_str he).run pins s σ H Rr I ⟨μ, h, σd, _, R, S, e1, fun μ1 H1 x p t R1 rx => ?_⟩
    cases rx
    exact ⟨z, rfl, o μ1 H1 _ p t R1 itr_str⟩
  | ref n =>
    simp only [itOf, Option.map_eq_some_iff] at e3
    obtain ⟨ds, e4, rfl⟩ := e3
    refine (pi_list he).run pins s σ H Rr I ⟨μ, h, σd, _, R, S, e1, fun μ1 H1 x p t R1 rx => ?_⟩
    cases rx with
    | ref ea =>
      obtain ⟨vs, hs, _⟩ := list_of R1 ea e4
      exact ⟨_, rfl, ⟨vs, hs⟩, o μ1 H1 _ p t R1 (itr_live ea)⟩
  | _ => cases e3
theorem pi_rng1 {a1 : Expr} {p pos : Pos} (hg : Gl X "range") (hm : X.mg "range" = none) (ha : PA X [a1] (tL X.K T l)) (hs : starEach [a1] X.env = [(false, eval a1 X.env)]) (hl : ∀ σ h r, l σ h = some r → r.1.length = 1) :
    PI X tg (.Call (.Name "range" p) [a1] [] pos) (tIt X.K T fun σ h => (l σ h).bind fun r => (rngIt r.1).map fun t => (t, r.2)) := by
  refine ⟨fun pins s σ H Rr I ⟨μ, h, σd, r, R, S, e0, o⟩ => ?_⟩
  obtain ⟨ra, e1, e2⟩ := Option.bind_eq_some_iff.mp e0
  obtain ⟨t, e3, rfl⟩ := Option.map_eq_some_iff.mp e2
  refine (pi_range1 hg hm ha hs).run pins s σ H Rr I ⟨μ, h, σd, _, R, S, e1, fun μ1 H1 x p t R1 rx => ?_⟩
  have hl := hl _ _ _ e1
  obtain ⟨ds, h1⟩ := ra
  cases rx with
  | nil => cases hl
  | cons r1 r2 =>
    cases r2 with
    | cons _ _ => simp at hl
    | nil =>
      cases r1 with
      | int j =>
        simp only [rngIt, Option.ite_none_right_eq_some, Option.some.injEq] at e3
        obtain ⟨⟨c1, c2⟩, rfl⟩ := e3
        refine ⟨j, rfl, c1, c2, o μ1 H1 _ p t R1 ?_⟩
        have := itr_rng (K := X.K) (T := T) (μ0 := μ1) (H0 := H1) (i := 0) (n := j.toNat)
        simpa using this
      | _ => simp [rngIt] at e3
theorem pi_rng2 {a1 a2 : Expr} {p pos : Pos} (hg : Gl X "range") (hm : X.mg "range" = none) (ha : PA X [a1, a2] (tL X.K T l)) (hs : starEach [a1, a2] X.env = [(false, eval a1 X.env), (false, eval a2 X.env)]) (hs2 : starEach [a2] X.env = [(false, eval a2 X.env)]) (hl : ∀ σ h r, l σ h = some r → r.1.length = 2) :
    PI X tg (.Call (.Name "range" p) [a1, a2] [] pos) (tIt X.K T fun σ h => (l σ h).bind fun r => (rngIt r.1).map fun t => (t, r.2)) := by
  refine ⟨fun pins s σ H Rr I ⟨μ, h, σd, r, R, S, e0, o⟩ => ?_⟩
  obtain ⟨ra, e1, e2⟩ := Option.bind_eq_some_iff.mp e0
  obtain ⟨t, e3, rfl⟩ := Option.map_eq_some_iff.mp e2
  refine (pi_range2 hg hm ha hs hs2).run pins s σ H Rr I ⟨μ, h, σd, _, R, S, e1, fun μ1 H1 x p t R1 rx => ?_⟩
  have hl := hl _ _ _ e1
  obtain ⟨ds, h1⟩ := ra
  cases rx with
  | nil => cases hl
  | cons r1 r2 =>
    cases r2 with
    | nil => simp at hl
    | cons r2 r3 =>
      cases r3 with
      | cons _ _ => simp at hl
      | nil =>
        cases r1 with
        | int i =>
          cases r2 with
          | int j =>
            simp only [rngIt, Option.ite_none_right_eq_some, Option.some.injEq] at e3
            obtain ⟨c, rfl⟩ := e3
            exact ⟨i, j, rfl, c, o μ1 H1 _ p t R1 itr_rng⟩
          | _ => simp [rngIt] at e3
        | _ => simp [rngIt] at e3
theorem pi_zip' {elts : List Expr} {kk : Nat} {p pos tpos : Pos} (hg : Gl X "zip") (hm : X.mg "zip" = none) (ha : PE X e (tI X.K T a)) (hb : PE X e2 (tI X.K T b))
    (hs : starEach [e, e2] X.env = (false, eval e X.env) :: starEach [e2] X.env) (hs2 : starEach [e2] X.env = (false, eval e2 X.env) :: starEach [] X.env) (hpl : (backTo pos (starEach [e2] X.env)).any (·.1) = false) :
    PI X (.Tuple elts kk tpos) (.Call (.Name "zip" p) [e, e2] [] pos) (tIt X.K T fun σ h => (a σ h).bind fun r => (b σ r.2).bind fun q => (zipOf r.1 q.1 q.2).map fun t => (t, q.2)) := by
  refine ⟨fun pins s σ H Rr I ⟨μ, h, σd, r, R, S, e0, o⟩ => ?_⟩
  obtain ⟨ra, e1, e2⟩ := Option.bind_eq_some_iff.mp e0
  obtain ⟨rb, e3, e4⟩ := Option.bind_eq_some_iff.mp e2
  obtain ⟨t, e5, rfl⟩ := Option.map_eq_some_iff.mp e4
  refine (RZ.pi_zipA hg hm (pa_cons ha (pa_cons hb pa_nil hs2) hs) hs hpl).run pins s σ H Rr I ⟨μ, h, σd, ra, R, S, e1, fun μ1 H1 x p t R1 rx => ⟨μ1, ra.2, σd, rb, R1, S.mono p t, e3, fun μ2 H2 y p2 t2 R2 ry => ?_⟩⟩
  show ∃ a' b' xs ys, [x, y] = [V.ref a', V.ref b'] ∧ _
  have rx := rx.mono p2 t2
  obtain ⟨da, ha0⟩ := ra
  obtain ⟨db, hb0⟩ := rb
  cases da with
  | tup ds =>
    cases db with
    | tup es =>
      cases e5
      cases rx with
      | tup h1 r1 =>
        cases ry with
        | tup h2 r2 => exact ⟨_, _, _, _, rfl, .inr ⟨h1, h2, o μ2 H2 _ (p.trans p2) (t.trans t2) R2 (itr_zipT h1 r1 h2 r2)⟩⟩
    | _ => cases e5
  | ref m =>
    cases db with
    | ref n =>
      simp only [zipOf] at e5
      split at e5
      · rename_i ds es e6 e7
        cases e5
        cases rx with
        | ref ea =>
          cases ry with
          | ref eb =>
            obtain ⟨vs, h1, _⟩ := list_of R2 ea e6
            obtain ⟨ws, h2, _⟩ := list_of R2 eb e7
            exact ⟨_, _, _, _, rfl, .inl ⟨h1, h2, o μ2 H2 _ (p.trans p2) (t.trans t2) R2 (itr_zipL ea eb)⟩⟩
      · cases e5
    | _ => cases e5
  | _ => cases db <;> cases e5
theorem pi_enm' {elts : List Expr} {kk : Nat} {p pos tpos : Pos} (hg : Gl X "enumerate") (hm : X.mg "enumerate" = none) (ha : PE X e (tI X.K T a)) (hs : starEach [e] X.env = [(false, eval e X.env)]) :
    PI X (.Tuple elts kk tpos) (.Call (.Name "enumerate" p) [e] [] pos) (tIt X.K T fun σ h => (a σ h).bind fun r => (enmOf r.1 r.2).map fun t => (t, r.2)) := by
  refine ⟨fun pins s σ H Rr I ⟨μ, h, σd, r, R, S, e0, o⟩ => ?_⟩
  obtain ⟨ra, e1, e2⟩ := Option.bind_eq_some_iff.mp e0
  obtain ⟨t, e5, rfl⟩ := Option.map_eq_some_iff.mp e2
  refine (pi_enum hg hm (pa_cons ha pa_nil hs) hs).run pins s σ H Rr I ⟨μ, h, σd, ra, R, S, e1, fun μ1 H1 x p t R1 rx => ?_⟩
  show ∃ a' xs, [x] = [V.ref a'] ∧ _
  obtain ⟨da, ha0⟩ := ra
  cases da with
  | ref m =>
    simp only [enmOf, Option.map_eq_some_iff] at e5
    obtain ⟨ds, e6, rfl⟩ := e5
    cases rx with
    | ref ea =>
      obtain ⟨vs, h1, _⟩ := list_of R1 ea e6
      exact ⟨_, _, rfl, h1, o μ1 H1 _ p t R1 (itr_enm ea)⟩
  | _ => cases e5
end
end MP
namespace MP
open PySem PySem.Spec PyProof.Rows L2
mutual
def Tg.ix : Tg → List Nat
  | .nm i => [i]
  | .tp ts => ts.ix
def Tgs.ix : Tgs → List Nat
  | .nil => []
  | .cons t ts => t.ix ++ ts.ix
end
section
variable (K : PySem.W.Frag) (T : List Addr)
def tGd (t : Tg) : TG := fun x σ H Q => ∃ μ d σd σd', RV K μ H d x ∧ SR K μ H σd σ ∧ bind1 t d σd = some σd' ∧ ∀ σ', SR K μ H σd' σ' → (∀ vs, (∀ i ∈ t.ix, i ∈ vs) → wipe σ' vs = wipe σ vs) → Q σ' H
end
section
variable {K : PySem.W.Frag} {T : List Addr} {σ : L2.St} {H : Hp}
theorem wipe_set {i : Nat} {v : Option V} : ∀ {vs : List Nat} {σ : L2.St}, i ∈ vs → wipe (σ.set i v) vs = wipe σ vs
  | j :: vs, σ, h => by
    unfold wipe
    by_cases z : i = j
    · subst z
      by_cases hm : i ∈ vs
      · rw [wipe_set hm]
      · have : ∀ {us : List Nat} {τ : L2.St}, i ∉ us → wipe (τ.set i v) us = (wipe τ us).set i v := by
          intro us
          induction us with
          | nil => intro τ _; rfl
          | cons k us ih =>
            intro τ hk
            simp only [List.mem_cons, not_or] at hk
            unfold wipe
            rw [ih hk.2, List.set_comm _ _ hk.1]
        rw [this hm, List.set_set]
    · rw [wipe_set (by simpa [z] using h)]
theorem turn_of {ρ : Type} {t : Tg} {own : List Nat} {cnd : MP.St → HI → Rz} {EMf : MP.St → HI → Option ρ} {NOf : HI → Option ρ} {res : ρ} {μ : List Addr} {h : HI} {d : D} {x : V} {σd : MP.St} {TX : L2.St → Hp → Prop} {NX : Hp → Prop}
    (hix : ∀ i ∈ t.ix, i ∈ own) (R : HR K T μ h H) (rx : RV K μ H d x) (S : SR K μ H σd σ)
    (e : ((bind1 t d (wipeD σd own)).bind fun σ' => (cnd σ' h).bind fun q => match truth q.1 q.2 with | some true => EMf σ' q.2 | some false => NOf q.2 | none => none) = some res)
    (hEM : ∀ μ2 H2 h2 σd2 σ2, μ <+: μ2 → TK K H H2 → HR K T μ2 h2 H2 → SR K μ2 H2 σd2 σ2 → EMf σd2 h2 = some res → TX σ2 H2)
    (hNO : ∀ μ2 H2 h2, μ <+: μ2 → TK K H H2 → HR K T μ2 h2 H2 → NOf h2 = some res → NX H2) :
    tGd K t x (wipe σ own) H fun σ2 H2 => wipe σ2 own = wipe σ own ∧ tBl K T (fun σ h => (cnd σ h).bind fun r => (truth r.1 r.2).map fun b => (b, r.2)) σ2 H2 fun b H3 => if b = true then TX σ2 H3 else NX H3 := by
  obtain ⟨σd', e1, e2⟩ := Option.bind_eq_some_iff.mp e
  obtain ⟨q, e3, e4⟩ := Option.bind_eq_some_iff.mp e2
  refine ⟨μ, d, wipeD σd own, σd', rx, S.wipe own, e1, fun σ' S' hw => ⟨?_, ?_⟩⟩
  · rw [hw own hix]
    clear hw e e1 hix S' S
    have : ∀ {σ : L2.St} {vs : List Nat} {i : Nat}, i ∈ vs → (wipe σ vs).set i none = wipe σ vs := by
      intro σ vs i hm
      have hp : ∀ (i : Nat), i ∈ vs → ∀ x, (wipe σ vs)[i]? ≠ some (some x) := fun i hi x z => (wipe_some z).2 hi
      refine List.ext_getElem? fun j => ?_
      by_cases z : i = j
      · subst z
        by_cases hl : i < (wipe σ vs).length
        · rw [List.getElem?_set_self hl]
          cases c : (wipe σ vs)[i]? with
          | none => rw [List.getElem?_eq_none_iff] at c; omega
          | some y =>
            cases y with
            | none => rfl
            | some y => exact absurd c (hp i hm y)
        · rw [List.getElem?_eq_none (by simpa using hl), List.getElem?_eq_none (by omega)]
      · rw [List.getElem?_set_ne z]
    have h2 : ∀ (vs : List Nat), (∀ i ∈ vs, i ∈ own) → wipe (wipe σ own) vs = wipe σ own := by
      intro vs
      induction vs with
      | nil => intro _; rfl
      | cons i vs ih =>
        intro hv
        show (wipe (wipe σ own) vs).set i none = _
        rw [ih fun j hj => hv j (List.mem_cons_of_mem _ hj), this (hv i List.mem_cons_self)]
    exact h2 own fun _ z => z
  · cases c : truth q.1 q.2 with
    | none => rw [c] at e4; cases e4
    | some b =>
      rw [c] at e4
      refine ⟨μ, h, σd', (b, q.2), R, S', by show (cnd σd' h).bind _ = _; rw [e3]; show (truth q.1 q.2).map _ = _; rw [c]; rfl, fun μ2 H2 p t R2 => ?_⟩
      cases b with
      | true => exact hEM μ2 H2 q.2 σd' σ' p t R2 (S'.mono p t) e4
      | false => exact hNO μ2 H2 q.2 p t R2 e4
end
section
variable {K : PySem.W.Frag} {T : List Addr}
theorem loop_gen {α β κ : Type} {t : MP.It} {J : L2.It} {μ1 : List Addr} {H1 : Hp} {h0 : HI} {a0 : α} {k0 : κ} {body : D → α → HI → Option ((α ⊕ β) × HI)} {z : (α ⊕ β) × HI} (rel : κ → α → List Addr → HI → Hp → Prop)
    (IR : ItR K T J t μ1 H1) (e3 : loopN t.nx t.fin body t.len 0 a0 h0 = some z) (R1 : HR K T μ1 h0 H1) (r0 : rel k0 a0 μ1 h0 H1) :
    ∃ W : Nat → Nat → κ → Hp → Prop, (∃ m, W 0 m k0 H1) ∧ ∀ i m k H, W i m k H →
      (J.stop i H ∧ ∃ a μ h, z = (.inl a, h) ∧ μ1 <+: μ ∧ TK K H1 H ∧ HR K T μ h H ∧ rel k a μ h H) ∨
      (J.go i H ∧ ∃ Nx : κ → Hp → Prop, (∀ k' H', Nx k' H' → ∃ m', m' < m ∧ W (i + 1) m' k' H') ∧ ∀ x H', J.yld i H x H' → ∃ μ a h d res, μ1 <+: μ ∧ TK K H1 H' ∧ TK K H H' ∧ HR K T μ h H' ∧ rel k a μ h H ∧ RV K μ H' d x ∧ body d a h = some res ∧
        (∀ a' h' μ' H'' k', res = (.inl a', h') → μ <+: μ' → TK K H' H'' → HR K T μ' h' H'' → rel k' a' μ' h' H'' → Nx k' H'') ∧ ∀ b h', res = (.inr b, h') → z = (.inr b, h')) := by
  refine ⟨fun i m k H => ∃ μ h a, i + m = t.len ∧ HR K T μ h H ∧ μ1 <+: μ ∧ TK K H1 H ∧ rel k a μ h H ∧ loopN t.nx t.fin body m i a h = some z, ⟨t.len, _, _, _, by omega, R1, List.prefix_refl _, TK.refl, r0, e3⟩, ?_⟩
  rintro i m k H ⟨μ, h, a, hm, R, p, tk, rl, e⟩
  cases m with
  | zero =>
    simp only [loopN, Option.ite_none_right_eq_some, Option.some.injEq] at e
    obtain ⟨hf, e⟩ := e
    exact .inl ⟨by have := IR.stop μ h H p tk R hf; rw [← hm] at this; exact this, a, μ, h, e.symm, p, tk, R, rl⟩
  | succ m =>
    simp only [loopN] at e
    cases e6 : t.nx i h with
    | none => rw [e6] at e; cases e
    | some d =>
      rw [e6] at e
      simp only at e
      obtain ⟨go, st⟩ := IR.go μ h H i d p tk R e6
      refine .inr ⟨go, fun k' H' => ∃ μ2 h2 a2, HR K T μ2 h2 H' ∧ μ1 <+: μ2 ∧ TK K H1 H' ∧ rel k' a2 μ2 h2 H' ∧ loopN t.nx t.fin body m (i + 1) a2 h2 = some z, ?_, ?_⟩
      · rintro k' H' ⟨μ2, h2, a2, q1, q2, q3, q4, q5⟩
        exact ⟨m, Nat.lt_succ_self m, μ2, h2, a2, by omega, q1, q2, q3, q4, q5⟩
      · intro x H' y
        obtain ⟨rx, t2, R2⟩ := st x H' y
        cases e7 : body d a h with
        | none => rw [e7] at e; cases e
        | some res =>
          rw [e7] at e
          refine ⟨μ, a, h, d, res, p, tk.trans t2, t2, R2, rl, rx, e7, fun a' h' μ' H'' k' er p2 t3 R3 rl3 => ?_, fun b h' er => ?_⟩
          · subst er
            exact ⟨μ', h', a', R3, p.trans p2, (tk.trans t2).trans t3, rl3, e⟩
          · subst er
            exact (Option.some.inj e).symm
end
section
variable {K : PySem.W.Frag} {T : List Addr} {σ : L2.St} {H : Hp} {Q : VK} {cl : Nat → List D → HI → Rz}
abbrev tst (ev : MP.St → HI → Rz) : MP.St → HI → Option (Bool × HI) := fun σ h => (ev σ h).bind fun r => (truth r.1 r.2).map fun b => (b, r.2)
theorem ItR.later {J : L2.It} {t : MP.It} {μ0 μ1 : List Addr} {H0 H1 : Hp} (I : ItR K T J t μ0 H0) (p : μ0 <+: μ1) (tk : TK K H0 H1) : ItR K T J t μ1 H1 :=
  ⟨fun μ h H i d p' t' R e => I.go μ h H i d (p.trans p') (tk.trans t') R e, fun μ h H p' t' R e => I.stop μ h H (p.trans p') (tk.trans t') R e⟩
theorem lc_of {own : List Nat} {t : Tg} {i : MI} {c e v : ME} (hv : v = .omit) (hix : ∀ j ∈ t.ix, j ∈ own) (q : tI K T (evC cl .lst own (.one t i c e v)) σ H Q) :
    tLc (tIt K T (evI cl i)) (tGd K t) (tBl K T (tst (evE cl c))) (tI K T (evE cl e)) own σ H Q := by
  subst hv
  obtain ⟨μ, h, σd, r, R, S, e0, o⟩ := q
  simp only [evC] at e0
  obtain ⟨r0, e1, e2⟩ := Option.bind_eq_some_iff.mp e0
  obtain ⟨z, e3, e4⟩ := Option.bind_eq_some_iff.mp e2
  refine ⟨μ, h, σd, r0, R, S, e1, fun μ1 H1 J p t1 R1 IR => ?_⟩
  intro L hL
  have pre1 : μ1 <+: μ1 ++ [L] := List.prefix_append ..
  have R1' : HR K T (μ1 ++ [L]) (r0.2 ++ [.lst []]) (upd H1 L (.lst [])) := R1.new hL ⟨[], upd_same, .nil⟩
  have gL : (μ1 ++ [L])[r0.2.length]? = some L := by
    rw [← R1.len, List.getElem?_append_right (Nat.le_refl _)]; simp
  have tL := TK.newT (K := K) (ob := .lst []) hL
  obtain ⟨W, h0, hW⟩ := loop_gen (κ := Unit) (k0 := ()) (fun _ _ _ _ _ => True) (IR.later pre1 tL) e3 R1' True.intro
  refine ⟨fun i m H => W i m () H, h0, fun i m H w => ?_⟩
  rcases hW i m () H w with ⟨st, a, μ2, h2, ez, p2, t2, R2, _⟩ | ⟨go, Nx, hNx, turn⟩
  · refine .inl ⟨st, ?_⟩
    subst ez
    simp only [compEnd, Option.map_some, Option.some.injEq] at e4
    subst e4
    exact o μ2 H _ (p.trans (pre1.trans p2)) (t1.trans (tL.trans t2)) R2 (.ref (pre_get p2 gL))
  · refine .inr ⟨go, fun H' => Nx () H', fun H' n => hNx () H' n, fun x H' y => ?_⟩
    obtain ⟨μ2, a, h2, d, res, p2, t2, _, R2, _, rx, e7, nx, _⟩ := turn x H' y
    have S2 := S.mono (p.trans (pre1.trans p2)) (t1.trans (tL.trans t2))
    refine turn_of (T := T) (EMf := fun σ' h => (evE cl e σ' h).bind fun x => (evE cl .omit σ' x.2).bind fun y => emit .lst r0.2.length x.1 y.1 a y.2) (NOf := fun h => some (.inl a, h)) hix R2 rx S2 e7 ?_ ?_
    · intro μ3 H3 h3 σd3 σ3 p3 t3 R3 S3 e8
      obtain ⟨x8, e8, e9⟩ := Option.bind_eq_some_iff.mp e8
      obtain ⟨y8, e10, e9⟩ := Option.bind_eq_some_iff.mp e9
      cases e10
      refine ⟨μ3, h3, σd3, x8, R3, S3, e8, fun μ4 H4 v p4 t4 R4 rv => ?_⟩
      simp only [emit] at e9
      split at e9
      · rename_i ds hn
        simp only [Option.ite_none_right_eq_some, Option.some.injEq] at e9
        obtain ⟨hl, rfl⟩ := e9
        have eL := pre_get ((p2.trans p3).trans p4) gL
        obtain ⟨acc, hA, rs⟩ := R4.of eL hn
        have w : Wr H4 L := ⟨_, hA, .inl ⟨_, rfl⟩⟩
        have pr := List.prefix_refl μ4
        exact ⟨acc, hA, by rw [← big_eq, ← rs.length]; exact hl, nx _ _ μ4 _ () rfl (p3.trans p4) ((t3.trans t4).trans (TK.updW w)) (R4.set eL hn rfl rfl ⟨_, upd_same, (rs.mono pr (TK.updW w)).append (.cons (rv.mono pr (TK.updW w)) .nil)⟩) True.intro⟩
      · cases e9
    · intro μ3 H3 h3 p3 t3 R3 e8
      cases e8
      exact nx _ _ μ3 _ () rfl p3 t3 R3 True.intro
theorem dc_of {own : List Nat} {t : Tg} {i : MI} {c e v : ME} (hix : ∀ j ∈ t.ix, j ∈ own) (q : tI K T (evC cl .dct own (.one t i c e v)) σ H Q) :
    tDc (tIt K T (evI cl i)) (tGd K t) (tBl K T (tst (evE cl c))) (tI K T (evE cl e)) (tI K T (evE cl v)) own σ H Q := by
  obtain ⟨μ, h, σd, r, R, S, e0, o⟩ := q
  simp only [evC] at e0
  obtain ⟨r0, e1, e2⟩ := Option.bind_eq_some_iff.mp e0
  obtain ⟨z, e3, e4⟩ := Option.bind_eq_some_iff.mp e2
  refine ⟨μ, h, σd, r0, R, S, e1, fun μ1 H1 J p t1 R1 IR => ?_⟩
  intro L hL
  have pre1 : μ1 <+: μ1 ++ [L] := List.prefix_append ..
  have R1' : HR K T (μ1 ++ [L]) (r0.2 ++ [.dic []]) (upd H1 L (.dK [])) := R1.new hL ⟨[], upd_same, .nil⟩
  have gL : (μ1 ++ [L])[r0.2.length]? = some L := by
    rw [← R1.len, List.getElem?_append_right (Nat.le_refl _)]; simp
  have tL := TK.newT (K := K) (ob := .dK []) hL
  obtain ⟨W, h0, hW⟩ := loop_gen (κ := Unit) (k0 := ()) (fun _ _ _ _ _ => True) (IR.later pre1 tL) e3 R1' True.intro
  refine ⟨fun i m H => W i m () H, h0, fun i m H w => ?_⟩
  rcases hW i m () H w with ⟨st, a, μ2, h2, ez, p2, t2, R2, _⟩ | ⟨go, Nx, hNx, turn⟩
  · refine .inl ⟨st, ?_⟩
    subst ez
    simp only [compEnd, Option.map_some, Option.some.injEq] at e4
    subst e4
    exact o μ2 H _ (p.trans (pre1.trans p2)) (t1.trans (tL.trans t2)) R2 (.ref (pre_get p2 gL))
  · refine .inr ⟨go, fun H' => Nx () H', fun H' n => hNx () H' n, fun x H' y => ?_⟩
    obtain ⟨μ2, a, h2, d, res, p2, t2, _, R2, _, rx, e7, nx, _⟩ := turn x H' y
    have S2 := S.mono (p.trans (pre1.trans p2)) (t1.trans (tL.trans t2))
    refine turn_of (T := T) (EMf := fun σ' h => (evE cl e σ' h).bind fun x => (evE cl v σ' x.2).bind fun y => emit .dct r0.2.length x.1 y.1 a y.2) (NOf := fun h => some (.inl a, h)) hix R2 rx S2 e7 ?_ ?_
    · intro μ3 H3 h3 σd3 σ3 p3 t3 R3 S3 e8
      obtain ⟨x8, e8, e9⟩ := Option.bind_eq_some_iff.mp e8
      obtain ⟨y8, e10, e9⟩ := Option.bind_eq_some_iff.mp e9
      refine ⟨μ3, h3, σd3, x8, R3, S3, e8, fun μ4 H4 v4 p4 t4 R4 rv => ⟨μ4, x8.2, σd3, y8, R4, S3.mono p4 t4, e10, fun μ5 H5 v5 p5 t5 R5 rv5 => ?_⟩⟩
      simp only [emit] at e9
      split at e9
      · rename_i kvs hn
        simp only [Option.ite_none_right_eq_some, Bool.and_eq_true, decide_eq_true_eq, Option.some.injEq] at e9
        obtain ⟨⟨hk, hl⟩, rfl⟩ := e9
        obtain ⟨k, ek⟩ := key_some hk
        have eL := pre_get (((p2.trans p3).trans p4).trans p5) gL
        obtain ⟨ks, hA, rs⟩ := R5.of eL hn
        have w : Wr H5 L := ⟨_, hA, .inr ⟨_, rfl⟩⟩
        have pr := List.prefix_refl μ5
        exact ⟨ks, k, keyOf_kV rv ek, hA, by rw [← big_eq, ← rs.length]; exact hl, nx _ _ μ5 _ () rfl ((p3.trans p4).trans p5) (((t3.trans t4).trans t5).trans (TK.updW w)) (R5.set eL hn rfl rfl ⟨_, upd_same, (rs.mono pr (TK.updW w)).put ek (rv5.mono pr (TK.updW w))⟩) True.intro⟩
      · cases e9
    · intro μ3 H3 h3 p3 t3 R3 e8
      cases e8
      exact nx _ _ μ3 _ () rfl p3 t3 R3 True.intro
theorem tabG_of {P : Addr} {μ : List Addr} {h : HI} (hP : P ∈ T) (R : HR K T μ h H) : GxR.TabG H P := R.tab P hP
theorem gtup_of {P : Addr} (hP : P ∈ T) {own : List Nat} {t : Tg} {i : MI} {c e v : ME} (hv : v = .omit) (hix : ∀ j ∈ t.ix, j ∈ own) (q : tI K T (evC cl .gtup own (.one t i c e v)) σ H Q) :
    tGTup P (tIt K T (evI cl i)) (tGd K t) (tBl K T (tst (evE cl c))) (tI K T (evE cl e)) own σ H Q := by
  subst hv
  obtain ⟨μ, h, σd, r, R, S, e0, o⟩ := q
  simp only [evC] at e0
  obtain ⟨r0, e1, e2⟩ := Option.bind_eq_some_iff.mp e0
  obtain ⟨z, e3, e4⟩ := Option.bind_eq_some_iff.mp e2
  refine ⟨μ, h, σd, r0, R, S, e1, fun μ1 H1 J p t1 R1 IR => ⟨R1.tab P hP, fun H2 tb => ?_⟩⟩
  obtain ⟨tk2, R2⟩ := R1.tabbed hP tb
  have pr := List.prefix_refl μ1
  obtain ⟨W, h0, hW⟩ := loop_gen (κ := List V) (k0 := []) (fun ys a μ h H => ∃ l, a = .ds l ∧ RVs K μ H l ys) (IR.later pr tk2) e3 R2 ⟨[], rfl, .nil⟩
  refine ⟨W, h0, fun i m ys H w => ?_⟩
  rcases hW i m ys H w with ⟨st, a, μ2, h2, ez, p2, t2, R2, l, ea, rl⟩ | ⟨go, Nx, hNx, turn⟩
  · refine .inl ⟨st, ?_⟩
    subst ez ea
    simp only [compEnd, Option.map_some, Option.some.injEq] at e4
    subst e4
    exact ((o.later p t1).later p2 (tk2.trans t2)).newT R2 rl
  · refine .inr ⟨go, Nx, hNx, fun x H' y => ?_⟩
    obtain ⟨μ2, a, h2, d, res, p2, t2, th, R2, ⟨l, ea, rl⟩, rx, e7, nx, _⟩ := turn x H' y
    subst ea
    have S2 := S.mono (p.trans p2) (t1.trans (tk2.trans t2))
    refine turn_of (T := T) (EMf := fun σ' h => (evE cl e σ' h).bind fun x => (evE cl .omit σ' x.2).bind fun y => emit .gtup r0.2.length x.1 y.1 (.ds l) y.2) (NOf := fun h => some (.inl (.ds l), h)) hix R2 rx S2 e7 ?_ ?_
    · intro μ3 H3 h3 σd3 σ3 p3 t3 R3 S3 e8
      obtain ⟨x8, e8, e9⟩ := Option.bind_eq_some_iff.mp e8
      obtain ⟨y8, e10, e9⟩ := Option.bind_eq_some_iff.mp e9
      cases e10
      refine ⟨μ3, h3, σd3, x8, R3, S3, e8, fun μ4 H4 v p4 t4 R4 rv => ?_⟩
      simp only [emit, Option.ite_none_right_eq_some, Option.some.injEq] at e9
      obtain ⟨hl, rfl⟩ := e9
      exact ⟨by rw [← big_eq, ← rl.length]; exact hl, nx _ _ μ4 _ _ rfl (p3.trans p4) (t3.trans t4) R4 ⟨_, rfl, (rl.mono (p3.trans p4) (th.trans (t3.trans t4))).append (.cons rv .nil)⟩⟩
    · intro μ3 H3 h3 p3 t3 R3 e8
      cases e8
      exact nx _ _ μ3 _ _ rfl p3 t3 R3 ⟨l, rfl, rl.mono p3 (th.trans t3)⟩
theorem gall_of {P : Addr} (hP : P ∈ T) {own : List Nat} {t : Tg} {i : MI} {c e v : ME} (hv : v = .omit) (hix : ∀ j ∈ t.ix, j ∈ own) (q : tI K T (evC cl .gall own (.one t i c e v)) σ H Q) :
    tGAll P (tIt K T (evI cl i)) (tGd K t) (tBl K T (tst (evE cl c))) (tI K T (evE cl e)) own σ H Q := by
  subst hv
  obtain ⟨μ, h, σd, r, R, S, e0, o⟩ := q
  simp only [evC] at e0
  obtain ⟨r0, e1, e2⟩ := Option.bind_eq_some_iff.mp e0
  obtain ⟨z, e3, e4⟩ := Option.bind_eq_some_iff.mp e2
  refine ⟨μ, h, σd, r0, R, S, e1, fun μ1 H1 J p t1 R1 IR => ⟨R1.tab P hP, fun H2 tb => ?_⟩⟩
  obtain ⟨tk2, R2⟩ := R1.tabbed hP tb
  have pr := List.prefix_refl μ1
  obtain ⟨W, h0, hW⟩ := loop_gen (κ := Unit) (k0 := ()) (fun _ _ _ _ _ => True) (IR.later pr tk2) e3 R2 True.intro
  refine ⟨W, h0, fun i m ys H w => ?_⟩
  rcases hW i m ys H w with ⟨st, a, μ2, h2, ez, p2, t2, R2, _⟩ | ⟨go, Nx, hNx, turn⟩
  · refine .inl ⟨st, ?_⟩
    subst ez
    simp only [compEnd, Option.map_some, Option.some.injEq] at e4
    subst e4
    exact ((o.later p t1).later p2 (tk2.trans t2)).here R2 (.bl true)
  · refine .inr ⟨go, Nx, hNx, fun x H' y => ?_⟩
    obtain ⟨μ2, a, h2, d, res, p2, t2, th, R2, _, rx, e7, nx, br⟩ := turn x H' y
    have S2 := S.mono (p.trans p2) (t1.trans (tk2.trans t2))
    refine turn_of (T := T) (EMf := fun σ' h => (evE cl e σ' h).bind fun x => (evE cl .omit σ' x.2).bind fun y => emit .gall r0.2.length x.1 y.1 a y.2) (NOf := fun h => some (.inl a, h)) hix R2 rx S2 e7 ?_ ?_
    · intro μ3 H3 h3 σd3 σ3 p3 t3 R3 S3 e8
      obtain ⟨x8, e8, e9⟩ := Option.bind_eq_some_iff.mp e8
      obtain ⟨y8, e10, e9⟩ := Option.bind_eq_some_iff.mp e9
      cases e10
      refine ⟨μ3, h3, σd3, x8, R3, S3, e8, fun μ4 H4 v p4 t4 R4 rv => ?_⟩
      obtain ⟨x80, x81⟩ := x8
      cases x80 with
      | bl b =>
        cases rv
        refine ⟨b, rfl, ?_⟩
        cases b with
        | true =>
          cases e9
          exact .inl ⟨rfl, nx _ _ μ4 _ _ rfl (p3.trans p4) (t3.trans t4) R4 True.intro⟩
        | false =>
          cases e9
          have ez := br _ _ rfl
          subst ez
          cases e4
          exact .inr ⟨rfl, (((o.later p t1).later p2 (tk2.trans t2)).later (p3.trans p4) (t3.trans t4)).here R4 (.bl false)⟩
      | _ => cases e9
    · intro μ3 H3 h3 p3 t3 R3 e8
      cases e8
      exact nx _ _ μ3 _ _ rfl p3 t3 R3 True.intro
theorem gany_of {P : Addr} (hP : P ∈ T) {own : List Nat} {t : Tg} {i : MI} {c e v : ME} (hv : v = .omit) (hix : ∀ j ∈ t.ix, j ∈ own) (q : tI K T (evC cl .gany own (.one t i c e v)) σ H Q) :
    tGAny P (tIt K T (evI cl i)) (tGd K t) (tBl K T (tst (evE cl c))) (tI K T (evE cl e)) own σ H Q := by
  subst hv
  obtain ⟨μ, h, σd, r, R, S, e0, o⟩ := q
  simp only [evC] at e0
  obtain ⟨r0, e1, e2⟩ := Option.bind_eq_some_iff.mp e0
  obtain ⟨z, e3, e4⟩ := Option.bind_eq_some_iff.mp e2
  refine ⟨μ, h, σd, r0, R, S, e1, fun μ1 H1 J p t1 R1 IR => ⟨R1.tab P hP, fun H2 tb => ?_⟩⟩
  obtain ⟨tk2, R2⟩ := R1.tabbed hP tb
  have pr := List.prefix_refl μ1
  obtain ⟨W, h0, hW⟩ := loop_gen (κ := Unit) (k0 := ()) (fun _ _ _ _ _ => True) (IR.later pr tk2) e3 R2 True.intro
  refine ⟨W, h0, fun i m ys H w => ?_⟩
  rcases hW i m ys H w with ⟨st, a, μ2, h2, ez, p2, t2, R2, _⟩ | ⟨go, Nx, hNx, turn⟩
  · refine .inl ⟨st, ?_⟩
    subst ez
    simp only [compEnd, Option.map_some, Option.some.injEq] at e4
    subst e4
    exact ((o.later p t1).later p2 (tk2.trans t2)).here R2 (.bl false)
  · refine .inr ⟨go, Nx, hNx, fun x H' y => ?_⟩
    obtain ⟨μ2, a, h2, d, res, p2, t2, th, R2, _, rx, e7, nx, br⟩ := turn x H' y
    have S2 := S.mono (p.trans p2) (t1.trans (tk2.trans t2))
    refine turn_of (T := T) (EMf := fun σ' h => (evE cl e σ' h).bind fun x => (evE cl .omit σ' x.2).bind fun y => emit .gany r0.2.length x.1 y.1 a y.2) (NOf := fun h => some (.inl a, h)) hix R2 rx S2 e7 ?_ ?_
    · intro μ3 H3 h3 σd3 σ3 p3 t3 R3 S3 e8
      obtain ⟨x8, e8, e9⟩ := Option.bind_eq_some_iff.mp e8
      obtain ⟨y8, e10, e9⟩ := Option.bind_eq_some_iff.mp e9
      cases e10
      refine ⟨μ3, h3, σd3, x8, R3, S3, e8, fun μ4 H4 v p4 t4 R4 rv => ?_⟩
      obtain ⟨x80, x81⟩ := x8
      cases x80 with
      | bl b =>
        cases rv
        refine ⟨b, rfl, ?_⟩
        cases b with
        | false =>
          cases e9
          exact .inl ⟨rfl, nx _ _ μ4 _ _ rfl (p3.trans p4) (t3.trans t4) R4 True.intro⟩
        | true =>
          cases e9
          have ez := br _ _ rfl
          subst ez
          cases e4
          exact .inr ⟨rfl, (((o.later p t1).later p2 (tk2.trans t2)).later (p3.trans p4) (t3.trans t4)).here R4 (.bl true)⟩
      | _ => cases e9
    · intro μ3 H3 h3 p3 t3 R3 e8
      cases e8
      exact nx _ _ μ3 _ _ rfl p3 t3 R3 True.intro
end
end MP
namespace MP
open PySem PySem.Spec PyProof.Rows L2
section
variable {K : PySem.W.Frag} {T : List Addr} {σ : L2.St} {H : Hp} {Q : VK} {cl : Nat → List D → HI → Rz}
theorem lc2_of {own own1 : List Nat} {t t1 : Tg} {i i1 : MI} {c c1 e v : ME} (hv : v = .omit) (hix : ∀ j ∈ t.ix, j ∈ own) (hix1 : ∀ j ∈ t1.ix, j ∈ own1) (q : tI K T (evC cl .lst own (.more t i c own1 (.one t1 i1 c1 e v))) σ H Q) :
    tLc2 (tIt K T (evI cl i)) (tGd K t) (tBl K T (tst (evE cl c))) (tIt K T (evI cl i1)) (tGd K t1) (tBl K T (tst (evE cl c1))) (tI K T (evE cl e)) own own1 σ H Q := by
  subst hv
  obtain ⟨μ, h, σd, r, R, S, e0, o⟩ := q
  simp only [evC] at e0
  obtain ⟨r0, e1, e2⟩ := Option.bind_eq_some_iff.mp e0
  obtain ⟨z, e3, e4⟩ := Option.bind_eq_some_iff.mp e2
  refine ⟨μ, h, σd, r0, R, S, e1, fun μ1 H1 J p t1' R1 IR => ?_⟩
  intro L hL
  have pre1 : μ1 <+: μ1 ++ [L] := List.prefix_append ..
  have R1' : HR K T (μ1 ++ [L]) (r0.2 ++ [.lst []]) (upd H1 L (.lst [])) := R1.new hL ⟨[], upd_same, .nil⟩
  have gL : (μ1 ++ [L])[r0.2.length]? = some L := by
    rw [← R1.len, List.getElem?_append_right (Nat.le_refl _)]; simp
  have tL := TK.newT (K := K) (ob := .lst []) hL
  obtain ⟨W, h0, hW⟩ := loop_gen (κ := Unit) (k0 := ()) (fun _ _ _ _ _ => True) (IR.later pre1 tL) e3 R1' True.intro
  refine ⟨fun i m H => W i m () H, h0, fun i m H w => ?_⟩
  rcases hW i m () H w with ⟨st, a, μ2, h2, ez, p2, t2, R2, _⟩ | ⟨go, Nx, hNx, turn⟩
  · refine .inl ⟨st, ?_⟩
    subst ez
    simp only [compEnd, Option.map_some, Option.some.injEq] at e4
    subst e4
    exact o μ2 H _ (p.trans (pre1.trans p2)) (t1'.trans (tL.trans t2)) R2 (.ref (pre_get p2 gL))
  · refine .inr ⟨go, fun H' => Nx () H', fun H' n => hNx () H' n, fun x H' y => ?_⟩
    obtain ⟨μ2, a, h2, d, res, p2, t2, _, R2, _, rx, e7, nx, _⟩ := turn x H' y
    have S2 := S.mono (p.trans (pre1.trans p2)) (t1'.trans (tL.trans t2))
    refine turn_of (T := T) (EMf := fun σ' h => evD cl .lst own1 r0.2.length (.one t1 i1 c1 e .omit) a σ' h) (NOf := fun h => some (.inl a, h)) hix R2 rx S2 e7 ?_ ?_
    · intro μ3 H3 h3 σd3 σ3 p3 t3 R3 S3 e8
      simp only [evD] at e8
      obtain ⟨r1, f1, f2⟩ := Option.bind_eq_some_iff.mp e8
      refine ⟨μ3, h3, σd3, r1, R3, S3, f1, fun μ4 H4 J1 p4 t4 R4 IR1 => ?_⟩
      obtain ⟨W1, h01, hW1⟩ := loop_gen (κ := Unit) (k0 := ()) (fun _ _ _ _ _ => True) IR1 f2 R4 True.intro
      refine ⟨fun i m H => W1 i m () H, h01, fun j k H5 w1 => ?_⟩
      rcases hW1 j k () H5 w1 with ⟨st, a5, μ5, h5, ez, p5, t5, R5, _⟩ | ⟨go1, Nx1, hNx1, turn1⟩
      · exact .inl ⟨st, nx _ _ μ5 _ () ez ((p3.trans p4).trans p5) ((t3.trans t4).trans t5) R5 True.intro⟩
      · refine .inr ⟨go1, fun H' => Nx1 () H', fun H' n => hNx1 () H' n, fun x5 H5' y5 => ?_⟩
        obtain ⟨μ5, a5, h5, d5, res5, p5, t5, _, R5, _, rx5, e75, nx5, _⟩ := turn1 x5 H5' y5
        have S5 := S3.mono (p4.trans p5) (t4.trans t5)
        refine turn_of (T := T) (EMf := fun σ' h => (evE cl e σ' h).bind fun x => (evE cl .omit σ' x.2).bind fun y => emit .lst r0.2.length x.1 y.1 a5 y.2) (NOf := fun h => some (.inl a5, h)) hix1 R5 rx5 S5 e75 ?_ ?_
        · intro μ6 H6 h6 σd6 σ6 p6 t6 R6 S6 e86
          obtain ⟨x8, e8, e9⟩ := Option.bind_eq_some_iff.mp e86
          obtain ⟨y8, e10, e9⟩ := Option.bind_eq_some_iff.mp e9
          cases e10
          refine ⟨μ6, h6, σd6, x8, R6, S6, e8, fun μ7 H7 v p7 t7 R7 rv => ?_⟩
          simp only [emit] at e9
          split at e9
          · rename_i ds hn
            simp only [Option.ite_none_right_eq_some, Option.some.injEq] at e9
            obtain ⟨hl, rfl⟩ := e9
            have eL := pre_get (((((p2.trans p3).trans p4).trans p5).trans p6).trans p7) gL
            obtain ⟨acc, hA, rs⟩ := R7.of eL hn
            have w : Wr H7 L := ⟨_, hA, .inl ⟨_, rfl⟩⟩
            have pr := List.prefix_refl μ7
            exact ⟨acc, hA, by rw [← big_eq, ← rs.length]; exact hl, nx5 _ _ μ7 _ () rfl (p6.trans p7) ((t6.trans t7).trans (TK.updW w)) (R7.set eL hn rfl rfl ⟨_, upd_same, (rs.mono pr (TK.updW w)).append (.cons (rv.mono pr (TK.updW w)) .nil)⟩) True.intro⟩
          · cases e9
        · intro μ6 H6 h6 p6 t6 R6 e8
          cases e8
          exact nx5 _ _ μ6 _ () rfl p6 t6 R6 True.intro
    · intro μ3 H3 h3 p3 t3 R3 e8
      cases e8
      exact nx _ _ μ3 _ () rfl p3 t3 R3 True.intro
end
section
variable (K : PySem.W.Frag) (T : List Addr)
def FlR (μ : List Addr) (H : Hp) (D : Ends) : Fl → Prop
  | .nx σd => ∀ σ, SR K μ H σd σ → D.nx σ H
  | .brk σd => ∀ σ, SR K μ H σd σ → D.bk σ H
  | .ct σd => ∀ σ, SR K μ H σd σ → D.ct σ H
  | .rt d => ∀ v, RV K μ H d v → D.rt v H
def OkF (μ : List Addr) (H : Hp) (r : Fl × HI) (D : Ends) : Prop := ∀ μ' H', μ <+: μ' → TK K H H' → HR K T μ' r.2 H' → FlR K μ' H' D r.1
def tSt (ev : MP.St → HI → Option (Fl × HI)) : TS := fun D σ H => ∃ μ h σd r, HR K T μ h H ∧ SR K μ H σd σ ∧ ev σd h = some r ∧ OkF K T μ H r D
end
section
variable {K : PySem.W.Frag} {T : List Addr} {μ : List Addr} {σ : L2.St} {H : Hp} {Z : Ends} {cl : Nat → List D → HI → Rz} {wf : Nat}
theorem OkF.later {μ1 : List Addr} {H1 : Hp} {r : Fl × HI} (q : OkF K T μ H r Z) (p : μ <+: μ1) (t : TK K H H1) : OkF K T μ1 H1 r Z := fun μ' H' p' t' R => q μ' H' (p.trans p') (t.trans t') R
theorem OkF.here {r : Fl × HI} (q : OkF K T μ H r Z) (R : HR K T μ r.2 H) : FlR K μ H Z r.1 := q μ H (List.prefix_refl _) TK.refl R
theorem st_asg {t : Tg} {e : ME} (q : tSt K T (evS cl wf (.asg t e)) Z σ H) : tAsg (tI K T (evE cl e)) (tGd K t) Z σ H := by
  obtain ⟨μ, h, σd, r, R, S, e0, o⟩ := q
  simp only [evS] at e0
  obtain ⟨ra, e1, e2⟩ := Option.bind_eq_some_iff.mp e0
  obtain ⟨σ', e3, rfl⟩ := Option.map_eq_some_iff.mp e2
  exact ⟨μ, h, σd, ra, R, S, e1, fun μ1 H1 x p t R1 rx => ⟨μ1, ra.1, σd, σ', rx, S.mono p t, e3, fun σ1 S1 _ => (o.later p t).here R1 σ1 S1⟩⟩
theorem st_par {i j : Nat} {a b : ME} (q : tSt K T (evS cl wf (.par i j a b)) Z σ H) : tPar i j (tCons (tI K T (evE cl a)) (tCons (tI K T (evE cl b)) tNil)) Z σ H := by
  obtain ⟨μ, h, σd, r, R, S, e0, o⟩ := q
  simp only [evS] at e0
  obtain ⟨ra, e1, e2⟩ := Option.bind_eq_some_iff.mp e0
  obtain ⟨rb, e3, e4⟩ := Option.bind_eq_some_iff.mp e2
  simp only [Option.ite_none_right_eq_some, Option.some.injEq] at e4
  obtain ⟨_, rfl⟩ := e4
  exact ⟨μ, h, σd, ra, R, S, e1, fun μ1 H1 x p t R1 rx => ⟨μ1, ra.2, σd, rb, R1, S.mono p t, e3, fun μ2 H2 y p2 t2 R2 ry =>
    ⟨x, y, rfl, (o.later (p.trans p2) (t.trans t2)).here R2 _ ((((S.mono p t).mono p2 t2).set i (rx.mono p2 t2)).set j ry)⟩⟩⟩
theorem st_sub {a i e : ME} (q : tSt K T (evS cl wf (.sub a i e)) Z σ H) : tAsg (tI K T (evE cl e)) (gSub (tI K T (evE cl a)) (tI K T (evE cl i)) (rV3 K T)) Z σ H := by
  obtain ⟨μ, h, σd, r, R, S, e0, o⟩ := q
  simp only [evS] at e0
  obtain ⟨ra, e1, e2⟩ := Option.bind_eq_some_iff.mp e0
  obtain ⟨rb, e3, e4⟩ := Option.bind_eq_some_iff.mp e2
  obtain ⟨rc, e5, e6⟩ := Option.bind_eq_some_iff.mp e4
  obtain ⟨h', e7, rfl⟩ := Option.map_eq_some_iff.mp e6
  refine ⟨μ, h, σd, ra, R, S, e1, fun μ1 H1 x p t R1 rx => ⟨μ1, ra.2, σd, rb, R1, S.mono p t, e3, fun μ2 H2 y p2 t2 R2 ry => ⟨μ2, rb.2, σd, rc, R2, (S.mono p t).mono p2 t2, e5, fun μ3 H3 z p3 t3 R3 rz => ?_⟩⟩⟩
  refine ⟨μ3, rc.2, rb.1, rc.1, ra.1, h', R3, ry.mono p3 t3, rz, (rx.mono p2 t2).mono p3 t3, e7, fun H4 t4 R4 => ?_⟩
  exact (o.later ((p.trans p2).trans p3) (((t.trans t2).trans t3).trans t4)).here R4 σ ((((S.mono p t).mono p2 t2).mono p3 t3).mono (List.prefix_refl _) t4)
theorem st_expr {e : ME} (q : tSt K T (evS cl wf (.expr e)) Z σ H) : tDrop (tI K T (evE cl e)) Z σ H := by
  obtain ⟨μ, h, σd, r, R, S, e0, o⟩ := q
  simp only [evS] at e0
  obtain ⟨ra, e1, rfl⟩ := Option.map_eq_some_iff.mp e0
  exact ⟨μ, h, σd, ra, R, S, e1, fun μ1 H1 x p t R1 rx => (o.later p t).here R1 σ (S.mono p t)⟩
theorem st_ret {e : ME} (q : tSt K T (evS cl wf (.ret e)) Z σ H) : tRet (tI K T (evE cl e)) Z σ H := by
  obtain ⟨μ, h, σd, r, R, S, e0, o⟩ := q
  simp only [evS] at e0
  obtain ⟨ra, e1, rfl⟩ := Option.map_eq_some_iff.mp e0
  exact ⟨μ, h, σd, ra, R, S, e1, fun μ1 H1 x p t R1 rx => (o.later p t).here R1 x rx⟩
theorem st_retN (q : tSt K T (evS cl wf .retN) Z σ H) : tRetN Z σ H := by
  obtain ⟨μ, h, σd, r, R, S, e0, o⟩ := q
  cases e0
  exact o.here R .non .non
theorem st_pass (q : tSt K T (evS cl wf .pass) Z σ H) : tNext Z σ H := by
  obtain ⟨μ, h, σd, r, R, S, e0, o⟩ := q
  cases e0
  exact o.here R σ S
theorem st_brk (q : tSt K T (evS cl wf .brk) Z σ H) : tBreak Z σ H := by
  obtain ⟨μ, h, σd, r, R, S, e0, o⟩ := q
  cases e0
  exact o.here R σ S
theorem st_cont (q : tSt K T (evS cl wf .cont) Z σ H) : tCont Z σ H := by
  obtain ⟨μ, h, σd, r, R, S, e0, o⟩ := q
  cases e0
  exact o.here R σ S
theorem st_nil (q : tSt K T (evSs cl wf .nil) Z σ H) : tNext Z σ H := by
  obtain ⟨μ, h, σd, r, R, S, e0, o⟩ := q
  cases e0
  exact o.here R σ S
theorem st_cons {s : MS} {r : MSs} (q : tSt K T (evSs cl wf (.cons s r)) Z σ H) : tSeq (tSt K T (evS cl wf s)) (tSt K T (evSs cl wf r)) Z σ H := by
  obtain ⟨μ, h, σd, z, R, S, e0, o⟩ := q
  simp only [evSs] at e0
  split at e0
  · rename_i σ' h' e1
    exact ⟨μ, h, σd, _, R, S, e1, fun μ1 H1 p t R1 σ1 S1 => ⟨μ1, h', σ', z, R1, S1, e0, o.later p t⟩⟩
  · rename_i hx
    refine ⟨μ, h, σd, z, R, S, e0, fun μ1 H1 p t R1 => ?_⟩
    have := (o.later p t).here R1
    obtain ⟨f, hz⟩ := z
    cases f with
    | nx σ' => exact absurd e0 (hx σ' hz)
    | brk _ => exact this
    | ct _ => exact this
    | rt _ => exact this
theorem st_ite {c : ME} {a b : MSs} (q : tSt K T (evS cl wf (.ite c a b)) Z σ H) : tIfS (tBl K T (tst (evE cl c))) (tSt K T (evSs cl wf a)) (tSt K T (evSs cl wf b)) Z σ H := by
  obtain ⟨μ, h, σd, r, R, S, e0, o⟩ := q
  simp only [evS] at e0
  obtain ⟨ra, e1, e2⟩ := Option.bind_eq_some_iff.mp e0
  refine ⟨μ, h, σd, ra, R, S, e1, fun μ1 H1 p t R1 => ?_⟩
  cases c : ra.1 with
  | true =>
    rw [c] at e2
    exact ⟨μ1, ra.2, σd, r, R1, S.mono p t, e2, o.later p t⟩
  | false =>
    rw [c] at e2
    exact ⟨μ1, ra.2, σd, r, R1, S.mono p t, e2, o.later p t⟩
theorem st_for {t : Tg} {i : MI} {b : MSs} (q : tSt K T (evS cl wf (.fr t i b)) Z σ H) : tFor (tIt K T (evI cl i)) (tGd K t) (tSt K T (evSs cl wf b)) Z σ H := by
  obtain ⟨μ, h, σd, r, R, S, e0, o⟩ := q
  simp only [evS] at e0
  obtain ⟨r0, e1, e2⟩ := Option.bind_eq_some_iff.mp e0
  obtain ⟨z, e3, rfl⟩ := Option.map_eq_some_iff.mp e2
  refine ⟨μ, h, σd, r0, R, S, e1, fun μ1 H1 J p t1 R1 IR => ?_⟩
  obtain ⟨W, h0, hW⟩ := loop_gen (κ := L2.St) (k0 := σ) (fun σ a μ h H => SR K μ H a σ) IR e3 R1 (S.mono p t1)
  refine ⟨W, h0, fun i m σ1 H w => ?_⟩
  rcases hW i m σ1 H w with ⟨st, a, μ2, h2, ez, p2, t2, R2, S2⟩ | ⟨go, Nx, hNx, turn⟩
  · refine .inl ⟨st, ?_⟩
    subst ez
    exact ((o.later p t1).later p2 t2).here R2 σ1 S2
  · refine .inr ⟨go, Nx, hNx, fun x H' y => ?_⟩
    obtain ⟨μ2, a, h2, d, res, p2, t2, th, R2, S2, rx, e7, nx, br⟩ := turn x H' y
    obtain ⟨σ3, f1, f2⟩ := Option.bind_eq_some_iff.mp e7
    obtain ⟨⟨fl, h3⟩, f3, rfl⟩ := Option.map_eq_some_iff.mp f2
    refine ⟨μ2, d, a, σ3, rx, S2.mono (List.prefix_refl _) th, f1, fun σ4 S4 _ => ⟨μ2, h2, σ3, _, R2, S4, f3, fun μ5 H5 p5 t5 R5 => ?_⟩⟩
    cases fl with
    | nx σ' => exact fun σ5 S5 => nx _ _ μ5 _ _ rfl p5 t5 R5 S5
    | ct σ' => exact fun σ5 S5 => nx _ _ μ5 _ _ rfl p5 t5 R5 S5
    | brk σ' =>
      intro σ5 S5
      have ez := br _ _ rfl
      subst ez
      exact (((o.later p t1).later p2 t2).later p5 t5).here R5 σ5 S5
    | rt d =>
      intro v rv
      have ez := br _ _ rfl
      subst ez
      exact (((o.later p t1).later p2 t2).later p5 t5).here R5 v rv
theorem st_whl {c : ME} {b : MSs} (q : tSt K T (evS cl wf (.whl c b)) Z σ H) : tWhile (tBl K T (tst (evE cl c))) (tSt K T (evSs cl wf b)) Z σ H := by
  obtain ⟨μ, h, σd, r, R, S, e0, o⟩ := q
  simp only [evS] at e0
  refine ⟨fun m σ H => ∃ μ1 h1 σd1, HR K T μ1 h1 H ∧ SR K μ1 H σd1 σ ∧ whileN (testE cl c) (evSs cl wf b) m σd1 h1 = some r ∧ OkF K T μ1 H r Z, ⟨wf, μ, h, σd, R, S, e0, o⟩, ?_⟩
  rintro m σ H ⟨μ1, h1, σd1, R1, S1, e1, o1⟩
  cases m with
  | zero => cases e1
  | succ m =>
    simp only [whileN] at e1
    cases c1 : testE cl c σd1 h1 with
    | none => rw [c1] at e1; cases e1
    | some tb =>
      rw [c1] at e1
      refine ⟨μ1, h1, σd1, tb, R1, S1, c1, fun μ2 H2 p2 t2 R2 => ?_⟩
      obtain ⟨bb, h2⟩ := tb
      cases bb with
      | false =>
        cases e1
        exact (o1.later p2 t2).here R2 σ (S1.mono p2 t2)
      | true =>
        simp only at e1
        refine ⟨fun σ' H' => ∃ μ3 h3 σd3, HR K T μ3 h3 H' ∧ SR K μ3 H' σd3 σ' ∧ whileN (testE cl c) (evSs cl wf b) m σd3 h3 = some r ∧ OkF K T μ3 H' r Z, fun σ' H' w => ⟨m, Nat.lt_succ_self m, w⟩, ?_⟩
        cases c2 : evSs cl wf b σd1 h2 with
        | none => rw [c2] at e1; cases e1
        | some fr =>
          rw [c2] at e1
          refine ⟨μ2, h2, σd1, fr, R2, S1.mono p2 t2, c2, fun μ3 H3 p3 t3 R3 => ?_⟩
          obtain ⟨fl, h3⟩ := fr
          have o3 := (o1.later p2 t2).later p3 t3
          cases fl with
          | nx σ' => exact fun σ5 S5 => ⟨μ3, h3, σ', R3, S5, e1, o3⟩
          | ct σ' => exact fun σ5 S5 => ⟨μ3, h3, σ', R3, S5, e1, o3⟩
          | brk σ' =>
            cases e1
            exact fun σ5 S5 => o3.here R3 σ5 S5
          | rt d =>
            cases e1
            exact fun v rv => o3.here R3 v rv
theorem st_aug {i : Nat} {op : BOp} {e : ME} (q : tSt K T (evS cl wf (.aug i op e)) Z σ H) : tAug i (tI K T (evE cl e)) (rV2 K T (binD op)) Z σ H := by
  obtain ⟨μ, h, σd, r, R, S, e0, o⟩ := q
  simp only [evS] at e0
  split at e0
  · rename_i x hx
    obtain ⟨v, hv, rv⟩ := S.2 i x hx
    obtain ⟨ra, e1, e2⟩ := Option.bind_eq_some_iff.mp e0
    obtain ⟨rb, e3, rfl⟩ := Option.map_eq_some_iff.mp e2
    exact ⟨v, hv, μ, h, σd, ra, R, S, e1, fun μ1 H1 y p t R1 ry => ⟨μ1, ra.2, x, ra.1, rb, R1, rv.mono p t, ry, e3, fun μ2 H2 w p2 t2 R2 rw' => ((o.later p t).later p2 t2).here R2 _ (((S.mono p t).mono p2 t2).set i rw')⟩⟩
  · cases e0
end
end MP
namespace MP
open PySem PySem.Spec PyProof.Rows L2
mutual
def D.same : D → D → Bool
  | .non, .non => true
  | .bl a, .bl b => a == b
  | .int i, .int j => i == j
  | .str x, .str y => x == y
  | .tup xs, .tup ys => D.sames xs ys
  | .ref m, .ref n => m == n
  | _, _ => false
termination_by structural x => x
def D.sames : List D → List D → Bool
  | [], [] => true
  | x :: xs, y :: ys => D.same x y && D.sames xs ys
  | _, _ => false
termination_by structural x => x
end
mutual
theorem D.same_eq : ∀ {x y : D}, D.same x y = true → x = y
  | .non, y, h => by cases y <;> simp [D.same] at h; rfl
  | .bl a, y, h => by cases y <;> simp [D.same] at h; rw [h]
  | .int a, y, h => by cases y <;> simp [D.same] at h; rw [h]
  | .str a, y, h => by cases y <;> simp [D.same] at h; rw [h]
  | .tup a, y, h => by cases y <;> simp [D.same] at h; rw [D.sames_eq h]
  | .ref a, y, h => by cases y <;> simp [D.same] at h; rw [h]
theorem D.sames_eq : ∀ {x y : List D}, D.sames x y = true → x = y
  | [], y, h => by cases y <;> simp [D.sames] at h; rfl
  | a :: r, y, h => by
    cases y with
    | nil => simp [D.sames] at h
    | cons b s =>
      simp only [D.sames, Bool.and_eq_true] at h
      rw [D.same_eq h.1, D.sames_eq h.2]
end
structure GI where
  gl : List (Str × D)
  fs : List (Str × Nat)
  bn : List Str
structure SC where
  N : List Str
  sc : Scope
  top : Bool
def visB (sc : Scope) (x : Str) : Bool := sc.names.lookup x == some .local || sc.names.lookup x == some .cell || sc.names.lookup x == some .free
def gloB (sc : Scope) (x : Str) : Bool := sc.names.lookup x == some .globalImplicit && !(x == ("__debug__" : Str)) && !(x == ("__name__" : Str))
def SC.put (S : SC) (i : Nat) (x : Str) : Bool := S.N[i]? == some x && (S.sc.names.lookup x == some .local || (S.top && S.sc.names.lookup x == some .cell))
def noStar : Expr → Bool
  | .Starred .. => false
  | _ => true
def noBase : Expr → Bool
  | .Call (.Name _ _) [] [] _ => false
  | _ => true
def noSlice : Expr → Bool
  | .Slice .. => false
  | _ => true
def noSet : Expr → Bool
  | .Set .. => false
  | _ => true
def noFold : Expr → Bool
  | .Set .. => false
  | .List .. => false
  | _ => true
def noComp : Expr → Bool
  | .ListComp .. => false
  | .SetComp .. => false
  | .DictComp .. => false
  | _ => true
def noTup : Expr → Bool
  | .Tuple .. => false
  | _ => true
def isTup : Expr → Bool
  | .Tuple .. => true
  | _ => false
def okT : Expr → Bool
  | .IfExp .. => false
  | _ => true
def blkB (N : List Str) (sc scope : Scope) (own : List (Str × Nat)) : Bool :=
  decide (scope.kind = .function) && decide (∀ y ∈ scope.names, scope.names.lookup y.1 = some y.2) && decide (∀ p ∈ own, N[p.2]? = some p.1)
  && decide (∀ y ∈ scope.names, y.2 = .free → sc.names.lookup y.1 = some .cell ∨ sc.names.lookup y.1 = some .free)
  && decide (∀ y ∈ scope.names, y.2 = .local ∨ y.2 = .cell → y.1 ∈ own.map (·.1) ∨ y.1 ∉ N)
def genB (N : List Str) (sc scope : Scope) (own : List (Str × Nat)) : Bool :=
  decide (scope.isCoroutine = false) && decide (∀ y ∈ scope.names, y.2 ≠ .cell) && decide (scope.names.lookup (".0" : Str) = some .local) && blkB N sc scope own
theorem blkB_ok {N : List Str} {sc scope : Scope} {own : List (Str × Nat)} (h : blkB N sc scope own = true) : BlkOk N sc scope own := by
  simp only [blkB, Bool.and_eq_true, decide_eq_true_eq] at h
  exact ⟨h.1.1.1.1, h.1.1.1.2, h.1.1.2, h.1.2, h.2⟩
theorem genB_ok {N : List Str} {sc scope : Scope} {own : List (Str × Nat)} (h : genB N sc scope own = true) : GenSc N sc scope own := by
  simp only [genB, Bool.and_eq_true, decide_eq_true_eq] at h
  have b := blkB_ok h.2
  exact ⟨b.kind, h.1.1.1, h.1.1.2, h.1.2, b.uniq, b.ix, b.free, fun y hy e => b.own y hy (.inl e)⟩
def ownOf (N : List Str) (own : List Nat) : List (Str × Nat) := own.map fun i => (N.getD i "", i)
theorem ownOf_ix (N : List Str) (own : List Nat) : (ownOf N own).map (·.2) = own := by
  unfold ownOf
  rw [List.map_map]
  exact List.map_id' own
def subset (a b : List Nat) : Bool := decide (∀ i ∈ a, i ∈ b)
mutual
def chkT (S : SC) : Tg → Expr → Bool
  | .nm i, .Name x _ => S.put i x
  | .tp ts, .Tuple es _ _ => chkTs S ts es
  | _, _ => false
def chkTs (S : SC) : Tgs → List Expr → Bool
  | .nil, [] => true
  | .cons t ts, e :: es => noStar e && chkT S t e && chkTs S ts es
  | _, _ => false
end
def bltB (G : GI) (S : SC) (x : Str) (b : String) : Bool := x == (Str.ofString b) && gloB S.sc x && G.bn.contains x
def constB : D → Const → Bool
  | .non, .none => true
  | .bl a, .bool b => a == b
  | .int i, .int j => i == j
  | .str x, .str y => x == y
  | _, _ => false
def mthName : Mth → Str
  | .append => "append" | .extend => "extend" | .pop => "pop" | .get => "get"
def bltName : Blt → String
  | .len => "len" | .int => "int" | .str => "str" | .list => "list" | .tuple => "tuple" | .isi _ => "isinstance"
def noIsi : Blt → Bool
  | .isi _ => false
  | _ => true
def isYes : ME → Bool
  | .cst (.bl b) => b
  | _ => false
def nxt (o : BoolOp) (y : Expr) (r : List Expr) (pos : Pos) : Expr := if r.isEmpty then y else .BoolOp o (y :: r) pos
def chkPart (f : Expr → Bool) (lo : ME) : Option Expr → Bool
  | none => isOmit lo
  | some l => !isOmit lo && f l
def chkIfs (f : Expr → Bool) (c : ME) : List Expr → Bool
  | [] => isYes c
  | [e] => okT e && f e
  | _ => false
def fnB (G : GI) (f : Nat) (x : Str) (k : Nat) : Bool := match G.fs[f]? with
  | some p => p.1 == x && p.2 == k
  | none => false
def genK (G : GI) (S : SC) (x : Str) : CK → Bool
  | .gtup => bltB G S x "tuple"
  | .gall => bltB G S x "all"
  | .gany => bltB G S x "any"
  | _ => false
section
variable (G : GI)
mutual
def chkE (S : SC) (n : Nat) : ME → Expr → Bool
  | .var i, .Name x _ => S.N[i]? == some x && visB S.sc x && !(x == ("__debug__" : Str)) && !(x == ("__classdict__" : Str))
  | .cst d, .Constant c _ _ => constB d c
  | .glb d, .Name x _ => gloB S.sc x && G.gl.any fun p => p.1 == x && D.same p.2 d
  | .tup es, .Tuple l _ _ => chkEs S n es l
  | .lst es, .List l _ => chkEs S n es l
  | .dnew, .Dict [] [] _ => true
  | .bin op a b, .BinOp x o y _ => decide (o = opOf op) && chkE S n a x && chkE S n b y
  | .neg a, .UnaryOp .USub x _ => chkE S n a x
  | .cmp op a b, .Compare x [o] [y] _ => decide (o = cmpOf op) && chkE S n a x && chkE S n b y && noSet y
  | .and a b, .BoolOp .And (x :: y :: r) pos => okT x && chkE S n a x && (!r.isEmpty || okT y) && chkE S n b (nxt .And y r pos)
  | .or a b, .BoolOp .Or (x :: y :: r) pos => okT x && chkE S n a x && (!r.isEmpty || okT y) && chkE S n b (nxt .Or y r pos)
  | .not a, .UnaryOp .Not x _ => okT x && chkE S n a x
  | .ife c a b, .IfExp x y z _ => okT x && chkE S n c x && chkE S n a y && chkE S n b z
  | .idx a i, .Subscript x y _ => noSlice y && chkE S n a x && chkE S n i y
  | .slc a lo hi, .Subscript x (.Slice l u none _) _ => chkE S n a x && chkPart (fun l => chkE S n lo l) lo l && chkPart (fun u => chkE S n hi u) hi u
  | .call f es, .Call (.Name x _) l [] _ => gloB S.sc x && fnB G f x l.length && !l.isEmpty && chkEs S n es l
  | .blt b es, .Call (.Name x _) l [] _ => bltB G S x (bltName b) && noIsi b && !l.isEmpty && chkEs S n es l
  | .isi t m, .Call (.Name x _) [e, .Name y _] [] _ => bltB G S x "isinstance" && bltB G S y (tyName t) && noStar e && chkE S n m e
  | .mth m o es, .Call (.Attribute x a apos) l [] cpos => decide (a = mthName m) && noBase x && apos.endLine == cpos.line && decide (l.length < 29) && chkE S n o x && chkEs S n es l
  | .comp .lst own (.one t i c e v), .ListComp elt [⟨tg, iter, ifs, as⟩] scope _ => as == 0 && blkB S.N S.sc scope (ownOf S.N own) && chkI S n i tg iter && noSet iter && chkT ⟨S.N, relS scope S.sc, false⟩ t tg && subset t.ix own
      && chkIfs (fun f => chkE ⟨S.N, relS scope S.sc, false⟩ n c f) c ifs && chkE ⟨S.N, relS scope S.sc, false⟩ n e elt && isOmit v
  | .comp .lst own (.more t i c own1 (.one t1 i1 c1 e v)), .ListComp elt [⟨tg, iter, ifs, as⟩, ⟨tg1, iter1, ifs1, as1⟩] scope _ => as == 0 && as1 == 0 && blkB S.N S.sc scope (ownOf S.N own) && subset own1 own && chkI S n i tg iter && noSet iter && chkT ⟨S.N, relS scope S.sc, false⟩ t tg && subset t.ix own
      && chkIfs (fun f => chkE ⟨S.N, relS scope S.sc, false⟩ n c f) c ifs && chkI ⟨S.N, relS scope S.sc, false⟩ n i1 tg1 iter1 && noSet iter1 && chkT ⟨S.N, relS scope S.sc, false⟩ t1 tg1 && subset t1.ix own1
      && chkIfs (fun f => chkE ⟨S.N, relS scope S.sc, false⟩ n c1 f) c1 ifs1 && chkE ⟨S.N, relS scope S.sc, false⟩ n e elt && isOmit v
  | .comp .dct own (.one t i c e v), .DictComp key val [⟨tg, iter, ifs, as⟩] scope _ => as == 0 && blkB S.N S.sc scope (ownOf S.N own) && chkI S n i tg iter && noSet iter && chkT ⟨S.N, relS scope S.sc, false⟩ t tg && subset t.ix own
      && chkIfs (fun f => chkE ⟨S.N, relS scope S.sc, false⟩ n c f) c ifs && chkE ⟨S.N, relS scope S.sc, false⟩ n e key && chkE ⟨S.N, relS scope S.sc, false⟩ n v val
  | .comp k own (.one t i c e v), .Call (.Name x _) [.GeneratorExp elt [⟨tg, iter, ifs, as⟩] scope _] [] _ => as == 0 && genK G S x k && n == 1
      && genB S.N S.sc scope (ownOf S.N own) && chkI S n i tg iter && noFold iter && chkT ⟨S.N, scope, false⟩ t tg && subset t.ix own
      && chkIfs (fun f => chkE ⟨S.N, scope, false⟩ 0 c f) c ifs && chkE ⟨S.N, scope, false⟩ 0 e elt && isOmit v
  | _, _ => false
def chkEs (S : SC) (n : Nat) : MEs → List Expr → Bool
  | .nil, [] => true
  | .cons m ms, e :: es => noStar e && chkE S n m e && chkEs S n ms es
  | _, _ => false
def chkI (S : SC) (n : Nat) : MI → Expr → Expr → Bool
  | .ex m, _, e => chkE S n m e
  | .rng ms, _, .Call (.Name x _) l [] _ => bltB G S x "range" && (l.length == 1 || l.length == 2) && chkEs S n ms l
  | .zip a b, tg, .Call (.Name x _) [e1, e2] [] _ => isTup tg && bltB G S x "zip" && noStar e1 && noStar e2 && chkE S n a e1 && chkE S n b e2
  | .enm a, tg, .Call (.Name x _) [e1] [] _ => isTup tg && bltB G S x "enumerate" && noStar e1 && chkE S n a e1
  | _, _, _ => false
end
end
end MP
namespace MP
open PySem PySem.Spec PyProof.Rows L2
def spI (K : PySem.W.Frag) (T : List Addr) (np : Nat) (g : List D → HI → Rz) : Sp := fun vs H Q _ => vs.length = np ∧ rVs K T g vs H Q
structure XW (G : GI) (cl : Nat → List D → HI → Rz) (T : List Addr) (L : Nat) (S : SC) (n : Nat) (X : Cx) : Prop where
  N : X.N = S.N
  sc : X.env.scope = S.sc
  nd : X.N.Nodup
  top : S.top = true → ∀ x, X.fn x = true
  calm : X.calm = true
  room : Room (L + n) X.A
  lit : 13 ≤ L
  gl : ∀ x d, (x, d) ∈ G.gl → ∃ v u, X.mg x = some u ∧ RelV v u ∧ ∀ μ H, RV X.K μ H d v
  fs : ∀ f x np, G.fs[f]? = some (x, np) → ∃ a fd ps, X.mg x = some (.ref a) ∧ PySem.W.keepIn X.K (.ref a) = true ∧ Binds X.K fd ps [] ∧ FnOk X.prog X.w X.K X.mg X.base CX0 L a fd ps (spI X.K T np (cl f))
  bn : ∀ x ∈ G.bn, X.mg x = none
  code : 0 < n → ∃ c P, X.env.code = .ref c ∧ GxR.TabB X.base X.mg c P ∧ P ∈ T
section
variable {G : GI} {cl : Nat → List D → HI → Rz} {T : List Addr} {L : Nat} {S : SC} {n : Nat} {X : Cx}
theorem XW.hu (W : XW G cl T L S n X) : X.A.units + 400 < cLine := by
  have := W.room.un
  have := W.lit
  omega
theorem XW.blk (W : XW G cl T L S n X) (s : Shared) (H : Hp) (C : Addr) (cs : List (Str × Addr)) (fp : List Addr) (scope : Scope) : XW G cl T L ⟨S.N, relS scope S.sc, false⟩ n (X.blk s H scope (compEnvC scope cs C X.env) fp) where
  N := W.N
  sc := by
    show relabel scope X.env = relS scope S.sc
    rw [← W.sc]
    rfl
  nd := W.nd
  top := fun z => nomatch z
  calm := W.calm
  room := W.room
  lit := W.lit
  gl := W.gl
  fs := W.fs
  bn := W.bn
  code := W.code
theorem XW.gen (W : XW G cl T L S (n + 1) X) (hn : n = 0) (A : Around) (s : Shared) (H : Hp) (C : Addr) (cs : List (Str × Addr)) (code : Value) (fp : List Addr) (a : Addr) (og : Obj) (scope : Scope) (hd : A.handled = none) (hp : A.depth ≤ X.A.depth + 1) (hu : A.units ≤ X.A.units + 12) :
    XW G cl T L ⟨S.N, scope, false⟩ n (gcx X A s H scope (genEnv scope cs C code builtinsNs X.env) fp a og) where
  N := W.N
  sc := rfl
  nd := W.nd
  top := fun z => nomatch z
  calm := W.calm
  room := ⟨hd, by have := W.room.dp; show A.depth + 3 * (L + n) + 5 < _; omega, by have := W.room.un; show A.units + 16 * (L + n) + 200 < _; omega⟩
  lit := W.lit
  gl := W.gl
  fs := W.fs
  bn := W.bn
  code := fun z => by omega
theorem XW.vis (W : XW G cl T L S n X) {x : Str} (h : visB S.sc x = true) : Vis X.env.scope x := by
  simp only [visB, Bool.or_eq_true, beq_iff_eq] at h
  rw [W.sc]
  rcases h with (h | h) | h
  · exact .inl h
  · exact .inr (.inl h)
  · exact .inr (.inr h)
theorem XW.glo (W : XW G cl T L S n X) {x : Str} (h : gloB S.sc x = true) : Gl X x ∧ (x == ("__debug__" : Str)) = false ∧ x ≠ "__name__" := by
  simp only [gloB, Bool.and_eq_true, beq_iff_eq, Bool.not_eq_true'] at h
  refine ⟨?_, h.1.2, fun z => ?_⟩
  · show X.env.scope.names.lookup x = _
    rw [W.sc]; exact h.1.1
  · rw [z] at h; simp at h
theorem star_cons {e : Expr} {es : List Expr} {env : Env} (h : noStar e = true) : starEach (e :: es) env = (false, eval e env) :: starEach es env := by
  cases e <;> first | rfl | simp [noStar] at h
theorem fold_ok {e : Expr} {env : Env} (h : noSet e = true) : ∀ x, foldedSetIterable e env x = pure x := by
  cases e <;> first | (intro _; rfl) | simp [noSet] at h
theorem gfold_ok {e : Expr} {env : Env} (h : noFold e = true) : ∀ x, genFold e env x = pure x := by
  cases e <;> first | (intro _; rfl) | simp [noFold] at h
theorem marks_ok {op : CmpOp} {e : Expr} (h : noSet e = true) : behindInMarks op e = false := by
  cases e <;> first | rfl | simp [noSet] at h
theorem base_ok {o : Expr} {a : Str} {env : Env} {w : Sem Value} (h : noBase o = true) : attributeBase o a env w = w := by
  cases o with
  | Call f args kws pos =>
    cases f with
    | Name x p =>
      cases args with
      | nil =>
        cases kws with
        | nil => simp [noBase] at h
        | cons _ _ => rfl
      | cons _ _ => rfl
    | _ => rfl
  | _ => rfl
theorem plain_ix {b : Expr} (h : noSlice b = true) : PlainIx b := by
  intro o i
  cases b <;> first | rfl | simp [noSlice] at h
theorem stars_any {pos : Pos} {env : Env} : ∀ {G : GI} {S : SC} {n : Nat} {ms : MEs} {es : List Expr}, chkEs G S n ms es = true → (backTo pos (starEach es env)).any (·.1) = false
  | G, S, n, .nil, [], _ => rfl
  | G, S, n, .nil, _ :: _, h => by simp [chkEs] at h
  | G, S, n, .cons m ms, [], h => by simp [chkEs] at h
  | G, S, n, .cons m ms, e :: es, h => by
    simp only [chkEs, Bool.and_eq_true] at h
    rw [star_cons h.1.1]
    show (false || (backTo pos (starEach es env)).any (·.1)) = false
    rw [stars_any h.2]
    rfl
theorem stars_all {pos : Pos} {env : Env} : ∀ {G : GI} {S : SC} {n : Nat} {ms : MEs} {es : List Expr}, chkEs G S n ms es = true → (backTo pos (starEach es env)).all (fun x => !x.1) = true
  | G, S, n, .nil, [], _ => rfl
  | G, S, n, .nil, _ :: _, h => by simp [chkEs] at h
  | G, S, n, .cons m ms, [], h => by simp [chkEs] at h
  | G, S, n, .cons m ms, e :: es, h => by
    simp only [chkEs, Bool.and_eq_true] at h
    rw [star_cons h.1.1]
    show (!false && (backTo pos (starEach es env)).all (fun x => !x.1)) = true
    rw [stars_all h.2]
    rfl
theorem evEs_length : ∀ {ms : MEs} {S : SC} {n : Nat} {es : List Expr} {σ : MP.St} {h : HI} {r : List D × HI}, chkEs G S n ms es = true → evEs cl ms σ h = some r → r.1.length = es.length
  | .nil, S, n, [], σ, h, r, _, e => by simp only [evEs, Option.some.injEq] at e; subst e; rfl
  | .nil, S, n, _ :: _, σ, h, r, c, e => by simp [chkEs] at c
  | .cons m ms, S, n, [], σ, h, r, c, e => by simp [chkEs] at c
  | .cons m ms, S, n, e1 :: es, σ, h, r, c, e => by
    simp only [chkEs, Bool.and_eq_true] at c
    simp only [evEs] at e
    obtain ⟨a, e2, e3⟩ := Option.bind_eq_some_iff.mp e
    obtain ⟨b, e4, e5⟩ := Option.bind_eq_some_iff.mp e3
    cases e5
    have := evEs_length c.2 e4
    simp only [List.length_cons, this]
structure XT (S : SC) (X : Cx) : Prop where
  N : X.N = S.N
  sc : X.env.scope = S.sc
  nd : X.N.Nodup
  top : S.top = true → ∀ x, X.fn x = true
  calm : X.calm = true
theorem XW.xt (W : XW G cl T L S n X) : XT S X := ⟨W.N, W.sc, W.nd, W.top, W.calm⟩
theorem put_ok (W : XT S X) {i : Nat} {x : Str} (h : S.put i x = true) : X.N[i]? = some x ∧ Loc X.env.scope x ∧ (X.fn x = true ∨ X.env.scope.names.lookup x = some .local) := by
  simp only [SC.put, Bool.and_eq_true, Bool.or_eq_true, beq_iff_eq] at h
  rw [W.N, W.sc]
  rcases h.2 with z | ⟨z1, z2⟩
  · exact ⟨h.1, .inl z, .inr z⟩
  · exact ⟨h.1, .inr z2, .inl (W.top z1 x)⟩
theorem ass_len : ∀ {ts : Tgs} {es : List Expr} {env : Env}, chkTs S ts es = true → (assignEach es env).length = es.length ∧ (assignEach es env).findIdx? (·.1) = none
  | .nil, [], env, _ => ⟨rfl, rfl⟩
  | .nil, _ :: _, env, h => by simp [chkTs] at h
  | .cons t ts, [], env, h => by simp [chkTs] at h
  | .cons t ts, e :: es, env, h => by
    simp only [chkTs, Bool.and_eq_true] at h
    obtain ⟨h1, h2⟩ := ass_len (env := env) h.2
    have hs : assignEach (e :: es) env = (false, assign e env) :: assignEach es env := by
      have h3 := h.1.1
      cases e <;> first | rfl | simp [noStar] at h3
    rw [hs]
    refine ⟨by simp [h1], ?_⟩
    rw [List.findIdx?_cons]
    simp [h2]
def tGds (K : PySem.W.Frag) (ts : Tgs) : TGs := fun xs σ H Q => ∃ μ ds σd σd', RVs K μ H ds xs ∧ SR K μ H σd σ ∧ binds ts ds σd = some σd' ∧ ∀ σ', SR K μ H σd' σ' → (∀ vs, (∀ i ∈ ts.ix, i ∈ vs) → wipe σ' vs = wipe σ vs) → Q σ' H
mutual
theorem sndT (W : XT S X) : ∀ {t : Tg} {e : Expr}, chkT S t e = true → PG X e (tGd X.K t)
  | .nm i, e, h => by
    cases e with
    | Name x pos =>
      obtain ⟨h1, h2, h3⟩ := put_ok W (show S.put i x = true from h)
      refine ⟨fun pins s σ H v u Q I r hw => ?_⟩
      obtain ⟨μ, d, σd, σd', rx, Sr, e, q⟩ := hw
      simp only [bind1, Option.ite_none_right_eq_some, Option.some.injEq] at e
      obtain ⟨_, rfl⟩ := e
      exact (pg_name W.nd h1 h2 h3).run pins s σ H v u Q I r (q _ (Sr.set i rx) fun vs hv => wipe_set (hv i (by simp [Tg.ix])))
    | _ => simp [chkT] at h
  | .tp ts, e, h => by
    cases e with
    | Tuple es k pos =>
      have h : chkTs S ts es = true := h
      obtain ⟨l1, l2⟩ := ass_len (env := X.env) h
      refine ⟨fun pins s σ H v u Q I r hw => ?_⟩
      obtain ⟨μ, d, σd, σd', rx, Sr, e, q⟩ := hw
      refine (pg_tup W.calm (sndTs W h) l1 l2).run pins s σ H v u Q I r ?_
      cases rx with
      | tup ht rs =>
        simp only [bind1] at e
        refine ⟨_, _, rfl, ht, ?_, μ, _, σd, σd', rs, Sr, e, q⟩
        rw [← rs.length]
        exact lens h e
      | _ => simp [bind1] at e
    | _ => simp [chkT] at h
theorem sndTs (W : XT S X) : ∀ {ts : Tgs} {es : List Expr}, chkTs S ts es = true → PGs X es (tGds X.K ts)
  | .nil, [], _ => ⟨fun pins s σ H vs us Q I r hw => by
      obtain ⟨μ, ds, σd, σd', rx, Sr, e, q⟩ := hw
      cases ds with
      | cons _ _ => simp [binds] at e
      | nil =>
        cases rx
        simp only [binds, Option.some.injEq] at e
        subst e
        exact pgs_nil.run pins s σ H _ us Q I r ⟨rfl, q σ Sr fun _ _ => rfl⟩⟩
  | .nil, _ :: _, h => by simp [chkTs] at h
  | .cons t ts, [], h => by simp [chkTs] at h
  | .cons t ts, e :: es, h => by
    simp only [chkTs, Bool.and_eq_true] at h
    have hs : (assignEach (e :: es) X.env).map (·.2) = assign e X.env :: (assignEach es X.env).map (·.2) := by
      have h3 := h.1.1
      cases e <;> first | rfl | simp [noStar] at h3
    refine ⟨fun pins s σ H vs us Q I r hw => ?_⟩
    obtain ⟨μ, ds, σd, σd', rx, Sr, e1, q⟩ := hw
    refine (pgs_cons (sndT W h.1.2) (sndTs W h.2) hs).run pins s σ H vs us Q I r ?_
    cases ds with
    | nil => simp [binds] at e1
    | cons d ds =>
      cases rx with
      | cons r1 r2 =>
        simp only [binds] at e1
        obtain ⟨σ1, e2, e3⟩ := Option.bind_eq_some_iff.mp e1
        refine ⟨_, _, rfl, μ, d, σd, σ1, r1, Sr, e2, fun σ2 S2 w2 => ⟨μ, ds, σ1, σd', r2, S2, e3, fun σ3 S3 w3 => q σ3 S3 fun vs hv => ?_⟩⟩
        rw [w3 vs fun i hi => hv i (by simp [Tgs.ix, hi]), w2 vs fun i hi => hv i (by simp [Tgs.ix, hi])]
theorem lens : ∀ {ts : Tgs} {es : List Expr} {ds : List D} {σ σ' : MP.St}, chkTs S ts es = true → binds ts ds σ = some σ' → ds.length = es.length
  | .nil, [], ds, σ, σ', _, e => by cases ds <;> simp [binds] at e; rfl
  | .nil, _ :: _, _, _, _, h, _ => by simp [chkTs] at h
  | .cons t ts, [], _, _, _, h, _ => by simp [chkTs] at h
  | .cons t ts, e :: es, ds, σ, σ', h, e1 => by
    simp only [chkTs, Bool.and_eq_true] at h
    cases ds with
    | nil => simp [binds] at e1
    | cons d ds =>
      simp only [binds] at e1
      obtain ⟨σ1, e2, e3⟩ := Option.bind_eq_some_iff.mp e1
      simp only [List.length_cons, lens h.2 e3]
end
end
end MP
namespace MP
open PySem PySem.Spec PyProof.Rows L2
section
variable {G : GI} {cl : Nat → List D → HI → Rz} {T : List Addr} {L : Nat} {S : SC} {n : Nat} {X : Cx} {e x y z : Expr} {a b c : ME} {pos : Pos}
def EK (X : Cx) (T : List Addr) (ev : MP.St → HI → Rz) (e : Expr) : Prop :=
  PE X e (tI X.K T ev) ∧ (okT e = true → PT X e (tBl X.K T (tst ev))) ∧ (∀ op vs pos, e = .BoolOp op vs pos → PW X e (tBl X.K T (tst ev)))
theorem ek_val {ev : MP.St → HI → Rz} (h : PE X e (tI X.K T ev)) (he : ∀ whole, isTrue e X.env whole = (do let v ← whole; standAt e.pos; holding [v] (truthy v))) (nb : ∀ op vs pos, e ≠ .BoolOp op vs pos) : EK X T ev e :=
  ⟨h, fun _ => (pt_truth h he).imp fun σ H Q q => tB_val q, fun op vs pos q => absurd q (nb op vs pos)⟩
variable {ea eb ec : MP.St → HI → Rz}
theorem ek_var (W : XW G cl T L S n X) {i : Nat} {x : Str} (h : (S.N[i]? == some x && visB S.sc x && !(x == ("__debug__" : Str)) && !(x == ("__classdict__" : Str))) = true) : EK X T (evE cl (.var i)) (.Name x pos) := by
  simp only [Bool.and_eq_true, beq_iff_eq, Bool.not_eq_true'] at h
  refine ek_val ((pe_var (i := i) (by rw [W.N]; exact h.1.1.1) (W.vis h.1.1.2) h.1.2 h.2).imp fun σ H Q q => ?_) (fun _ => rfl) (fun _ _ _ z => nomatch z)
  obtain ⟨μ, h0, σd, r, R, Sr, e, o⟩ := q
  simp only [evE] at e
  split at e
  · rename_i d hd
    cases e
    obtain ⟨v, h1, h2⟩ := Sr.2 i d hd
    exact ⟨v, h1, o.here R h2⟩
  · cases e
theorem tI_cst {K : PySem.W.Frag} {d : D} {v : V} {σ : L2.St} {H : Hp} {Q : VK} (hv : ∀ μ, RV K μ H d v) (q : tI K T (fun _ h => some (d, h)) σ H Q) : tC v σ H Q := by
  obtain ⟨μ, h0, σd, r, R, Sr, e, o⟩ := q
  cases e
  exact o.here R (hv μ)
theorem ek_cst {d : D} {k : Const} {j : Nat} (h : constB d k = true) : EK X T (evE cl (.cst d)) (.Constant k j pos) := by
  have fin : ∀ {v : V}, PE X (.Constant k j pos) (tC v) → (∀ μ H, RV X.K μ H d v) → EK X T (evE cl (.cst d)) (.Constant k j pos) := fun {v} hp hv =>
    ek_val (hp.imp fun σ H Q q => tI_cst (fun μ => hv μ H) q) (fun _ => rfl) (fun _ _ _ z => nomatch z)
  cases d with
  | non => cases k <;> first | exact fin pe_non (fun _ _ => .non) | simp [constB] at h
  | bl b => cases k <;> first | (simp [constB] at h; subst h; exact fin pe_bl (fun _ _ => .bl _)) | simp [constB] at h
  | int i => cases k <;> first | (simp [constB] at h; subst h; exact fin pe_int (fun _ _ => .int _)) | simp [constB] at h
  | str i => cases k <;> first | (simp [constB] at h; subst h; exact fin pe_str (fun _ _ => .str _)) | simp [constB] at h
  | _ => simp [constB] at h
theorem ek_glb (W : XW G cl T L S n X) {d : D} {x : Str} (h : (gloB S.sc x && G.gl.any fun p => p.1 == x && D.same p.2 d) = true) : EK X T (evE cl (.glb d)) (.Name x pos) := by
  simp only [Bool.and_eq_true, List.any_eq_true, beq_iff_eq] at h
  obtain ⟨hg, ⟨y, d'⟩, hm, e1, e2⟩ := h
  have e2 := D.same_eq e2
  simp only at e1 e2
  subst e1 e2
  obtain ⟨v, u, h1, h2, h3⟩ := W.gl _ _ hm
  obtain ⟨g1, g2, _⟩ := W.glo hg
  exact ek_val ((pe_glob g1 h1 h2 g2).imp fun σ H Q q => tI_cst (fun μ => h3 μ H) q) (fun _ => rfl) (fun _ _ _ z => nomatch z)
theorem ek_tup {k : Nat} {l : List Expr} {es : MEs} (h : PA X l (tL X.K T (evEs cl es))) : EK X T (evE cl (.tup es)) (.Tuple l k pos) := by
  refine ek_val ((pe_tup h).imp fun σ H Q q => ?_) (fun _ => rfl) (fun _ _ _ z => nomatch z)
  obtain ⟨μ, h0, σd, r, R, Sr, e, o⟩ := q
  simp only [evE] at e
  obtain ⟨ra, e1, e2⟩ := Option.bind_eq_some_iff.mp e
  simp only [Option.ite_none_right_eq_some, Option.some.injEq] at e2
  obtain ⟨hl, rfl⟩ := e2
  exact ⟨μ, h0, σd, ra, R, Sr, e1, fun μ1 H1 vs p t R1 rv => ⟨by rw [← big_eq, ← rv.length]; exact hl, (o.later p t).newT R1 rv⟩⟩
theorem ek_lst {l : List Expr} {es : MEs} (h : PA X l (tL X.K T (evEs cl es))) : EK X T (evE cl (.lst es)) (.List l pos) := by
  refine ek_val ((pe_lst h).imp fun σ H Q q => ?_) (fun _ => rfl) (fun _ _ _ z => nomatch z)
  obtain ⟨μ, h0, σd, r, R, Sr, e, o⟩ := q
  simp only [evE] at e
  obtain ⟨ra, e1, e2⟩ := Option.bind_eq_some_iff.mp e
  simp only [Option.ite_none_right_eq_some, hnew, Option.some.injEq] at e2
  obtain ⟨hl, rfl⟩ := e2
  exact ⟨μ, h0, σd, ra, R, Sr, e1, fun μ1 H1 vs p t R1 rv => ⟨by rw [← big_eq, ← rv.length]; exact hl, (o.later p t).newL R1 rv⟩⟩
theorem ek_dnew : EK X T (evE cl .dnew) (.Dict [] [] pos) := by
  refine ek_val (pe_dnewK.imp fun σ H Q q => ?_) (fun _ => rfl) (fun _ _ _ z => nomatch z)
  obtain ⟨μ, h0, σd, r, R, Sr, e, o⟩ := q
  simp only [evE, hnew, Option.some.injEq] at e
  subst e
  exact o.newD R
theorem ek_bin {op : BOp} (ha : PE X x (tI X.K T (evE cl a))) (hb : PE X y (tI X.K T (evE cl b))) : EK X T (evE cl (.bin op a b)) (.BinOp x (opOf op) y pos) :=
  ek_val ((pe_op (op_all (T := T) op) ha hb).imp fun σ H Q q => tI_bin (g := binD op) q) (fun _ => rfl) (fun _ _ _ z => nomatch z)
theorem ek_neg (ha : PE X x (tI X.K T (evE cl a))) : EK X T (evE cl (.neg a)) (.UnaryOp .USub x pos) :=
  ek_val ((pe_un (un_neg' (T := T)) ha).imp fun σ H Q q => tI_un (g := fun x h => match x with | .int i => some (.int (-i), h) | _ => none) q) (fun _ => rfl) (fun _ _ _ z => nomatch z)
theorem ek_cmp (hu : X.A.units + 400 < cLine) {op : COp} (ha : PE X x (tI X.K T (evE cl a))) (hb : PE X y (tI X.K T (evE cl b))) (hs : noSet y = true) : EK X T (evE cl (.cmp op a b)) (.Compare x [cmpOf op] [y] pos) := by
  refine ⟨(pe_cmpR (cmp_all (T := T) hu op) ha hb (marks_ok hs)).imp fun σ H Q q => tI_bin (g := fun x y h => (cmpB op x y h).map fun c => (.bl c, h)) q, fun _ => (pt_cmpR (cmp_all (T := T) hu op) ha hb (marks_ok hs)).imp fun σ H Q q => ?_, fun _ _ _ z => nomatch z⟩
  refine tI_bin (g := fun x y h => (cmpB op x y h).map fun c => (.bl c, h)) ?_
  obtain ⟨μ, h0, σd, r, R, Sr, e, o⟩ := q
  obtain ⟨ra, e1, e2⟩ := Option.bind_eq_some_iff.mp e
  obtain ⟨b0, e3, rfl⟩ := Option.map_eq_some_iff.mp e2
  refine ⟨μ, h0, σd, ra, R, Sr, e1, fun μ1 H1 v p t R1 rv => ?_⟩
  simp only [evE] at e1
  obtain ⟨r1, f1, f2⟩ := Option.bind_eq_some_iff.mp e1
  obtain ⟨r2, f3, f4⟩ := Option.bind_eq_some_iff.mp f2
  obtain ⟨c0, f5, rfl⟩ := Option.map_eq_some_iff.mp f4
  cases rv
  simp only [truth, Option.some.injEq] at e3
  subst e3
  exact ⟨_, rfl, o μ1 H1 p t R1⟩
theorem tI_and {K : PySem.W.Frag} {σ : L2.St} {H : Hp} {Q : VK} (q : tI K T (evE cl (.and a b)) σ H Q) : tAndX K (tI K T (evE cl a)) (tI K T (evE cl b)) σ H Q := by
  obtain ⟨μ, h0, σd, r, R, Sr, e, o⟩ := q
  simp only [evE] at e
  obtain ⟨ra, e1, e2⟩ := Option.bind_eq_some_iff.mp e
  refine ⟨μ, h0, σd, ra, R, Sr, e1, fun μ1 H1 v p t R1 rv => ?_⟩
  cases c : truth ra.1 ra.2 with
  | none => rw [c] at e2; cases e2
  | some k =>
    rw [c] at e2
    refine ⟨k, tru_of R1 rv c, ?_⟩
    cases k with
    | true => exact ⟨μ1, ra.2, σd, r, R1, Sr.mono p t, e2, o.later p t⟩
    | false =>
      cases e2
      exact (o.later p t).here R1 rv
theorem tI_or {K : PySem.W.Frag} {σ : L2.St} {H : Hp} {Q : VK} (q : tI K T (evE cl (.or a b)) σ H Q) : tOrX K (tI K T (evE cl a)) (tI K T (evE cl b)) σ H Q := by
  obtain ⟨μ, h0, σd, r, R, Sr, e, o⟩ := q
  simp only [evE] at e
  obtain ⟨ra, e1, e2⟩ := Option.bind_eq_some_iff.mp e
  refine ⟨μ, h0, σd, ra, R, Sr, e1, fun μ1 H1 v p t R1 rv => ?_⟩
  cases c : truth ra.1 ra.2 with
  | none => rw [c] at e2; cases e2
  | some k =>
    rw [c] at e2
    refine ⟨k, tru_of R1 rv c, ?_⟩
    cases k with
    | false => exact ⟨μ1, ra.2, σd, r, R1, Sr.mono p t, e2, o.later p t⟩
    | true =>
      cases e2
      exact (o.later p t).here R1 rv
theorem tB_and {K : PySem.W.Frag} {σ : L2.St} {H : Hp} {Q : Bool → Hp → Prop} (q : tBl K T (tst (evE cl (.and a b))) σ H Q) : tAnd (tBl K T (tst (evE cl a))) (tBl K T (tst (evE cl b))) σ H Q := by
  obtain ⟨μ, h0, σd, r, R, Sr, e, o⟩ := q
  obtain ⟨rr, e1, e2⟩ := Option.bind_eq_some_iff.mp e
  obtain ⟨b0, e3, rfl⟩ := Option.map_eq_some_iff.mp e2
  simp only [evE] at e1
  obtain ⟨ra, f1, f2⟩ := Option.bind_eq_some_iff.mp e1
  cases c : truth ra.1 ra.2 with
  | none => rw [c] at f2; cases f2
  | some k =>
    rw [c] at f2
    refine ⟨μ, h0, σd, (k, ra.2), R, Sr, by show (evE cl a σd h0).bind _ = _; rw [f1]; show (truth ra.1 ra.2).map _ = _; rw [c]; rfl, fun μ1 H1 p t R1 => ?_⟩
    cases k with
    | true => exact ⟨μ1, ra.2, σd, (b0, rr.2), R1, Sr.mono p t, by show (evE cl b σd ra.2).bind _ = _; rw [(show evE cl b σd ra.2 = some rr from f2)]; show (truth rr.1 rr.2).map _ = _; rw [e3]; rfl, o.later p t⟩
    | false =>
      cases f2
      rw [c] at e3
      cases e3
      exact o μ1 H1 p t R1
theorem tB_or {K : PySem.W.Frag} {σ : L2.St} {H : Hp} {Q : Bool → Hp → Prop} (q : tBl K T (tst (evE cl (.or a b))) σ H Q) : tOr (tBl K T (tst (evE cl a))) (tBl K T (tst (evE cl b))) σ H Q := by
  obtain ⟨μ, h0, σd, r, R, Sr, e, o⟩ := q
  obtain ⟨rr, e1, e2⟩ := Option.bind_eq_some_iff.mp e
  obtain ⟨b0, e3, rfl⟩ := Option.map_eq_some_iff.mp e2
  simp only [evE] at e1
  obtain ⟨ra, f1, f2⟩ := Option.bind_eq_some_iff.mp e1
  cases c : truth ra.1 ra.2 with
  | none => rw [c] at f2; cases f2
  | some k =>
    rw [c] at f2
    refine ⟨μ, h0, σd, (k, ra.2), R, Sr, by show (evE cl a σd h0).bind _ = _; rw [f1]; show (truth ra.1 ra.2).map _ = _; rw [c]; rfl, fun μ1 H1 p t R1 => ?_⟩
    cases k with
    | false => exact ⟨μ1, ra.2, σd, (b0, rr.2), R1, Sr.mono p t, by show (evE cl b σd ra.2).bind _ = _; rw [(show evE cl b σd ra.2 = some rr from f2)]; show (truth rr.1 rr.2).map _ = _; rw [e3]; rfl, o.later p t⟩
    | true =>
      cases f2
      rw [c] at e3
      cases e3
      exact o μ1 H1 p t R1
theorem ek_and {r : List Expr} (ha : PE X x (tI X.K T (evE cl a))) (ta : PT X x (tBl X.K T (tst (evE cl a)))) (hb : PE X (.BoolOp .And (y :: r) pos) (tI X.K T (evE cl b))) (tb : PW X (.BoolOp .And (y :: r) pos) (tBl X.K T (tst (evE cl b)))) : EK X T (evE cl (.and a b)) (.BoolOp .And (x :: y :: r) pos) := by
  have w : PW X (.BoolOp .And (x :: y :: r) pos) (tBl X.K T (tst (evE cl (.and a b)))) := (pw_and ta tb).imp fun σ H Q q => tB_and q
  exact ⟨(pe_andX ha hb).imp fun σ H Q q => tI_and q, fun _ => w.pt, fun op vs pos z => by cases z; exact w⟩
theorem ek_or {r : List Expr} (ha : PE X x (tI X.K T (evE cl a))) (ta : PT X x (tBl X.K T (tst (evE cl a)))) (hb : PE X (.BoolOp .Or (y :: r) pos) (tI X.K T (evE cl b))) (tb : PW X (.BoolOp .Or (y :: r) pos) (tBl X.K T (tst (evE cl b)))) : EK X T (evE cl (.or a b)) (.BoolOp .Or (x :: y :: r) pos) := by
  have w : PW X (.BoolOp .Or (x :: y :: r) pos) (tBl X.K T (tst (evE cl (.or a b)))) := (pw_or ta tb).imp fun σ H Q q => tB_or q
  exact ⟨(pe_orX ha hb).imp fun σ H Q q => tI_or q, fun _ => w.pt, fun op vs pos z => by cases z; exact w⟩
theorem ek_not (ha : PE X x (tI X.K T (evE cl a))) (ta : PT X x (tBl X.K T (tst (evE cl a)))) : EK X T (evE cl (.not a)) (.UnaryOp .Not x pos) := by
  refine ⟨(pe_notX ha).imp fun σ H Q q => ?_, fun _ => (pt_not ta).imp fun σ H Q q => ?_, fun _ _ _ z => nomatch z⟩
  · obtain ⟨μ, h0, σd, r, R, Sr, e, o⟩ := q
    simp only [evE] at e
    obtain ⟨ra, e1, e2⟩ := Option.bind_eq_some_iff.mp e
    obtain ⟨k, e3, rfl⟩ := Option.map_eq_some_iff.mp e2
    exact ⟨μ, h0, σd, ra, R, Sr, e1, fun μ1 H1 v p t R1 rv => ⟨k, tru_of R1 rv e3, (o.later p t).here R1 (.bl _)⟩⟩
  · obtain ⟨μ, h0, σd, r, R, Sr, e, o⟩ := q
    obtain ⟨rr, e1, e2⟩ := Option.bind_eq_some_iff.mp e
    obtain ⟨b0, e3, rfl⟩ := Option.map_eq_some_iff.mp e2
    simp only [evE] at e1
    obtain ⟨ra, f1, f2⟩ := Option.bind_eq_some_iff.mp e1
    obtain ⟨k, f3, rfl⟩ := Option.map_eq_some_iff.mp f2
    simp only [truth, Option.some.injEq] at e3
    subst e3
    exact ⟨μ, h0, σd, (k, ra.2), R, Sr, by show (evE cl a σd h0).bind _ = _; rw [f1]; show (truth ra.1 ra.2).map _ = _; rw [f3]; rfl, fun μ1 H1 p t R1 => o μ1 H1 p t R1⟩
theorem ek_ife (tc : PT X x (tBl X.K T (tst (evE cl c)))) (ha : PE X y (tI X.K T (evE cl a))) (hb : PE X z (tI X.K T (evE cl b))) : EK X T (evE cl (.ife c a b)) (.IfExp x y z pos) := by
  refine ⟨(pe_ifExp tc ha hb).imp fun σ H Q q => ?_, (fun w => by cases w), (fun _ _ _ z => nomatch z)⟩
  obtain ⟨μ, h0, σd, r, R, Sr, e, o⟩ := q
  simp only [evE] at e
  obtain ⟨ra, e1, e2⟩ := Option.bind_eq_some_iff.mp e
  cases c0 : truth ra.1 ra.2 with
  | none => rw [c0] at e2; cases e2
  | some k =>
    rw [c0] at e2
    refine ⟨μ, h0, σd, (k, ra.2), R, Sr, by show (evE cl c σd h0).bind _ = _; rw [e1]; show (truth ra.1 ra.2).map _ = _; rw [c0]; rfl, fun μ1 H1 p t R1 => ?_⟩
    cases k with
    | true => exact ⟨μ1, ra.2, σd, r, R1, Sr.mono p t, e2, o.later p t⟩
    | false => exact ⟨μ1, ra.2, σd, r, R1, Sr.mono p t, e2, o.later p t⟩
theorem ek_idx (hu : X.A.units + 400 < cLine) (ha : PE X x (tI X.K T (evE cl a))) (hb : PE X y (tI X.K T (evE cl b))) (hs : noSlice y = true) : EK X T (evE cl (.idx a b)) (.Subscript x y pos) :=
  ek_val ((pe_ix (ix_all (T := T) hu) ha hb (plain_ix hs)).imp fun σ H Q q => tI_bin (g := idxD) q) (fun _ => rfl) (fun _ _ _ z => nomatch z)
def PartK (X : Cx) (T : List Addr) (cl : Nat → List D → HI → Rz) (lo : ME) (l : Option Expr) : Prop :=
  ∃ t : TO, PO X l t ∧ ∀ {σ : L2.St} {H : Hp} {μ : List Addr} {h : HI} {σd : MP.St} {r : D × HI} {i : Option Int} {Q : Option Int → Hp → Prop}, HR X.K T μ h H → SR X.K μ H σd σ → evE cl lo σd h = some r → partOf (isOmit lo) r.1 = some i →
    (∀ μ' H', μ <+: μ' → TK X.K H H' → HR X.K T μ' r.2 H' → Q i H') → t σ H Q
theorem part_none : PartK X T cl .omit none := ⟨tNoPart, po_none, fun {σ H μ h σd r i Q} R S e e2 q => by
  cases e
  cases e2
  exact q μ H (List.prefix_refl _) TK.refl R⟩
theorem part_some {lo : ME} {l : Expr} (h : PE X l (tI X.K T (evE cl lo))) (hn : isOmit lo = false) : PartK X T cl lo (some l) := ⟨tPart _, po_some h, fun {σ H μ h σd r i Q} R S e e2 q => by
  refine ⟨μ, h, σd, r, R, S, e, fun μ1 H1 v p t R1 rv => ?_⟩
  rw [hn] at e2
  obtain ⟨d, h1⟩ := r
  cases rv with
  | int j => cases e2; exact ⟨j, rfl, q μ1 H1 p t R1⟩
  | _ => cases e2⟩
theorem ek_slc {lo hi : ME} {l u : Option Expr} {p2 : Pos} (ha : PE X x (tI X.K T (evE cl a))) (hl : PartK X T cl lo l) (hh : PartK X T cl hi u) : EK X T (evE cl (.slc a lo hi)) (.Subscript x (.Slice l u none p2) pos) := by
  obtain ⟨tl, pl, kl⟩ := hl
  obtain ⟨tu, pu, ku⟩ := hh
  refine ek_val ((pe_slice (sl_all (T := T)) ha pl pu).imp fun σ H Q q => ?_) (fun _ => rfl) (fun _ _ _ z => nomatch z)
  obtain ⟨μ, h0, σd, r, R, Sr, e, o⟩ := q
  simp only [evE] at e
  obtain ⟨ra, e1, e2⟩ := Option.bind_eq_some_iff.mp e
  obtain ⟨rl, e3, e4⟩ := Option.bind_eq_some_iff.mp e2
  obtain ⟨ru, e5, e6⟩ := Option.bind_eq_some_iff.mp e4
  split at e6
  · rename_i il iu c1 c2
    refine ⟨μ, h0, σd, ra, R, Sr, e1, fun μ1 H1 v p t R1 rv => kl R1 (Sr.mono p t) e3 c1 fun μ2 H2 p2 t2 R2 => ku R2 ((Sr.mono p t).mono p2 t2) e5 c2 fun μ3 H3 p3 t3 R3 => ?_⟩
    exact ⟨μ3, ru.2, ra.1, r, R3, (rv.mono p2 t2).mono p3 t3, e6, ((o.later p t).later p2 t2).later p3 t3⟩
  · cases e6
theorem ek_call (W : XW G cl T L S n X) {f : Nat} {x : Str} {np : Nat} {m : Expr} {ms : List Expr} {es : MEs} {nm : Pos} (hg : gloB S.sc x = true) (hf : G.fs[f]? = some (x, np)) (hc : chkEs G S n es (m :: ms) = true) (ha : PA X (m :: ms) (tL X.K T (evEs cl es))) (hl : (m :: ms).length = np) :
    EK X T (evE cl (.call f es)) (.Call (.Name x nm) (m :: ms) [] pos) := by
  obtain ⟨g1, g2, _⟩ := W.glo hg
  obtain ⟨ad, fd, ps, h1, h2, h3, h4⟩ := W.fs f x np hf
  have hst : starEach (m :: ms) X.env = (false, eval m X.env) :: starEach ms X.env := by
    cases es with
    | nil => simp [chkEs] at hc
    | cons e0 es0 => simp only [chkEs, Bool.and_eq_true] at hc; exact star_cons hc.1.1
  have hany : (backTo pos (starEach ms X.env)).any (·.1) = false := by
    cases es with
    | nil => simp [chkEs] at hc
    | cons e0 es0 => simp only [chkEs, Bool.and_eq_true] at hc; exact stars_any hc.2
  refine ek_val ((pe_call (E := fun _ _ _ => False) (dvs := []) h4 (W.room.mono (Nat.le_add_right L n)) g1 h1 h2 h3 .nil pass0 ha g2 hst hany).imp fun σ H Q q => ?_) (fun _ => rfl) (fun _ _ _ z => nomatch z)
  obtain ⟨μ, h0, σd, r, R, Sr, e, o⟩ := q
  simp only [evE] at e
  obtain ⟨ra, e1, e2⟩ := Option.bind_eq_some_iff.mp e
  refine ⟨μ, h0, σd, ra, R, Sr, e1, fun μ1 H1 vs p t R1 rv => ⟨?_, μ1, ra.2, ra.1, r, R1, by rw [List.append_nil]; exact rv, e2, o.later p t⟩⟩
  rw [List.append_nil, ← rv.length, evEs_length hc e1, hl]
theorem blt_id (W : XW G cl T L S n X) {x : Str} {b : String} (h : bltB G S x b = true) : x = Str.ofString b ∧ Gl X x ∧ X.mg x = none ∧ (x == ("__debug__" : Str)) = false ∧ x ≠ "__name__" := by
  simp only [bltB, Bool.and_eq_true, beq_iff_eq, List.contains_iff_mem] at h
  obtain ⟨g1, g2, g3⟩ := W.glo h.1.2
  exact ⟨h.1.1, g1, W.bn x h.2, g2, g3⟩
theorem ek_blt (W : XW G cl T L S n X) {bb : Blt} {x : Str} {m : Expr} {ms : List Expr} {es : MEs} {nm : Pos} (hb : bltB G S x (bltName bb) = true) (hn : ∀ t, bb ≠ .isi t) (hc : chkEs G S n es (m :: ms) = true) (ha : PA X (m :: ms) (tL X.K T (evEs cl es))) :
    EK X T (evE cl (.blt bb es)) (.Call (.Name x nm) (m :: ms) [] pos) := by
  obtain ⟨rfl, g1, g2, g3, g4⟩ := blt_id W hb
  have hst : starEach (m :: ms) X.env = (false, eval m X.env) :: starEach ms X.env := by
    cases es with
    | nil => simp [chkEs] at hc
    | cons e0 es0 => simp only [chkEs, Bool.and_eq_true] at hc; exact star_cons hc.1.1
  have hany : (backTo pos (starEach ms X.env)).any (·.1) = false := by
    cases es with
    | nil => simp [chkEs] at hc
    | cons e0 es0 => simp only [chkEs, Bool.and_eq_true] at hc; exact stars_any hc.2
  have fin : PE X (.Call (.Name (Str.ofString (bltName bb)) nm) (m :: ms) [] pos) (tCB (rVs X.K T (bltD bb)) (tL X.K T (evEs cl es))) := by
    cases bb with
    | len => exact pe_callB (len_all (T := T)) g1 g2 (by decide +kernel) ha g4 g3 hst hany
    | int => exact pe_callTy (int_all (T := T)) g1 g2 (by decide +kernel) ha g4 g3 hst hany
    | str => exact pe_callTy (str_all (T := T)) g1 g2 (by decide +kernel) ha g4 g3 hst hany
    | list => exact pe_callTy (list_all (T := T) W.calm) g1 g2 (by decide +kernel) ha g4 g3 hst hany
    | tuple => exact pe_callTy (tuple_all (T := T)) g1 g2 (by decide +kernel) ha g4 g3 hst hany
    | isi t => exact absurd rfl (hn t)
  exact ek_val (fin.imp fun σ H Q q => tI_fn (g := bltD bb) q) (fun _ => rfl) (fun _ _ _ z => nomatch z)
theorem ek_isi (W : XW G cl T L S n X) {t : Ty} {x y : Str} {m : Expr} {a : ME} {nm p2 : Pos} (hb : bltB G S x "isinstance" = true) (hy : bltB G S y (tyName t) = true) (hs : noStar m = true) (ha : PE X m (tI X.K T (evE cl a))) :
    EK X T (evE cl (.isi t a)) (.Call (.Name x nm) [m, .Name y p2] [] pos) := by
  obtain ⟨rfl, g1, g2, g3, g4⟩ := blt_id W hb
  obtain ⟨rfl, k1, k2, k3, k4⟩ := blt_id W hy
  have hty : bootBuiltins (Str.ofString (tyName t)) = some (.type (tyName t)) := by cases t <;> decide +kernel
  have pa : PA X [m, .Name (Str.ofString (tyName t)) p2] (tCons (tI X.K T (evE cl a)) (tCons (tC (.ty (tyName t))) tNil)) :=
    pa_cons ha (pa_cons (pe_bltn k1 k2 hty rfl k4 k3) pa_nil rfl) (star_cons hs)
  refine ek_val ((pe_callB (isi_all (T := T) t) g1 g2 (by decide +kernel) pa g4 g3 (star_cons hs) rfl).imp fun σ H Q q => ?_) (fun _ => rfl) (fun _ _ _ z => nomatch z)
  obtain ⟨μ, h0, σd, r, R, Sr, e, o⟩ := q
  simp only [evE] at e
  obtain ⟨ra, e1, e2⟩ := Option.bind_eq_some_iff.mp e
  exact ⟨μ, h0, σd, ra, R, Sr, e1, fun μ1 H1 v p t1 R1 rv => ⟨v, rfl, μ1, ra.2, [ra.1], r, R1, .cons rv .nil, e2, o.later p t1⟩⟩
theorem ek_mth (W : XW G cl T L S n X) {m : Mth} {o : Expr} {a : ME} {l : List Expr} {es : MEs} {apos cpos : Pos} (hb : noBase o = true) (hline : (apos.endLine == cpos.line) = true) (hlen : l.length < 29) (hc : chkEs G S n es l = true) (ho : PE X o (tI X.K T (evE cl a))) (ha : PA X l (tL X.K T (evEs cl es))) :
    EK X T (evE cl (.mth m a es)) (.Call (.Attribute o (mthName m) apos) l [] cpos) := by
  have pa : PySem.PlainAttrs (mtId m).1 := by
    cases m
    · exact PySem.F.plainAttrs_list
    · exact PySem.F.plainAttrs_list
    · exact PySem.F.plainAttrs_list
    · exact PySem.F.plainAttrs_dict
  have slot : Slot (mtId m).1 (mthName m) (mtId m).2.2 := by
    cases m
    · exact PySem.F.slot_list_append
    · exact PySem.F.slot_list_extend
    · exact PySem.F.slot_list_pop
    · exact PySem.F.slot_dict_get
  have hty : typeOf (.builtin (mtId m).2.2) = pure (.type "method_descriptor") := by
    cases m
    · exact PySem.F.type_list_append
    · exact PySem.F.type_list_extend
    · exact PySem.F.type_list_pop
    · exact PySem.F.type_dict_get
  cases l with
  | nil =>
    cases es with
    | cons _ _ => simp [chkEs] at hc
    | nil =>
      refine ek_val ((pe_bm0 pa slot hty (mt_all (T := T) W.hu m) ho (base_ok hb) hline).imp fun σ H Q q => ?_) (fun _ => rfl) (fun _ _ _ z => nomatch z)
      obtain ⟨μ, h0, σd, r, R, Sr, e, o⟩ := q
      simp only [evE, evEs] at e
      obtain ⟨ra, e1, e2⟩ := Option.bind_eq_some_iff.mp e
      obtain ⟨hc, e2⟩ := Option.ite_none_right_eq_some.mp e2
      obtain ⟨rb, e3, e4⟩ := Option.bind_eq_some_iff.mp e2
      cases e3
      exact ⟨μ, h0, σd, ra, R, Sr, e1, fun μ1 H1 x p t R1 rx => ⟨tyV_of R1 rx hc, μ1, ra.2, ra.1, [], r, R1, rx, .nil, e4, o.later p t⟩⟩
  | cons e0 es0 =>
    have hst : starEach (e0 :: es0) X.env = (false, eval e0 X.env) :: starEach es0 X.env := by
      cases es with
      | nil => simp [chkEs] at hc
      | cons e1 es1 => simp only [chkEs, Bool.and_eq_true] at hc; exact star_cons hc.1.1
    have hany : (backTo cpos (starEach es0 X.env)).any (·.1) = false := by
      cases es with
      | nil => simp [chkEs] at hc
      | cons e1 es1 => simp only [chkEs, Bool.and_eq_true] at hc; exact stars_any hc.2
    have hfew : ((backTo cpos (starEach (e0 :: es0) X.env)).all (fun x => !x.1) && (backToKw cpos (keywordEach [] X.env)).all (fun x => x.1.isSome)
      && decide ((e0 :: es0).length + ([] : List Keyword).length + (if ([] : List Keyword).isEmpty then 0 else 1) < 30)) = true := by
      rw [stars_all hc]
      have : (e0 :: es0).length + 0 + 0 < 30 := by simp only [List.length_cons] at hlen ⊢; omega
      simpa [backToKw, keywordEach] using this
    exact ek_val ((pe_bm pa slot hty (mt_all (T := T) W.hu m) ho ha (base_ok hb) hfew hline hst hany).imp fun σ H Q q => tI_mth q) (fun _ => rfl) (fun _ _ _ z => nomatch z)
end
end MP
namespace MP
open PySem PySem.Spec PyProof.Rows L2
section
variable {G : GI} {cl : Nat → List D → HI → Rz} {T : List Addr} {L : Nat}
def ifB (G : GI) (S : SC) (n : Nat) (ifs : List Expr) (c : ME) : Bool := chkIfs (fun f => chkE G S n c f) c ifs
theorem pts_of {X : Cx} {S : SC} {n : Nat} {ifs : List Expr} {c : ME} (h : ifB G S n ifs c = true) (ih : ∀ f, chkE G S n c f = true → EK X T (evE cl c) f) : PTs X ifs (tBl X.K T (tst (evE cl c))) := by
  cases ifs with
  | nil =>
    have h : isYes c = true := h
    have e : c = .cst (.bl true) := by
      cases c with
      | cst d =>
        cases d with
        | bl b => rw [show b = true from h]
        | _ => cases h
      | _ => cases h
    subst e
    refine pts_nil.imp fun σ H Q q => ?_
    obtain ⟨μ, h0, σd, r, R, Sr, e, o⟩ := q
    cases e
    exact o μ H (List.prefix_refl _) TK.refl R
  | cons f r =>
    cases r with
    | nil =>
      have h : (okT f && chkE G S n c f) = true := h
      simp only [Bool.and_eq_true] at h
      exact pts_one ((ih f h.2).2.1 h.1)
    | cons _ _ => cases h
theorem sub_ok {a b : List Nat} (h : subset a b = true) : ∀ i ∈ a, i ∈ b := by simpa [subset] using h
theorem omit_ok {v : ME} (h : isOmit v = true) : v = .omit := by cases v <;> first | rfl | cases h
variable {S : SC} {n : Nat} {X : Cx}
theorem ek_lc (W : XW G cl T L S n X) {own : List Nat} {t : Tg} {i : MI} {c e v : ME} {elt tg iter : Expr} {ifs : List Expr} {scope : Scope} {pos : Pos} (hb : blkB S.N S.sc scope (ownOf S.N own) = true) (hi : PI X tg iter (tIt X.K T (evI cl i))) (hs : noSet iter = true)
    (ht : chkT ⟨S.N, relS scope S.sc, false⟩ t tg = true) (hx : subset t.ix own = true) (hf : ifB G ⟨S.N, relS scope S.sc, false⟩ n ifs c = true)
    (ihc : ∀ X', XW G cl T L ⟨S.N, relS scope S.sc, false⟩ n X' → ∀ f, chkE G ⟨S.N, relS scope S.sc, false⟩ n c f = true → EK X' T (evE cl c) f)
    (ihe : ∀ X', XW G cl T L ⟨S.N, relS scope S.sc, false⟩ n X' → EK X' T (evE cl e) elt) (hv : isOmit v = true) :
    EK X T (evE cl (.comp .lst own (.one t i c e v))) (.ListComp elt [⟨tg, iter, ifs, 0⟩] scope pos) := by
  have bo := blkB_ok hb
  have := pe_lc (pos := pos) (te := tI X.K T (evE cl e)) (tt := tBl X.K T (tst (evE cl c))) (g := tGd X.K t) W.calm W.nd hi (by rw [W.N, W.sc]; exact bo) (fun s H C cs fp => sndT (W.blk s H C cs fp scope).xt ht) (fun s H C cs fp => pts_of hf (ihc _ (W.blk s H C cs fp scope))) (fun s H C cs fp => (ihe _ (W.blk s H C cs fp scope)).1) (fold_ok hs)
  rw [ownOf_ix] at this
  exact ek_val (this.imp fun σ H Q q => lc_of (omit_ok hv) (sub_ok hx) q) (fun _ => rfl) (fun _ _ _ z => nomatch z)
theorem ek_dc (W : XW G cl T L S n X) {own : List Nat} {t : Tg} {i : MI} {c e v : ME} {elt val tg iter : Expr} {ifs : List Expr} {scope : Scope} {pos : Pos} (hb : blkB S.N S.sc scope (ownOf S.N own) = true) (hi : PI X tg iter (tIt X.K T (evI cl i))) (hs : noSet iter = true)
    (ht : chkT ⟨S.N, relS scope S.sc, false⟩ t tg = true) (hx : subset t.ix own = true) (hf : ifB G ⟨S.N, relS scope S.sc, false⟩ n ifs c = true)
    (ihc : ∀ X', XW G cl T L ⟨S.N, relS scope S.sc, false⟩ n X' → ∀ f, chkE G ⟨S.N, relS scope S.sc, false⟩ n c f = true → EK X' T (evE cl c) f)
    (ihe : ∀ X', XW G cl T L ⟨S.N, relS scope S.sc, false⟩ n X' → EK X' T (evE cl e) elt) (ihv : ∀ X', XW G cl T L ⟨S.N, relS scope S.sc, false⟩ n X' → EK X' T (evE cl v) val) :
    EK X T (evE cl (.comp .dct own (.one t i c e v))) (.DictComp elt val [⟨tg, iter, ifs, 0⟩] scope pos) := by
  have bo := blkB_ok hb
  have := pe_dc (pos := pos) (tk := tI X.K T (evE cl e)) (tv := tI X.K T (evE cl v)) (tt := tBl X.K T (tst (evE cl c))) (g := tGd X.K t) W.calm W.nd hi (by rw [W.N, W.sc]; exact bo) (fun s H C cs fp => sndT (W.blk s H C cs fp scope).xt ht) (fun s H C cs fp => pts_of hf (ihc _ (W.blk s H C cs fp scope))) (fun s H C cs fp => (ihe _ (W.blk s H C cs fp scope)).1) (fun s H C cs fp => (ihv _ (W.blk s H C cs fp scope)).1) (fold_ok hs)
  rw [ownOf_ix] at this
  exact ek_val (this.imp fun σ H Q q => dc_of (sub_ok hx) q) (fun _ => rfl) (fun _ _ _ z => nomatch z)
theorem ek_lc2 (W : XW G cl T L S n X) {own own1 : List Nat} {t t1 : Tg} {i i1 : MI} {c c1 e v : ME} {elt tg iter tg1 iter1 : Expr} {ifs ifs1 : List Expr} {scope : Scope} {pos : Pos} (hb : blkB S.N S.sc scope (ownOf S.N own) = true) (ho : subset own1 own = true)
    (hi : PI X tg iter (tIt X.K T (evI cl i))) (hs : noSet iter = true)
    (ht : chkT ⟨S.N, relS scope S.sc, false⟩ t tg = true) (hx : subset t.ix own = true) (hf : ifB G ⟨S.N, relS scope S.sc, false⟩ n ifs c = true)
    (ihc : ∀ X', XW G cl T L ⟨S.N, relS scope S.sc, false⟩ n X' → ∀ f, chkE G ⟨S.N, relS scope S.sc, false⟩ n c f = true → EK X' T (evE cl c) f)
    (hi1 : ∀ X', XW G cl T L ⟨S.N, relS scope S.sc, false⟩ n X' → PI X' tg1 iter1 (tIt X'.K T (evI cl i1))) (hs1 : noSet iter1 = true)
    (ht1 : chkT ⟨S.N, relS scope S.sc, false⟩ t1 tg1 = true) (hx1 : subset t1.ix own1 = true) (hf1 : ifB G ⟨S.N, relS scope S.sc, false⟩ n ifs1 c1 = true)
    (ihc1 : ∀ X', XW G cl T L ⟨S.N, relS scope S.sc, false⟩ n X' → ∀ f, chkE G ⟨S.N, relS scope S.sc, false⟩ n c1 f = true → EK X' T (evE cl c1) f)
    (ihe : ∀ X', XW G cl T L ⟨S.N, relS scope S.sc, false⟩ n X' → EK X' T (evE cl e) elt) (hv : isOmit v = true) :
    EK X T (evE cl (.comp .lst own (.more t i c own1 (.one t1 i1 c1 e v)))) (.ListComp elt [⟨tg, iter, ifs, 0⟩, ⟨tg1, iter1, ifs1, 0⟩] scope pos) := by
  have bo := blkB_ok hb
  have := pe_lc2 (pos := pos) (vs1 := own1) (te := tI X.K T (evE cl e)) (tt := tBl X.K T (tst (evE cl c))) (g := tGd X.K t) (wi1 := tIt X.K T (evI cl i1)) (tt1 := tBl X.K T (tst (evE cl c1))) (g1 := tGd X.K t1) W.calm W.nd hi (by rw [W.N, W.sc]; exact bo) (by rw [ownOf_ix]; exact sub_ok ho) (fun s H C cs fp => sndT (W.blk s H C cs fp scope).xt ht) (fun s H C cs fp => pts_of hf (ihc _ (W.blk s H C cs fp scope)))
    (fun s H C cs fp => hi1 _ (W.blk s H C cs fp scope)) (fun s H C cs fp => sndT (W.blk s H C cs fp scope).xt ht1) (fun s H C cs fp => pts_of hf1 (ihc1 _ (W.blk s H C cs fp scope))) (fun s H C cs fp => (ihe _ (W.blk s H C cs fp scope)).1) (fold_ok hs) (fun env => fold_ok hs1)
  rw [ownOf_ix] at this
  exact ek_val (this.imp fun σ H Q q => lc2_of (omit_ok hv) (sub_ok hx) (sub_ok hx1) q) (fun _ => rfl) (fun _ _ _ z => nomatch z)
theorem gen_ask (W : XW G cl T L S (n + 1) X) (hn : n = 0) {c0 P : Addr} (hc0 : X.env.code = .ref c0) (tb : GxR.TabB X.base X.mg c0 P) {own : List Nat} {t : Tg} {i : MI} {c e : ME} {elt tg iter : Expr} {ifs : List Expr} {scope : Scope} (hb : genB S.N S.sc scope (ownOf S.N own) = true) (hi : PI X tg iter (tIt X.K T (evI cl i))) (hs : noFold iter = true)
    (ht : chkT ⟨S.N, scope, false⟩ t tg = true) (hf : ifB G ⟨S.N, scope, false⟩ n ifs c = true)
    (ihc : ∀ X', XW G cl T L ⟨S.N, scope, false⟩ n X' → ∀ f, chkE G ⟨S.N, scope, false⟩ n c f = true → EK X' T (evE cl c) f)
    (ihe : ∀ X', XW G cl T L ⟨S.N, scope, false⟩ n X' → EK X' T (evE cl e) elt) :
    GenAsk X c0 P elt tg iter ifs scope (ownOf S.N own) (tIt X.K T (evI cl i)) (tGd X.K t) (tBl X.K T (tst (evE cl c))) (tI X.K T (evE cl e)) where
  calm := W.calm
  room := by have := W.room.dp; omega
  tb := tb
  code := hc0
  sc := by rw [W.N, W.sc]; exact genB_ok hb
  nd := W.nd
  pi := hi
  pg := fun A s H C cs code fp a og => by
    exact sndT (S := ⟨S.N, scope, false⟩) (X := gcx X A s H scope (genEnv scope cs C code builtinsNs X.env) fp a og) ⟨W.N, rfl, W.nd, (fun z => nomatch z), W.calm⟩ ht
  pt := fun A s H C cs code fp a og h1 h2 h3 => pts_of hf (ihc _ (W.gen hn A s H C cs code fp a og scope h1 h2 h3))
  pe := fun A s H C cs code fp a og h1 h2 h3 => (ihe _ (W.gen hn A s H C cs code fp a og scope h1 h2 h3)).1
  fold := gfold_ok hs
theorem ek_gen (W : XW G cl T L S (n + 1) X) (hn : n = 0) {k : CK} {own : List Nat} {t : Tg} {i : MI} {c e v : ME} {elt tg iter : Expr} {ifs : List Expr} {scope : Scope} {x : Str} {pos nm gpos : Pos} (hk : genK G S x k = true)
    (hb : genB S.N S.sc scope (ownOf S.N own) = true) (hi : PI X tg iter (tIt X.K T (evI cl i))) (hs : noFold iter = true)
    (ht : chkT ⟨S.N, scope, false⟩ t tg = true) (hx : subset t.ix own = true) (hf : ifB G ⟨S.N, scope, false⟩ n ifs c = true)
    (ihc : ∀ X', XW G cl T L ⟨S.N, scope, false⟩ n X' → ∀ f, chkE G ⟨S.N, scope, false⟩ n c f = true → EK X' T (evE cl c) f)
    (ihe : ∀ X', XW G cl T L ⟨S.N, scope, false⟩ n X' → EK X' T (evE cl e) elt) (hv : isOmit v = true) :
    EK X T (evE cl (.comp k own (.one t i c e v))) (.Call (.Name x nm) [.GeneratorExp elt [⟨tg, iter, ifs, 0⟩] scope gpos] [] pos) := by
  obtain ⟨c0, P, hc0, tb, hP⟩ := W.code (Nat.succ_pos n)
  have K := gen_ask W hn hc0 tb hb hi hs ht hf ihc ihe
  cases k with
  | gtup =>
    obtain ⟨rfl, g1, g2, g3, g4⟩ := blt_id W hk
    have := pe_gtup (p := nm) (pos := pos) (gpos := gpos) K g1 g2
    rw [ownOf_ix] at this
    exact ek_val (this.imp fun σ H Q q => gtup_of hP (omit_ok hv) (sub_ok hx) q) (fun _ => rfl) (fun _ _ _ z => nomatch z)
  | gall =>
    obtain ⟨rfl, g1, g2, g3, g4⟩ := blt_id W hk
    have := pe_gall (p := nm) (pos := pos) (gpos := gpos) K g1 g2
    rw [ownOf_ix] at this
    exact ek_val (this.imp fun σ H Q q => gall_of hP (omit_ok hv) (sub_ok hx) q) (fun _ => rfl) (fun _ _ _ z => nomatch z)
  | gany =>
    obtain ⟨rfl, g1, g2, g3, g4⟩ := blt_id W hk
    have := pe_gany (p := nm) (pos := pos) (gpos := gpos) K g1 g2
    rw [ownOf_ix] at this
    exact ek_val (this.imp fun σ H Q q => gany_of hP (omit_ok hv) (sub_ok hx) q) (fun _ => rfl) (fun _ _ _ z => nomatch z)
  | _ => cases hk
theorem ik_rng (W : XW G cl T L S n X) {x : Str} {l : List Expr} {ms : MEs} {tg : Expr} {nm pos : Pos} (hb : bltB G S x "range" = true) (hl : (l.length == 1 || l.length == 2) = true) (hc : chkEs G S n ms l = true) (ha : PA X l (tL X.K T (evEs cl ms))) :
    PI X tg (.Call (.Name x nm) l [] pos) (tIt X.K T (evI cl (.rng ms))) := by
  obtain ⟨rfl, g1, g2, g3, g4⟩ := blt_id W hb
  match l, ms, hc, hl, ha with
  | [e1], .cons m1 .nil, hc, _, ha =>
    simp only [chkEs, Bool.and_eq_true] at hc
    exact pi_rng1 g1 g2 ha (star_cons hc.1.1) fun σ h r e => by
      have := evEs_length (G := G) (S := S) (n := n) (es := [e1]) (by simp only [chkEs, Bool.and_eq_true]; exact hc) e
      exact this
  | [e1, e2], .cons m1 (.cons m2 .nil), hc, _, ha =>
    have hc' := hc
    simp only [chkEs, Bool.and_eq_true] at hc
    exact pi_rng2 g1 g2 ha (by rw [star_cons hc.1.1, star_cons hc.2.1.1]; rfl) (by rw [star_cons hc.2.1.1]; rfl) fun σ h r e => evEs_length hc' e
  | [_], .nil, hc, _, _ => simp [chkEs] at hc
  | [_], .cons _ (.cons _ _), hc, _, _ => simp [chkEs] at hc
  | [_, _], .nil, hc, _, _ => simp [chkEs] at hc
  | [_, _], .cons _ .nil, hc, _, _ => simp [chkEs] at hc
  | [_, _], .cons _ (.cons _ (.cons _ _)), hc, _, _ => simp [chkEs] at hc
  | [], _, _, hl, _ => simp at hl
  | _ :: _ :: _ :: _, _, _, hl, _ => simp at hl
theorem ik_zip (W : XW G cl T L S n X) {x : Str} {e1 e2 tg : Expr} {a b : ME} {nm pos : Pos} (ht : isTup tg = true) (hb : bltB G S x "zip" = true) (s1 : noStar e1 = true) (s2 : noStar e2 = true) (ha : PE X e1 (tI X.K T (evE cl a))) (hb2 : PE X e2 (tI X.K T (evE cl b))) :
    PI X tg (.Call (.Name x nm) [e1, e2] [] pos) (tIt X.K T (evI cl (.zip a b))) := by
  obtain ⟨rfl, g1, g2, g3, g4⟩ := blt_id W hb
  cases tg with
  | Tuple elts k p => exact pi_zip' g1 g2 ha hb2 (star_cons s1) (star_cons s2) (by rw [star_cons s2]; rfl)
  | _ => cases ht
theorem ik_enm (W : XW G cl T L S n X) {x : Str} {e1 tg : Expr} {a : ME} {nm pos : Pos} (ht : isTup tg = true) (hb : bltB G S x "enumerate" = true) (s1 : noStar e1 = true) (ha : PE X e1 (tI X.K T (evE cl a))) :
    PI X tg (.Call (.Name x nm) [e1] [] pos) (tIt X.K T (evI cl (.enm a))) := by
  obtain ⟨rfl, g1, g2, g3, g4⟩ := blt_id W hb
  cases tg with
  | Tuple elts k p => exact pi_enm' g1 g2 ha (star_cons s1)
  | _ => cases ht
end
end MP
namespace MP
open PySem PySem.Spec PyProof.Rows L2
section
variable {G : GI} {cl : Nat → List D → HI → Rz} {T : List Addr} {L : Nat}
theorem sp_and {b : ME} {S : SC} {n : Nat} {X : Cx} (ih : ∀ e, chkE G S n b e = true → EK X T (evE cl b) e) (o : BoolOp) (y : Expr) (r : List Expr) (pos : Pos)
    (h0 : (!r.isEmpty || okT y) = true) (h : chkE G S n b (nxt o y r pos) = true) : PE X (.BoolOp o (y :: r) pos) (tI X.K T (evE cl b)) ∧ PW X (.BoolOp o (y :: r) pos) (tBl X.K T (tst (evE cl b))) := by
  cases r with
  | nil =>
    obtain ⟨h1, h2, _⟩ := ih y h
    refine ⟨pe_one h1, ?_⟩
    cases o with
    | And => exact pw_and1 (h2 h0)
    | Or => exact pw_or1 (h2 h0)
  | cons z r =>
    obtain ⟨h1, _, h3⟩ := ih _ h
    exact ⟨h1, h3 _ _ _ rfl⟩
def KE (G : GI) (cl : Nat → List D → HI → Rz) (T : List Addr) (L : Nat) (m : ME) : Prop := ∀ {S : SC} {n : Nat} {X : Cx} {e : Expr}, n ≤ 1 → XW G cl T L S n X → chkE G S n m e = true → EK X T (evE cl m) e
def KI (G : GI) (cl : Nat → List D → HI → Rz) (T : List Addr) (L : Nat) (m : MI) : Prop := ∀ {S : SC} {n : Nat} {X : Cx} {tg e : Expr}, n ≤ 1 → XW G cl T L S n X → chkI G S n m tg e = true → PI X tg e (tIt X.K T (evI cl m))
def ClK (G : GI) (cl : Nat → List D → HI → Rz) (T : List Addr) (L : Nat) : Cl → Prop
  | .one t i c e v => KI G cl T L i ∧ KE G cl T L c ∧ KE G cl T L e ∧ KE G cl T L v
  | .more t i c own r => KI G cl T L i ∧ KE G cl T L c ∧ ClK G cl T L r
theorem ek_comp {k : CK} {own : List Nat} {c : Cl} (K : ClK G cl T L c) : KE G cl T L (.comp k own c) := by
  intro S n X e hn W h
  cases e with
  | ListComp elt gens scope pos =>
    cases k with
    | lst =>
      cases c with
      | one t i c e v =>
        match gens, h with
        | [⟨tg, iter, ifs, as⟩], h =>
          simp only [chkE, Bool.and_eq_true, beq_iff_eq] at h
          obtain ⟨⟨⟨⟨⟨⟨⟨⟨rfl, h1⟩, h2⟩, h3⟩, h4⟩, h5⟩, h6⟩, h7⟩, h8⟩ := h
          exact ek_lc W h1 (K.1 hn W h2) h3 h4 h5 h6 (fun X' W' f hf => K.2.1 hn W' hf) (fun X' W' => K.2.2.1 hn W' h7) h8
        | [], h => simp [chkE] at h
        | _ :: _ :: _, h => simp [chkE] at h
      | more t i c own1 r =>
        cases r with
        | more _ _ _ _ _ => simp [chkE] at h
        | one t1 i1 c1 e v =>
          match gens, h with
          | [⟨tg, iter, ifs, as⟩, ⟨tg1, iter1, ifs1, as1⟩], h =>
            simp only [chkE, Bool.and_eq_true, beq_iff_eq] at h
            obtain ⟨⟨⟨⟨⟨⟨⟨⟨⟨⟨⟨⟨⟨⟨⟨rfl, rfl⟩, h1⟩, h2⟩, h3⟩, h4⟩, h5⟩, h6⟩, h7⟩, h8⟩, h9⟩, h10⟩, h11⟩, h12⟩, h13⟩, h14⟩ := h
            exact ek_lc2 W h1 h2 (K.1 hn W h3) h4 h5 h6 h7 (fun X' W' f hf => K.2.1 hn W' hf) (fun X' W' => K.2.2.1 hn W' h8) h9 h10 h11 h12 (fun X' W' f hf => K.2.2.2.1 hn W' hf) (fun X' W' => K.2.2.2.2.1 hn W' h13) h14
          | [], h => simp [chkE] at h
          | [_], h => simp [chkE] at h
          | _ :: _ :: _ :: _, h => simp [chkE] at h
    | _ => cases c <;> simp [chkE] at h
  | DictComp key val gens scope pos =>
    cases k with
    | dct =>
      cases c with
      | one t i c e v =>
        match gens, h with
        | [⟨tg, iter, ifs, as⟩], h =>
          simp only [chkE, Bool.and_eq_true, beq_iff_eq] at h
          obtain ⟨⟨⟨⟨⟨⟨⟨⟨rfl, h1⟩, h2⟩, h3⟩, h4⟩, h5⟩, h6⟩, h7⟩, h8⟩ := h
          exact ek_dc W h1 (K.1 hn W h2) h3 h4 h5 h6 (fun X' W' f hf => K.2.1 hn W' hf) (fun X' W' => K.2.2.1 hn W' h7) (fun X' W' => K.2.2.2 hn W' h8)
        | [], h => simp [chkE] at h
        | _ :: _ :: _, h => simp [chkE] at h
      | more t i c own1 r => simp [chkE] at h
    | _ => cases c <;> simp [chkE] at h
  | Call fn l kws pos =>
    cases fn with
    | Name x nm =>
      match l, kws, h with
      | [a], [], h =>
        cases a with
        | GeneratorExp elt gens scope gpos =>
          cases c with
          | more t i c own1 r => simp [chkE] at h
          | one t i c e v =>
            match gens, h with
            | [⟨tg, iter, ifs, as⟩], h =>
              have h : (as == 0 && genK G S x k && n == 1 && genB S.N S.sc scope (ownOf S.N own) && chkI G S n i tg iter && noFold iter && chkT ⟨S.N, scope, false⟩ t tg && subset t.ix own
                && chkIfs (fun f => chkE G ⟨S.N, scope, false⟩ 0 c f) c ifs && chkE G ⟨S.N, scope, false⟩ 0 e elt && isOmit v) = true := by cases k <;> exact h
              simp only [Bool.and_eq_true, beq_iff_eq] at h
              obtain ⟨⟨⟨⟨⟨⟨⟨⟨⟨⟨rfl, h1⟩, rfl⟩, h2⟩, h3⟩, h4⟩, h5⟩, h6⟩, h7⟩, h8⟩, h9⟩ := h
              exact ek_gen W rfl h1 h2 (K.1 hn W h3) h4 h5 h6 h7 (fun X' W' f hf => K.2.1 (Nat.zero_le _) W' hf) (fun X' W' => K.2.2.1 (Nat.zero_le _) W' h8) h9
            | [], h => cases k <;> simp [chkE] at h
            | _ :: _ :: _, h => cases k <;> simp [chkE] at h
        | _ => cases k <;> cases c <;> simp [chkE] at h
      | [], _, h => cases k <;> cases c <;> simp [chkE] at h
      | _ :: _ :: _, _, h => cases k <;> cases c <;> simp [chkE] at h
      | [_], _ :: _, h => cases k <;> cases c <;> simp [chkE] at h
    | _ => cases k <;> cases c <;> simp [chkE] at h
  | _ => cases k <;> cases c <;> simp [chkE] at h
mutual
theorem sndE : ∀ (m : ME) {S : SC} {n : Nat} {X : Cx} {e : Expr}, n ≤ 1 → XW G cl T L S n X → chkE G S n m e = true → EK X T (evE cl m) e
  | .var i, S, n, X, e, hn, W, h => by
    cases e with
    | Name x pos => exact ek_var W h
    | _ => simp [chkE] at h
  | .cst d, S, n, X, e, hn, W, h => by
    cases e with
    | Constant c k pos => exact ek_cst h
    | _ => simp [chkE] at h
  | .glb d, S, n, X, e, hn, W, h => by
    cases e with
    | Name x pos => exact ek_glb W h
    | _ => simp [chkE] at h
  | .tup es, S, n, X, e, hn, W, h => by
    cases e with
    | Tuple l k pos => exact ek_tup (sndEs es hn W h)
    | _ => simp [chkE] at h
  | .lst es, S, n, X, e, hn, W, h => by
    cases e with
    | List l pos => exact ek_lst (sndEs es hn W h)
    | _ => simp [chkE] at h
  | .dnew, S, n, X, e, hn, W, h => by
    cases e with
    | Dict ks vs pos =>
      cases ks with
      | cons _ _ => simp [chkE] at h
      | nil =>
        cases vs with
        | cons _ _ => simp [chkE] at h
        | nil => exact ek_dnew
    | _ => simp [chkE] at h
  | .bin op a b, S, n, X, e, hn, W, h => by
    cases e with
    | BinOp x o y pos =>
      simp only [chkE, Bool.and_eq_true, decide_eq_true_eq] at h
      obtain ⟨⟨rfl, h1⟩, h2⟩ := h
      exact ek_bin (sndE a hn W h1).1 (sndE b hn W h2).1
    | _ => simp [chkE] at h
  | .neg a, S, n, X, e, hn, W, h => by
    cases e with
    | UnaryOp o x pos =>
      cases o with
      | USub => exact ek_neg (sndE a hn W h).1
      | _ => simp [chkE] at h
    | _ => simp [chkE] at h
  | .cmp op a b, S, n, X, e, hn, W, h => by
    cases e with
    | Compare x os ys pos =>
      match os, ys, h with
      | [o], [y], h =>
        simp only [chkE, Bool.and_eq_true, decide_eq_true_eq] at h
        obtain ⟨⟨⟨rfl, h1⟩, h2⟩, h3⟩ := h
        exact ek_cmp W.hu (sndE a hn W h1).1 (sndE b hn W h2).1 h3
      | [], _, h => simp [chkE] at h
      | _ :: _ :: _, _, h => simp [chkE] at h
      | [_], [], h => simp [chkE] at h
      | [_], _ :: _ :: _, h => simp [chkE] at h
    | _ => simp [chkE] at h
  | .and a b, S, n, X, e, hn, W, h => by
    cases e with
    | BoolOp o vs pos =>
      match o, vs, h with
      | .And, x :: y :: r, h =>
        simp only [chkE, Bool.and_eq_true] at h
        obtain ⟨⟨⟨h0, h1⟩, h3⟩, h2⟩ := h
        obtain ⟨p1, p2⟩ := sp_and (fun e h => sndE b hn W h) .And y r pos h3 h2
        exact ek_and (sndE a hn W h1).1 ((sndE a hn W h1).2.1 h0) p1 p2
      | .Or, _, h => simp [chkE] at h
      | .And, [], h => simp [chkE] at h
      | .And, [_], h => simp [chkE] at h
    | _ => simp [chkE] at h
  | .or a b, S, n, X, e, hn, W, h => by
    cases e with
    | BoolOp o vs pos =>
      match o, vs, h with
      | .Or, x :: y :: r, h =>
        simp only [chkE, Bool.and_eq_true] at h
        obtain ⟨⟨⟨h0, h1⟩, h3⟩, h2⟩ := h
        obtain ⟨p1, p2⟩ := sp_and (fun e h => sndE b hn W h) .Or y r pos h3 h2
        exact ek_or (sndE a hn W h1).1 ((sndE a hn W h1).2.1 h0) p1 p2
      | .And, _, h => simp [chkE] at h
      | .Or, [], h => simp [chkE] at h
      | .Or, [_], h => simp [chkE] at h
    | _ => simp [chkE] at h
  | .not a, S, n, X, e, hn, W, h => by
    cases e with
    | UnaryOp o x pos =>
      cases o with
      | Not =>
        simp only [chkE, Bool.and_eq_true] at h
        exact ek_not (sndE a hn W h.2).1 ((sndE a hn W h.2).2.1 h.1)
      | _ => simp [chkE] at h
    | _ => simp [chkE] at h
  | .ife c a b, S, n, X, e, hn, W, h => by
    cases e with
    | IfExp x y z pos =>
      simp only [chkE, Bool.and_eq_true] at h
      exact ek_ife ((sndE c hn W h.1.1.2).2.1 h.1.1.1) (sndE a hn W h.1.2).1 (sndE b hn W h.2).1
    | _ => simp [chkE] at h
  | .idx a i, S, n, X, e, hn, W, h => by
    cases e with
    | Subscript x y pos =>
      simp only [chkE, Bool.and_eq_true] at h
      exact ek_idx W.hu (sndE a hn W h.1.2).1 (sndE i hn W h.2).1 h.1.1
    | _ => simp [chkE] at h
  | .slc a lo hi, S, n, X, e, hn, W, h => by
    cases e with
    | Subscript x y pos =>
      cases y with
      | Slice l u st p2 =>
        cases st with
        | some _ => simp [chkE] at h
        | none =>
          simp only [chkE, Bool.and_eq_true] at h
          refine ek_slc (sndE a hn W h.1.1).1 ?_ ?_
          · have h2 := h.1.2
            cases l with
            | none => rw [omit_ok h2]; exact part_none
            | some l =>
              simp only [chkPart, Bool.and_eq_true, Bool.not_eq_true'] at h2
              exact part_some (sndE lo hn W h2.2).1 h2.1
          · have h2 := h.2
            cases u with
            | none => rw [omit_ok h2]; exact part_none
            | some l =>
              simp only [chkPart, Bool.and_eq_true, Bool.not_eq_true'] at h2
              exact part_some (sndE hi hn W h2.2).1 h2.1
      | _ => simp [chkE] at h
    | _ => simp [chkE] at h
  | .omit, S, n, X, e, hn, W, h => by simp [chkE] at h
  | .call f es, S, n, X, e, hn, W, h => by
    cases e with
    | Call fn l kws pos =>
      cases fn with
      | Name x nm =>
        match l, kws, h with
        | m :: ms, [], h =>
          simp only [chkE, Bool.and_eq_true] at h
          obtain ⟨⟨⟨h1, h2⟩, _⟩, h3⟩ := h
          unfold fnB at h2
          cases c : G.fs[f]? with
          | none => rw [c] at h2; cases h2
          | some p =>
            obtain ⟨y, np⟩ := p
            rw [c] at h2
            simp only [Bool.and_eq_true, beq_iff_eq] at h2
            obtain ⟨rfl, h4⟩ := h2
            exact ek_call W h1 c h3 (sndEs es hn W h3) h4.symm
        | [], [], h => simp [chkE] at h
        | _, _ :: _, h => simp [chkE] at h
      | _ => simp [chkE] at h
    | _ => simp [chkE] at h
  | .blt bb es, S, n, X, e, hn, W, h => by
    cases e with
    | Call fn l kws pos =>
      cases fn with
      | Name x nm =>
        match l, kws, h with
        | m :: ms, [], h =>
          simp only [chkE, Bool.and_eq_true] at h
          exact ek_blt W h.1.1.1 (fun t z => by rw [z] at h; cases h.1.1.2) h.2 (sndEs es hn W h.2)
        | [], [], h => simp [chkE] at h
        | _, _ :: _, h => simp [chkE] at h
      | _ => simp [chkE] at h
    | _ => simp [chkE] at h
  | .isi t a, S, n, X, e, hn, W, h => by
    cases e with
    | Call fn l kws pos =>
      cases fn with
      | Name x nm =>
        match l, kws, h with
        | [e1, e2], [], h =>
          cases e2 with
          | Name y p2 =>
            simp only [chkE, Bool.and_eq_true] at h
            exact ek_isi W h.1.1.1 h.1.1.2 h.1.2 (sndE a hn W h.2).1
          | _ => simp [chkE] at h
        | [], _, h => simp [chkE] at h
        | [_], _, h => simp [chkE] at h
        | _ :: _ :: _ :: _, _, h => simp [chkE] at h
        | [_, _], _ :: _, h => simp [chkE] at h
      | _ => simp [chkE] at h
    | _ => simp [chkE] at h
  | .mth m o es, S, n, X, e, hn, W, h => by
    cases e with
    | Call fn l kws pos =>
      cases fn with
      | Attribute x a apos =>
        cases kws with
        | nil =>
          simp only [chkE, Bool.and_eq_true, decide_eq_true_eq] at h
          obtain ⟨⟨⟨⟨⟨rfl, h1⟩, h2⟩, h3⟩, h4⟩, h5⟩ := h
          exact ek_mth W h1 h2 h3 h5 (sndE o hn W h4).1 (sndEs es hn W h5)
        | cons _ _ => simp [chkE] at h
      | _ => simp [chkE] at h
    | _ => simp [chkE] at h
  | .comp k own c, S, n, X, e, hn, W, h => ek_comp (sndC c) hn W h
theorem sndEs : ∀ (ms : MEs) {S : SC} {n : Nat} {X : Cx} {es : List Expr}, n ≤ 1 → XW G cl T L S n X → chkEs G S n ms es = true → PA X es (tL X.K T (evEs cl ms))
  | .nil, S, n, X, es, hn, W, h => by
    cases es with
    | nil => exact pa_nil.imp fun σ H Q q => tL_nil q
    | cons _ _ => simp [chkEs] at h
  | .cons m ms, S, n, X, es, hn, W, h => by
    cases es with
    | nil => simp [chkEs] at h
    | cons e es =>
      simp only [chkEs, Bool.and_eq_true] at h
      exact (pa_cons (sndE m hn W h.1.2).1 (sndEs ms hn W h.2) (star_cons h.1.1)).imp fun σ H Q q => tL_cons q
theorem sndC : ∀ (c : Cl), ClK G cl T L c
  | .one t i c e v => ⟨fun hn W h => sndI i hn W h, fun hn W h => sndE c hn W h, fun hn W h => sndE e hn W h, fun hn W h => sndE v hn W h⟩
  | .more t i c own r => ⟨fun hn W h => sndI i hn W h, fun hn W h => sndE c hn W h, sndC r⟩
theorem sndI : ∀ (m : MI) {S : SC} {n : Nat} {X : Cx} {tg e : Expr}, n ≤ 1 → XW G cl T L S n X → chkI G S n m tg e = true → PI X tg e (tIt X.K T (evI cl m))
  | .ex m, S, n, X, tg, e, hn, W, h => pi_ex (sndE m hn W h).1
  | .rng ms, S, n, X, tg, e, hn, W, h => by
    cases e with
    | Call fn l kws pos =>
      cases fn with
      | Name x nm =>
        cases kws with
        | nil =>
          simp only [chkI, Bool.and_eq_true] at h
          exact ik_rng W h.1.1 h.1.2 h.2 (sndEs ms hn W h.2)
        | cons _ _ => simp [chkI] at h
      | _ => simp [chkI] at h
    | _ => simp [chkI] at h
  | .zip a b, S, n, X, tg, e, hn, W, h => by
    cases e with
    | Call fn l kws pos =>
      cases fn with
      | Name x nm =>
        match l, kws, h with
        | [e1, e2], [], h =>
          simp only [chkI, Bool.and_eq_true] at h
          obtain ⟨⟨⟨⟨⟨h1, h2⟩, h3⟩, h4⟩, h5⟩, h6⟩ := h
          exact ik_zip W h1 h2 h3 h4 (sndE a hn W h5).1 (sndE b hn W h6).1
        | [], _, h => simp [chkI] at h
        | [_], _, h => simp [chkI] at h
        | _ :: _ :: _ :: _, _, h => simp [chkI] at h
        | [_, _], _ :: _, h => simp [chkI] at h
      | _ => simp [chkI] at h
    | _ => simp [chkI] at h
  | .enm a, S, n, X, tg, e, hn, W, h => by
    cases e with
    | Call fn l kws pos =>
      cases fn with
      | Name x nm =>
        match l, kws, h with
        | [e1], [], h =>
          simp only [chkI, Bool.and_eq_true] at h
          obtain ⟨⟨⟨h1, h2⟩, h3⟩, h4⟩ := h
          exact ik_enm W h1 h2 h3 (sndE a hn W h4).1
        | [], _, h => simp [chkI] at h
        | _ :: _ :: _, _, h => simp [chkI] at h
        | [_], _ :: _, h => simp [chkI] at h
      | _ => simp [chkI] at h
    | _ => simp [chkI] at h
end
end
end MP
namespace MP
open PySem PySem.Spec PyProof.Rows L2
def isLC : Expr → Bool
  | .ListComp .. => true
  | _ => false
def swB (sc : Scope) (y : Str) (py : Pos) : Expr → Bool
  | .ListComp _ _ s p => sc.names.lookup y == some .local && py.line == p.line && !(s.names.any fun (n, k) => n == y && (k == .local || k == .cell))
  | .SetComp _ _ s p => sc.names.lookup y == some .local && py.line == p.line && !(s.names.any fun (n, k) => n == y && (k == .local || k == .cell))
  | .DictComp _ _ _ s p => sc.names.lookup y == some .local && py.line == p.line && !(s.names.any fun (n, k) => n == y && (k == .local || k == .cell))
  | _ => false
def isName : Expr → Bool
  | .Name .. => true
  | _ => false
def asgB (S : SC) (val : Expr) : Tg → Expr → Bool
  | .nm i, .Name y py => S.put i y && (isLC val || !swB S.sc y py val)
  | .tp ts, .Tuple es k p => chkT S (.tp ts) (.Tuple es k p) && noTup val
  | _, _ => false
def isSub : Expr → Bool
  | .Subscript .. => true
  | _ => false
def sub1 : Expr → Expr
  | .Subscript a _ _ => a
  | e => e
def sub2 : Expr → Expr
  | .Subscript _ b _ => b
  | e => e
def el (k : Nat) : Expr → Expr
  | .Tuple es a p => (es[k]?).getD (.Tuple es a p)
  | e => e
def parB (S : SC) (i j : Nat) : Expr → Expr → Bool
  | .Tuple [.Name x px, .Name y py] _ _, .Tuple [.Name z _, .Name _ _] _ _ => S.N[i]? == some x && S.N[j]? == some y && !(i == j) && !(x == y) && S.sc.names.lookup x == some .local && S.sc.names.lookup y == some .local
      && px.line == py.line && !(z == ("__debug__" : Str))
  | _, _ => false
section
variable (G : GI)
mutual
def chkS (S : SC) (n : Nat) : MS → Stmt → Bool
  | .asg t e, .Assign [tg] val _ => asgB S val t tg && chkE G S n e val
  | .par i j a b, .Assign [tg] val _ => parB S i j tg val && chkE G S n a (el 0 val) && chkE G S n b (el 1 val)
  | .sub o i e, .Assign [tg] val _ => isSub tg && noSlice (sub2 tg) && chkE G S n o (sub1 tg) && chkE G S n i (sub2 tg) && chkE G S n e val
  | .expr e, .Expr v _ => noComp v && chkE G S n e v
  | .ret e, .Return (some v) _ => chkE G S n e v
  | .retN, .Return none _ => true
  | .ite c a b, .If x y z _ => okT x && chkE G S n c x && chkSs S n a y && chkSs S n b z
  | .fr t i b, .For tg iter body [] _ => chkI G S n i tg iter && noSet iter && chkT S t tg && chkSs S n b body
  | .whl c b, .While x body [] _ => okT x && chkE G S n c x && chkSs S n b body
  | .brk, .Break _ => true
  | .cont, .Continue _ => true
  | .pass, .Pass _ => true
  | _, _ => false
def chkSs (S : SC) (n : Nat) : MSs → List Stmt → Bool
  | .nil, [] => true
  | .cons m ms, s :: ss => chkS S n m s && chkSs S n ms ss
  | _, _ => false
end
end
section
variable {G : GI} {cl : Nat → List D → HI → Rz} {T : List Addr} {L wf : Nat} {S : SC} {n : Nat} {X : Cx}
theorem tGd_nm {K : PySem.W.Frag} {i : Nat} {v : V} {σ : L2.St} {H : Hp} {Q : L2.St → Hp → Prop} (h : tGd K (.nm i) v σ H Q) : gName i v σ H Q := by
  obtain ⟨μ, d, σd, σd', rx, Sr, e, q⟩ := h
  simp only [bind1, Option.ite_none_right_eq_some, Option.some.injEq] at e
  obtain ⟨_, rfl⟩ := e
  exact q _ (Sr.set i rx) fun vs hv => wipe_set (hv i (by simp [Tg.ix]))
theorem tI_mono {K : PySem.W.Frag} {ev : MP.St → HI → Rz} {σ : L2.St} {H : Hp} {Q Q' : VK} (h : tI K T ev σ H Q) (i : ∀ v H, Q v H → Q' v H) : tI K T ev σ H Q' := by
  obtain ⟨μ, h0, σd, r, R, Sr, e, o⟩ := h
  exact ⟨μ, h0, σd, r, R, Sr, e, fun μ' H' v p t R' rv => i _ _ (o μ' H' v p t R' rv)⟩
theorem st_set {K : PySem.W.Frag} {i : Nat} {e : ME} {Z : Ends} {σ : L2.St} {H : Hp} (q : tSt K T (evS cl wf (.asg (.nm i) e)) Z σ H) : tAsg (tI K T (evE cl e)) (gName i) Z σ H :=
  tI_mono (st_asg q) fun v H => tGd_nm
theorem swap_eq {y : Str} {py : Pos} {l : Nat} {env : Env} {v : Expr} (hk : env.scope.kind = .function) : swapsWith v (some (.Name y py)) l env = pure (swB env.scope y py v) := by
  have hb : (env.blockKind == .function) = true := by unfold Env.blockKind; rw [hk]; rfl
  cases v with
  | ListComp elt gs s p =>
    unfold swapsWith
    simp only [hb, swB, Env.kindOf, Expr.pos, Bool.true_and]
  | SetComp elt gs s p =>
    unfold swapsWith
    simp only [hb, swB, Env.kindOf, Expr.pos, Bool.true_and]
  | DictComp k elt gs s p =>
    unfold swapsWith
    simp only [hb, swB, Env.kindOf, Expr.pos, Bool.true_and]
  | _ => rfl
theorem set_comp {k : CK} {own : List Nat} {c : Cl} (K : ClK G cl T L c) {elt : Expr} {gens : List Comprehension} {scope : Scope} {p py pos : Pos} {y : Str} {i : Nat} (hn : n ≤ 1) (W : XW G cl T L S n X) (hi : X.N[i]? = some y) (hy : X.env.scope.names.lookup y = some .local)
    (hsw : swapsWith (.ListComp elt gens scope p) (some (.Name y py)) pos.line X.env = pure true) (h : chkE G S n (.comp k own c) (.ListComp elt gens scope p) = true) :
    PS X (.Assign [.Name y py] (.ListComp elt gens scope p) pos) (tAsg (tI X.K T (evE cl (.comp k own c))) (gName i)) := by
  cases k with
  | lst =>
    cases c with
    | one t i0 c e v =>
      match gens, h, hsw with
      | [⟨tg, iter, ifs, as⟩], h, hsw =>
        simp only [chkE, Bool.and_eq_true, beq_iff_eq] at h
        obtain ⟨⟨⟨⟨⟨⟨⟨⟨rfl, h1⟩, h2⟩, h3⟩, h4⟩, h5⟩, h6⟩, h7⟩, h8⟩ := h
        have bo := blkB_ok h1
        have := ps_setLc (te := tI X.K T (evE cl e)) (tt := tBl X.K T (tst (evE cl c))) (g := tGd X.K t) W.calm W.nd hi hy hsw (K.1 hn W h2) (by rw [W.N, W.sc]; exact bo) (fun s H C cs fp => sndT (W.blk s H C cs fp scope).xt h4)
          (fun s H C cs fp => pts_of h6 fun f hf => K.2.1 hn (W.blk s H C cs fp scope) hf) (fun s H C cs fp => (K.2.2.1 hn (W.blk s H C cs fp scope) h7).1) (fold_ok h3)
        rw [ownOf_ix] at this
        exact this.imp fun Z σ H q => lc_of (omit_ok h8) (sub_ok h5) q
      | [], h, _ => simp [chkE] at h
      | _ :: _ :: _, h, _ => simp [chkE] at h
    | more t i0 c own1 r =>
      cases r with
      | more _ _ _ _ _ => simp [chkE] at h
      | one t1 i1 c1 e v =>
        match gens, h, hsw with
        | [⟨tg, iter, ifs, as⟩, ⟨tg1, iter1, ifs1, as1⟩], h, hsw =>
          simp only [chkE, Bool.and_eq_true, beq_iff_eq] at h
          obtain ⟨⟨⟨⟨⟨⟨⟨⟨⟨⟨⟨⟨⟨⟨⟨rfl, rfl⟩, h1⟩, h2⟩, h3⟩, h4⟩, h5⟩, h6⟩, h7⟩, h8⟩, h9⟩, h10⟩, h11⟩, h12⟩, h13⟩, h14⟩ := h
          have bo := blkB_ok h1
          have := ps_setLc2 (vs1 := own1) (te := tI X.K T (evE cl e)) (tt := tBl X.K T (tst (evE cl c))) (g := tGd X.K t) (wi1 := tIt X.K T (evI cl i1)) (tt1 := tBl X.K T (tst (evE cl c1))) (g1 := tGd X.K t1) W.calm W.nd hi hy hsw (K.1 hn W h3) (by rw [W.N, W.sc]; exact bo) (by rw [ownOf_ix]; exact sub_ok h2)
            (fun s H C cs fp => sndT (W.blk s H C cs fp scope).xt h5) (fun s H C cs fp => pts_of h7 fun f hf => K.2.1 hn (W.blk s H C cs fp scope) hf)
            (fun s H C cs fp => K.2.2.1 hn (W.blk s H C cs fp scope) h8) (fun s H C cs fp => sndT (W.blk s H C cs fp scope).xt h10) (fun s H C cs fp => pts_of h12 fun f hf => K.2.2.2.1 hn (W.blk s H C cs fp scope) hf) (fun s H C cs fp => (K.2.2.2.2.1 hn (W.blk s H C cs fp scope) h13).1) (fold_ok h4) (fun env => fold_ok h9)
          rw [ownOf_ix] at this
          exact this.imp fun Z σ H q => lc2_of (omit_ok h14) (sub_ok h6) (sub_ok h11) q
        | [], h, _ => simp [chkE] at h
        | [_], h, _ => simp [chkE] at h
        | _ :: _ :: _ :: _, h, _ => simp [chkE] at h
  | _ => cases c <;> simp [chkE] at h
theorem set_ok (hk : S.sc.kind = .function) (hn : n ≤ 1) (W : XW G cl T L S n X) {i : Nat} {y : Str} {py pos : Pos} {e : ME} {val : Expr} (h1 : S.put i y = true) (h2 : (isLC val || !swB S.sc y py val) = true) (h3 : chkE G S n e val = true) :
    PS X (.Assign [.Name y py] val pos) (tAsg (tI X.K T (evE cl e)) (gName i)) := by
  obtain ⟨g1, g2, g3⟩ := put_ok W.xt h1
  have sw := swap_eq (v := val) (y := y) (py := py) (l := pos.line) (env := X.env) (by rw [W.sc]; exact hk)
  cases c : swB X.env.scope y py val with
  | false =>
    rw [c] at sw
    exact ps_set W.nd g1 g2 (sndE e hn W h3).1 sw g3
  | true =>
    rw [c] at sw
    rw [W.sc] at c
    rw [c] at h2
    cases val with
    | ListComp elt gens scope p =>
      cases e with
      | comp k own cl0 =>
        refine set_comp (sndC cl0) hn W g1 ?_ sw h3
        simp only [swB, Bool.and_eq_true, beq_iff_eq] at c
        rw [W.sc]
        exact c.1.1
      | _ => simp [chkE] at h3
    | _ => cases h2
theorem sole_ok {e : Expr} {tg : Expr} {l : Nat} {env : Env} (h : isName tg = false) : swapsWithSole [tg] e l env = pure false := by
  cases e <;> first | rfl | (cases tg <;> first | rfl | cases h)
theorem noswap {es : List Expr} {k : Nat} {p : Pos} {v : Expr} {env : Env} (h : noTup v = true) : swappedStores [.Tuple es k p] v env = pure none := by
  cases v <;> first | rfl | cases h
theorem drop_ok {e : Expr} {l : Nat} {env : Env} (h : noComp e = true) : swapsWith e none l env = pure false := by
  cases e <;> first | rfl | cases h
theorem sub_assign {a b : Expr} {p : Pos} {env : Env} (h : noSlice b = true) : ∀ v, assign (.Subscript a b p) env v = (do
      let ov ← holding [v] (eval a env)
      let iv ← holding [v, ov] (eval b env)
      standAt p
      holding [v, ov, iv] (setItem ov iv v)
      release [v, ov, iv] []) := by
  intro v
  cases b <;> first | rfl | cases h
theorem par_ok {x y z w : Str} {px py pt pz pw p2 : Pos} {kt k2 : Nat} {env : Env} (hk : env.scope.kind = .function) (hx : env.scope.names.lookup x = some .local) (hy : env.scope.names.lookup y = some .local) (hxy : (x == y) = false) (hl : (px.line == py.line) = true) (hz : (z == ("__debug__" : Str)) = false) :
    swappedStores [.Tuple [.Name x px, .Name y py] kt pt] (.Tuple [.Name z pz, .Name w pw] k2 p2) env = pure (some [x, y]) := by
  have hb : (env.blockKind != .function) = false := by unfold Env.blockKind; rw [hk]; rfl
  have l1 : (px.line == px.line) = true := by simp
  have l2 : (py.line == px.line) = true := by rw [beq_iff_eq] at hl ⊢; exact hl.symm
  have e1 : (env.kindOf x == some .local) = true := by unfold Env.kindOf; rw [hx]; rfl
  have e2 : (env.kindOf y == some .local) = true := by unfold Env.kindOf; rw [hy]; rfl
  have hyx : (y == x) = false := by
    rw [beq_eq_false_iff_ne] at hxy ⊢
    exact fun q => hxy q.symm
  unfold swappedStores
  simp [hb, Expr.pos, l2, e1, e2, List.eraseDups_cons, hyx, foldedForSure, constantsAlone, hz, hl, List.filterMap, List.any, List.all, List.head?]
end
end MP
namespace MP
open PySem PySem.Spec PyProof.Rows L2
section
variable {G : GI} {cl : Nat → List D → HI → Rz} {T : List Addr} {L wf : Nat} {S : SC} {n : Nat} {X : Cx}
structure XS (G : GI) (cl : Nat → List D → HI → Rz) (T : List Addr) (L : Nat) (S : SC) (n : Nat) (X : Cx) : Prop where
  W : XW G cl T L S n X
  hk : S.sc.kind = .function
  hn : n ≤ 1
  po : PassesOwn (model X.prog X.w) X.A X.env X.xe
theorem XS.hu (Z : XS G cl T L S n X) : X.A.units + 400 < cLine := Z.W.hu
theorem st_parX (Z : XS G cl T L S n X) {i j : Nat} {tg val : Expr} {a b : ME} {pos : Pos} (h0 : parB S i j tg val = true) (ha : PE X (el 0 val) (tI X.K T (evE cl a))) (hb : PE X (el 1 val) (tI X.K T (evE cl b))) : PS X (.Assign [tg] val pos) (tSt X.K T (evS cl wf (.par i j a b))) := by
  unfold parB at h0
  split at h0
  · rename_i x px y py kt pt z pz w pw k2 p2
    simp only [Bool.and_eq_true, beq_iff_eq, Bool.not_eq_true'] at h0
    obtain ⟨⟨⟨⟨⟨⟨⟨h1, h2⟩, h3⟩, h4⟩, h5⟩, h6⟩, h7⟩, h12⟩ := h0
    have hl : (px.line == py.line) = true := by rw [beq_iff_eq]; exact h7
    have hw := par_ok (pt := pt) (pz := pz) (pw := pw) (p2 := p2) (kt := kt) (k2 := k2) (w := w) (env := X.env) (by rw [Z.W.sc]; exact Z.hk) (by rw [Z.W.sc]; exact h5) (by rw [Z.W.sc]; exact h6) h4 hl h12
    exact (ps_par Z.W.calm Z.W.nd (by rw [Z.W.N]; exact h1) (by rw [Z.W.N]; exact h2) (by simpa using h3) (by rw [Z.W.sc]; exact h5) (by rw [Z.W.sc]; exact h6) (pa_cons ha (pa_cons hb pa_nil rfl) rfl) hw).imp fun D σ H q => st_par q
  · cases h0
mutual
theorem sndS (Z : XS G cl T L S n X) : ∀ (m : MS) {st : Stmt}, chkS G S n m st = true → PS X st (tSt X.K T (evS cl wf m))
  | .asg t e, st, h => by
    cases st with
    | Assign tgs val pos =>
      match tgs, h with
      | [], h => simp [chkS] at h
      | _ :: _ :: _, h => simp [chkS] at h
      | [tg], h =>
        simp only [chkS, Bool.and_eq_true] at h
        obtain ⟨h1, h2⟩ := h
        cases t with
        | nm i =>
          cases tg with
          | Name y py =>
            simp only [asgB, Bool.and_eq_true] at h1
            exact (set_ok Z.hk Z.hn Z.W h1.1 h1.2 h2).imp fun D σ H q => st_set q
          | _ => cases h1
        | tp ts =>
          cases tg with
          | Tuple es k p =>
            simp only [asgB, Bool.and_eq_true] at h1
            exact (ps_asg (sndE e Z.hn Z.W h2).1 (sndT Z.W.xt h1.1) (sole_ok rfl) (noswap h1.2)).imp fun D σ H q => st_asg q
          | _ => cases h1
    | _ => simp [chkS] at h
  | .par i j a b, st, h => by
    cases st with
    | Assign tgs val pos =>
      match tgs, h with
      | [], h => simp [chkS] at h
      | _ :: _ :: _, h => simp [chkS] at h
      | [tg], h =>
        simp only [chkS, Bool.and_eq_true] at h
        obtain ⟨⟨h0, h13⟩, h14⟩ := h
        exact st_parX Z h0 (sndE a Z.hn Z.W h13).1 (sndE b Z.hn Z.W h14).1
    | _ => simp [chkS] at h
  | .sub o i e, st, h => by
    cases st with
    | Assign tgs val pos =>
      match tgs, h with
      | [], h => simp [chkS] at h
      | _ :: _ :: _, h => simp [chkS] at h
      | [tg], h =>
        simp only [chkS, Bool.and_eq_true] at h
        obtain ⟨⟨⟨⟨h0, h1⟩, h2⟩, h3⟩, h4⟩ := h
        cases tg with
        | Subscript a b p => exact (ps_asg (sndE e Z.hn Z.W h4).1 (pg_sub (sndE o Z.hn Z.W h2).1 (sndE i Z.hn Z.W h3).1 (set_all (T := T) Z.hu) (sub_assign h1)) (sole_ok rfl)).imp fun D σ H q => st_sub q
        | _ => cases h0
    | _ => simp [chkS] at h
  | .expr e, st, h => by
    cases st with
    | Expr v pos =>
      simp only [chkS, Bool.and_eq_true] at h
      exact (ps_expr (sndE e Z.hn Z.W h.2).1 (drop_ok h.1)).imp fun D σ H q => st_expr q
    | _ => simp [chkS] at h
  | .ret e, st, h => by
    cases st with
    | Return v pos =>
      cases v with
      | none => simp [chkS] at h
      | some v => exact (ps_ret (sndE e Z.hn Z.W h).1).imp fun D σ H q => st_ret q
    | _ => simp [chkS] at h
  | .retN, st, h => by
    cases st with
    | Return v pos =>
      cases v with
      | none => exact ps_retN.imp fun D σ H q => st_retN q
      | some v => simp [chkS] at h
    | _ => simp [chkS] at h
  | .ite c a b, st, h => by
    cases st with
    | If x y z pos =>
      simp only [chkS, Bool.and_eq_true] at h
      exact (ps_if ((sndE c Z.hn Z.W h.1.1.2).2.1 h.1.1.1) (sndSs Z a h.1.2) (sndSs Z b h.2)).imp fun D σ H q => st_ite q
    | _ => simp [chkS] at h
  | .fr t i b, st, h => by
    cases st with
    | For tg iter body els pos =>
      cases els with
      | cons _ _ => simp [chkS] at h
      | nil =>
        simp only [chkS, Bool.and_eq_true] at h
        exact (ps_for Z.po Z.W.calm (sndI i Z.hn Z.W h.1.1.1) (sndT Z.W.xt h.1.2) (sndSs Z b h.2) (fold_ok h.1.1.2)).imp fun D σ H q => st_for q
    | _ => simp [chkS] at h
  | .whl c b, st, h => by
    cases st with
    | While x body els pos =>
      cases els with
      | cons _ _ => simp [chkS] at h
      | nil =>
        simp only [chkS, Bool.and_eq_true] at h
        exact (ps_while Z.po ((sndE c Z.hn Z.W h.1.2).2.1 h.1.1) (sndSs Z b h.2)).imp fun D σ H q => st_whl q
    | _ => simp [chkS] at h
  | .brk, st, h => by
    cases st with
    | Break pos => exact ps_break.imp fun D σ H q => st_brk q
    | _ => simp [chkS] at h
  | .cont, st, h => by
    cases st with
    | Continue pos => exact ps_continue.imp fun D σ H q => st_cont q
    | _ => simp [chkS] at h
  | .pass, st, h => by
    cases st with
    | Pass pos => exact ps_pass.imp fun D σ H q => st_pass q
    | _ => simp [chkS] at h
  | .aug i op e, st, h => by simp [chkS] at h
theorem sndSs (Z : XS G cl T L S n X) : ∀ (m : MSs) {st : List Stmt}, chkSs G S n m st = true → PSs X st (tSt X.K T (evSs cl wf m))
  | .nil, st, h => by
    cases st with
    | nil => exact pss_nil.imp fun D σ H q => st_nil q
    | cons _ _ => simp [chkSs] at h
  | .cons m ms, st, h => by
    cases st with
    | nil => simp [chkSs] at h
    | cons s ss =>
      simp only [chkSs, Bool.and_eq_true] at h
      exact (pss_cons (sndS Z m h.1) (sndSs Z ms h.2)).imp fun D σ H q => st_cons q
end
end
end MP
namespace MP
open PySem PySem.Spec PyProof.Rows L2
structure DefX where
  nm : Str
  st : Stmt
  N : List Str
  ps : List Str
  d : Def
def scB (N P : List Str) (sc : Scope) : Bool :=
  decide (sc.kind = .function) && decide (sc.isCoroutine = false) && decide (sc.isGenerator = false) && decide N.Nodup && decide (N.take P.length = P)
  && decide (∀ x ∈ P, sc.names.lookup x = some .local ∨ sc.names.lookup x = some .cell) && decide (∀ y ∈ sc.names, y.2 ≠ .free)
theorem scB_ok {N P : List Str} {sc : Scope} (h : scB N P sc = true) : FnScope N P sc := by
  simp only [scB, Bool.and_eq_true, decide_eq_true_eq] at h
  obtain ⟨⟨⟨⟨⟨⟨h1, h2⟩, h3⟩, h4⟩, h5⟩, h6⟩, h7⟩ := h
  exact ⟨h1, h2, h3, h4, h5, h6, h7⟩
def chkD (G : GI) (x : DefX) : Bool := scB x.N x.ps (defScope x.st) && chkSs G ⟨x.N, defScope x.st, true⟩ 1 x.d.body (defBody x.st) && x.d.np == x.ps.length && x.d.nn == x.N.length
structure DOk (K : PySem.W.Frag) (mg : Str → Option Value) (base : Heap) (T : List Addr) (x : DefX) (a : Addr) (fd : FuncData) : Prop where
  ex : ∃ (oc : Value) (od : Option Addr) (kV doc pm : Value) (an : Option Addr) (c P : Addr) (ct : Value) (osl : Array (Option Value)),
    fd = PySem.W.fnOf x.nm x.nm (defArgs x.st) (defBody x.st) (defScope x.st) .none kV doc pm an (.ref c) ct ∧ K.lookup a = some ⟨oc, od, .func fd, osl⟩ ∧ PySem.W.codeIn K (.ref c) x.nm = true ∧ GxR.TabB base mg c P ∧ P ∈ T
  kp : PySem.W.keepIn K (.ref a) = true
  mg : mg x.nm = some (.ref a)
  bs : Binds K fd x.ps []
structure GlOk (K : PySem.W.Frag) (mg : Str → Option Value) (G : GI) : Prop where
  gl : ∀ x d, (x, d) ∈ G.gl → ∃ v u, mg x = some u ∧ RelV v u ∧ ∀ μ H, RV K μ H d v
  bn : ∀ x ∈ G.bn, mg x = none
def Lv (k : Nat) : Nat := 13 + 2 * k
theorem SR.start {K : PySem.W.Frag} {μ : List Addr} {H : Hp} {ds : List D} {vs : List V} {N : List Str} (r : RVs K μ H ds vs) : SR K μ H (startD N.length ds) (L2.start N vs) := by
  have hl := r.length
  refine ⟨by unfold startD L2.start; simp [hl], fun i d e => ?_⟩
  unfold startD at e
  unfold L2.start
  rcases Nat.lt_or_ge i ds.length with h | h
  · rw [List.getElem?_append_left (by simpa using h), List.getElem?_map] at e
    rw [List.getElem?_append_left (by simpa [← hl] using h), List.getElem?_map]
    cases c : ds[i]? with
    | none => rw [c] at e; cases e
    | some x =>
      rw [c] at e
      cases e
      obtain ⟨v, h1, h2⟩ := r.get c
      exact ⟨v, by rw [h1]; rfl, h2⟩
  · rw [List.getElem?_append_right (by simpa using h), List.getElem?_replicate] at e
    split at e <;> cases e
section
variable {P : Program} {w : World} {K : PySem.W.Frag} {mg : Str → Option Value} {base : Heap} {T : List Addr} {G : GI} {ds : List DefX} {wf : Nat}
theorem defs_ok (hG : G.fs = ds.map fun x => (x.nm, x.ps.length)) (hc : ∀ x ∈ ds, chkD G x = true) (gl : GlOk K mg G) {ad : Nat → Addr} {fd : Nat → FuncData} (hd : ∀ f x, ds[f]? = some x → DOk K mg base T x (ad f) (fd f)) :
    ∀ (k f : Nat) (x : DefX), ds[f]? = some x → FnOk P w K mg base CX0 (Lv k) (ad f) (fd f) x.ps (spI K T x.ps.length (callI (ds.map (·.d)) wf k f))
  | 0, f, x, e => ⟨fun vs H Q E h => h.1, fun A outer s H args us vs Q E _ _ _ _ h => by
      obtain ⟨_, μ, h0, d, r, _, _, e, _⟩ := h
      cases e⟩
  | k + 1, f, x, e => by
    have ih := defs_ok hG hc gl hd k
    obtain ⟨⟨oc, od, kV, doc, pm, an, c, Pt, ct, osl, efd, lk, cd, tb, hPT⟩, kp, hmg, bs⟩ := hd f x e
    have ck := hc x (List.mem_of_getElem? e)
    simp only [chkD, Bool.and_eq_true, beq_iff_eq] at ck
    obtain ⟨⟨⟨c1, c2⟩, c3⟩, c4⟩ := ck
    have SO := scB_ok c1
    rw [efd]
    rw [efd] at lk
    show FnOk P w K mg base CX0 (Lv k + 1 + 1) _ _ _ _
    refine fn_of lk cd SO (fun vs H Q E h => h.1) fun A outer s H vs Q E hr hsp => ?_
    obtain ⟨hl, μ, h0, dvs, r, R, rv, ev, o⟩ := hsp
    have W : XS G (callI (ds.map (·.d)) wf k) T (Lv k) ⟨x.N, defScope x.st, true⟩ 1 (cxOf CX0 P w K mg base x.N x.nm (defScope x.st) (ad f) (.ref c) A outer s H E).nox := by
      refine ⟨⟨rfl, rfl, SO.nd, fun _ _ => rfl, rfl, hr, by unfold Lv; omega, gl.gl, fun g y np eg => ?_, gl.bn, fun _ => ⟨c, Pt, rfl, tb, hPT⟩⟩, SO.kind, Nat.le_refl _, PassesOwn.never⟩
      rw [hG, List.getElem?_map] at eg
      obtain ⟨z, ez, e2⟩ := Option.map_eq_some_iff.mp eg
      cases e2
      have dz := hd g z ez
      exact ⟨ad g, fd g, z.ps, dz.mg, dz.kp, dz.bs, ih g z ez⟩
    refine ⟨_, (sndSs (wf := wf) W x.d.body c2).nox, ?_⟩
    have hx : (ds.map (·.d))[f]? = some x.d := by rw [List.getElem?_map, e]; rfl
    simp only [callI, hx] at ev
    have hn : dvs.length = x.d.np := by rw [rv.length, hl, c3]
    rw [if_pos hn] at ev
    show tSt K T (evSs (callI (ds.map (·.d)) wf k) wf x.d.body) _ _ _
    split at ev
    · rename_i y h' ee
      cases ev
      exact ⟨μ, h0, _, _, R, by rw [c4]; exact SR.start rv, ee, fun μ' H' p t R' v rv' => o μ' H' v p t R' rv'⟩
    · rename_i y h' ee
      cases ev
      exact ⟨μ, h0, _, _, R, by rw [c4]; exact SR.start rv, ee, fun μ' H' p t R' σ' S' => o μ' H' .non p t R' .non⟩
    · cases ev
end
end MP
namespace MP
open PySem PySem.Spec PyProof.Rows L2
def Tabs (q : Program) (mg : Str → Option Value) (h : Heap) : Prop := ∀ d ∈ recsOf q, ∃ a o fd c P, mg d.name = some (.ref a) ∧ h.get? a = some o ∧ o.data = .func fd ∧ fd.code = .ref c ∧ h.IsCode c P #[] ∧ h.TableAt c P #[]
theorem walk_all {l : PySem.W.OpenLaw} {n k : Nat} {q : Program} {loose : List Str} {XP : (Str → Option Value) → Heap → Prop} {YP : World → Heap → Prop} {d : DefRec} {K : Params → PySem.W.Frag} {x : Str}
    (hn : l.most = some n) (hn2 : n ≤ sizeLine) (hdf : d.params.defaults = []) (hr : Room k callerA) (hY : ∀ (w : World) (h : Heap), YP w h → (K w.params).In h)
    (F : ∀ (w : World) (mg : Str → Option Value) (fa : Addr) (h : Heap), YP w h → (K w.params).In h → h.Ns mainGlobals mg → mg d.name = some (.ref fa) → Tabs q mg h → LamX.LawAtS l w (K w.params) CX0 k n x mg fa h) :
    PySem.W.WalkO q loose XP YP l.row.toRowW d [] (fun f vs => PySem.call f vs) := by
  refine Att.attach_callB hn hdf fun w s₀ s₁ mg mb fa o pm cd doc a vs ns gr yy ho hd hcd hmg hobj hints hlen hbits hg => ?_
  have kin := hY w _ yy
  have tb : Tabs q mg s₁.heap := fun dL hm => gr.T.tab dL hm
  obtain ⟨fd, cs, sp, t1, t2, t3, t4, t5, t6⟩ := F w mg fa _ yy kin gr.T.g hmg tb
  exact LamX.law_callTs kin gr.T.g gr.T.b gr.T.builtins gr.T.nolimit hg t1 t2 t3 gr.T.bmain hobj hints (Nat.le_trans hlen hn2) hr t6 t4 (fun H z1 z2 => t5 H a ns hlen hbits z1 z2) fun H e s' z => z
structure KDef (K : PySem.W.Frag) (x : DefX) (a c P : Addr) : Prop where
  ex : ∃ (oc : Value) (od : Option Addr) (kV doc pm : Value) (an : Option Addr) (ct : Value) (osl : Array (Option Value)),
    K.lookup a = some ⟨oc, od, .func (PySem.W.fnOf x.nm x.nm (defArgs x.st) (defBody x.st) (defScope x.st) .none kV doc pm an (.ref c) ct), osl⟩
  code : PySem.W.codeIn K (.ref c) x.nm = true
  kp : PySem.W.keepIn K (.ref a) = true
  ns : PySem.W.nsIn K mainGlobals x.nm = some (some (.ref a))
  tb : ∃ (e : Value) (dd : Option Addr) (vs : Array Value) (sl : Array (Option Value)), K.lookup c = some ⟨e, dd, .fields vs, sl⟩ ∧ vs[11]? = some (.ref P)
  nP : K.lookup P = none
def KD {K : PySem.W.Frag} {h : Heap} (KX : K.In h) (x : DefX) : Prop := ∃ f c P, KDef K x f c P
theorem kd_mk {K : PySem.W.Frag} {h : Heap} (KX : K.In h) {x : DefX} {f c P : Addr} {oc : Value} {od : Option Addr} {kV doc pm : Value} {an : Option Addr} {ct : Value} {osl : Array (Option Value)} {e : Value} {dd : Option Addr} {vs : Array Value} {sl : Array (Option Value)}
    (a : PySem.W.nsIn K mainGlobals x.nm = some (some (.ref f))) (l : K.lookup f = some ⟨oc, od, .func (PySem.W.fnOf x.nm x.nm (defArgs x.st) (defBody x.st) (defScope x.st) .none kV doc pm an (.ref c) ct), osl⟩) (h1 : PySem.W.codeIn K (.ref c) x.nm = true) (k1 : PySem.W.keepIn K (.ref f) = true)
    (t1 : K.lookup c = some ⟨e, dd, .fields vs, sl⟩) (t2 : vs[11]? = some (.ref P)) (n1 : K.lookup P = none) : KD KX x := ⟨f, c, P, ⟨oc, od, kV, doc, pm, an, ct, osl, l⟩, h1, k1, a, ⟨e, dd, vs, sl, t1, t2⟩, n1⟩
theorem kd_nil {K : PySem.W.Frag} {h : Heap} (KX : K.In h) : ∀ x ∈ ([] : List DefX), KD KX x := fun x hx => by cases hx
theorem kd_cons {K : PySem.W.Frag} {h : Heap} {KX : K.In h} {x : DefX} {r : List DefX} (a : KD KX x) (b : ∀ y ∈ r, KD KX y) : ∀ y ∈ x :: r, KD KX y := fun y hy => by
  rcases List.mem_cons.mp hy with rfl | hy
  · exact a
  · exact b y hy
inductive GlD (K : PySem.W.Frag) : Str × D → Prop where
  | non {x : Str} : PySem.W.nsIn K mainGlobals x = some (some .none) → GlD K (x, .non)
  | bl {x : Str} {b : Bool} : PySem.W.nsIn K mainGlobals x = some (some (.bool b)) → GlD K (x, .bl b)
  | int {x : Str} {i : Int} {t : Tok} : PySem.W.nsIn K mainGlobals x = some (some (.int i t)) → GlD K (x, .int i)
  | str {x y : Str} {t : Tok} : PySem.W.nsIn K mainGlobals x = some (some (.str y t)) → GlD K (x, .str y)
theorem glD_ok {K : PySem.W.Frag} {h : Heap} {mg : Str → Option Value} (X : K.In h) (G : h.Ns mainGlobals mg) {x : Str} {d : D} (g : GlD K (x, d)) : ∃ v u, mg x = some u ∧ RelV v u ∧ ∀ μ H, RV K μ H d v := by
  cases g with
  | non e => exact ⟨.non, _, PySem.W.mg_of X G e, rfl, fun _ _ => .non⟩
  | bl e => exact ⟨.bl _, _, PySem.W.mg_of X G e, rfl, fun _ _ => .bl _⟩
  | int e => exact ⟨.int _, _, PySem.W.mg_of X G e, ⟨_, rfl⟩, fun _ _ => .int _⟩
  | str e => exact ⟨.str _, _, PySem.W.mg_of X G e, ⟨_, rfl⟩, fun _ _ => .str _⟩
theorem gl_ok {K : PySem.W.Frag} {h : Heap} {mg : Str → Option Value} {G : GI} (X : K.In h) (N : h.Ns mainGlobals mg) (a : ∀ p ∈ G.gl, GlD K p) (b : ∀ x ∈ G.bn, PySem.W.nsIn K mainGlobals x = some none) : GlOk K mg G :=
  ⟨fun x d hm => glD_ok X N (a _ hm), fun x hx => PySem.W.mg_none_of X N (b x hx)⟩
theorem choose_ix {α β : Type} {R : α → β → Prop} (b0 : β) : ∀ {ds : List α}, (∀ y ∈ ds, ∃ b, R y b) → ∃ g : Nat → β, ∀ i y, ds[i]? = some y → R y (g i)
  | [], _ => ⟨fun _ => b0, fun i y e => by simp at e⟩
  | d :: r, h => by
    obtain ⟨b, hb⟩ := h d List.mem_cons_self
    obtain ⟨g, hg⟩ := choose_ix b0 (ds := r) fun y hy => h y (List.mem_cons_of_mem _ hy)
    refine ⟨fun i => match i with | 0 => b | i + 1 => g i, fun i y e => ?_⟩
    cases i with
    | zero => simp at e; subst e; exact hb
    | succ i => exact hg i y (by simpa using e)
structure PF (K : PySem.W.Frag) (mg : Str → Option Value) (h : Heap) (y : DefX) (b : Addr × Addr × Addr × FuncData) : Prop where
  ex : ∃ (oc : Value) (od : Option Addr) (kV doc pm : Value) (an : Option Addr) (ct : Value) (osl : Array (Option Value)),
    b.2.2.2 = PySem.W.fnOf y.nm y.nm (defArgs y.st) (defBody y.st) (defScope y.st) .none kV doc pm an (.ref b.2.1) ct ∧ K.lookup b.1 = some ⟨oc, od, .func b.2.2.2, osl⟩
  code : PySem.W.codeIn K (.ref b.2.1) y.nm = true
  kp : PySem.W.keepIn K (.ref b.1) = true
  mg : mg y.nm = some (.ref b.1)
  hd : PySem.W.CodeHd h b.2.1 b.2.2.1
  tab : h.get? b.2.2.1 = some { cls := .none, data := .fields #[] }
  nP : K.lookup b.2.2.1 = none
theorem law_at {l : PySem.W.OpenLaw} {w : World} {K : PySem.W.Frag} {mg : Str → Option Value} {fa : Addr} {h : Heap} {q : Program} {G : GI} {ds : List DefX} {wf n k fl : Nat} {xl : DefX} {ln x : Str} (KX : K.In h) (N : h.Ns mainGlobals mg) (hmg : mg ln = some (.ref fa)) (TB : Tabs q mg h)
    (hG : G.fs = ds.map fun x => (x.nm, x.ps.length)) (hc : ∀ x ∈ ds, chkD G x = true) (hD : ∀ x ∈ ds, KD KX x) (gl : GlOk K mg G) (hrec : ∀ x ∈ ds, ((recsOf q).any fun e => e.name == x.nm) = true)
    (hb : ∀ y ∈ ds, ∀ (kV doc pm : Value) (an : Option Addr) (cdv ct : Value) (us : List Value), us.length = y.ps.length → bindArgs (PySem.W.fnOf y.nm y.nm (defArgs y.st) (defBody y.st) (defScope y.st) .none kV doc pm an cdv ct) ⟨us, []⟩ = pure (y.ps.zip us))
    (hfl : ds[fl]? = some xl) (hln : xl.nm = ln) (hxp : xl.ps = [x])
    (law : ∀ (ns : List Int) (o : HB), ns.length ≤ n → (∀ z ∈ ns, Builtin.Int.intBits z ≤ 1048576) → (o = .lst (ns.map .int) ∨ o = .rol (ns.map .int)) → ∃ h', callI (ds.map (·.d)) wf k fl [.ref 0] [o] = some (.bl true, h')) :
    LamX.LawAtS l w K CX0 (Lv k) n x mg fa h := by
  have facts : ∀ y ∈ ds, ∃ f c P, KDef K y f c P ∧ mg y.nm = some (.ref f) ∧ PySem.W.CodeHd h c P ∧ h.get? P = some { cls := .none, data := .fields #[] } := fun y hy => by
    obtain ⟨f, c, P, kd⟩ := hD y hy
    obtain ⟨oc, od, kV, doc, pm, an, ct, osl, lk⟩ := kd.ex
    have m1 := PySem.W.mg_of KX N kd.ns
    obtain ⟨dL, hm, hn1⟩ := List.any_eq_true.mp (hrec y hy)
    obtain ⟨a', o', fd', c', P', h1, h2, h3, h4, h5, h6⟩ := TB dL hm
    rw [beq_iff_eq.mp hn1, m1] at h1
    cases h1
    have g1 := KX _ _ lk
    rw [g1] at h2
    cases h2
    cases h3
    cases h4
    obtain ⟨e, dd, vs, sl, t1, t2⟩ := kd.tb
    have ch := PySem.W.CodeHd.of h5 h6
    obtain ⟨⟨oc2, vs2, e1, e2, e3, e4⟩, hP⟩ := h6
    have g2 := KX _ _ t1
    rw [g2] at e1
    cases e1
    cases e3
    rw [t2] at e4
    cases e4
    exact ⟨f, c, P, kd, m1, ch, hP⟩
  have facts2 : ∀ y ∈ ds, ∃ b : Addr × Addr × Addr × FuncData, PF K mg h y b := fun y hy => by
    obtain ⟨f, c, P, kd, m1, ch, hP⟩ := facts y hy
    obtain ⟨oc, od, kV, doc, pm, an, ct, osl, lk⟩ := kd.ex
    exact ⟨(f, c, P, _), ⟨oc, od, kV, doc, pm, an, ct, osl, rfl, lk⟩, kd.code, kd.kp, m1, ch, hP, kd.nP⟩
  obtain ⟨b0, _⟩ := facts2 xl (List.mem_of_getElem? hfl)
  obtain ⟨g, hg⟩ := choose_ix b0 facts2
  have inL : ∀ {i y}, ds[i]? = some y → i ∈ List.range ds.length := fun {i y} e => by
    rw [List.mem_range]
    rcases Nat.lt_or_ge i ds.length with z | z
    · exact z
    · rw [List.getElem?_eq_none z] at e; cases e
  have L := hg fl xl hfl
  have efa : (g fl).1 = fa := by
    have z := L.mg
    rw [hln, hmg] at z
    exact (Value.ref.inj (Option.some.inj z)).symm
  have ofL : ∀ {p : Addr × Addr}, p ∈ (List.range ds.length).map (fun i => ((g i).2.1, (g i).2.2.1)) → ∃ i y, ds[i]? = some y ∧ p = ((g i).2.1, (g i).2.2.1) := fun {p} hp => by
    obtain ⟨i, hi, e⟩ := List.mem_map.mp hp
    exact ⟨i, ds[i]'(List.mem_range.mp hi), List.getElem?_eq_getElem _, e.symm⟩
  have bnd : ∀ i y, ds[i]? = some y → Binds K (g i).2.2.2 y.ps [] := fun i y e => by
    obtain ⟨oc, od, kV, doc, pm, an, ct, osl, ef, _⟩ := (hg i y e).ex
    rw [ef]
    exact .all (hb y (List.mem_of_getElem? e) kV doc pm an (.ref (g i).2.1) ct)
  refine ⟨(g fl).2.2.2, (List.range ds.length).map (fun i => ((g i).2.1, (g i).2.2.1)), spI K (((List.range ds.length).map (fun i => ((g i).2.1, (g i).2.2.1))).map (·.2)) 1 (callI (ds.map (·.d)) wf k fl), ?_, ?_, ?_, ?_, ?_, ?_⟩
  · intro p hp
    obtain ⟨i, y, e, rfl⟩ := ofL hp
    exact (hg i y e).tab
  · intro p hp
    obtain ⟨i, y, e, rfl⟩ := ofL hp
    exact (hg i y e).nP
  · intro p hp
    obtain ⟨i, y, e, rfl⟩ := ofL hp
    exact (hg i y e).hd
  · intro s u
    obtain ⟨oc, od, kV, doc, pm, an, ct, osl, ef, _⟩ := L.ex
    rw [ef]
    have z := hb xl (List.mem_of_getElem? hfl) kV doc pm an (.ref (g fl).2.1) ct [u] (by rw [hxp]; rfl)
    rw [hxp] at z
    exact .of_eq z
  · intro H a ns h1 h2 h3 h4
    refine ⟨rfl, ?_⟩
    have hT : ∀ P ∈ ((List.range ds.length).map (fun i => ((g i).2.1, (g i).2.2.1))).map (·.2), GxR.TabG H P := fun P hP => by
      obtain ⟨p, hp, rfl⟩ := List.mem_map.mp hP
      exact ⟨#[], h3 p hp, True.intro⟩
    have rv : ∀ μ, RVs K μ H (ns.map .int) (ns.map V.int) := fun μ => by
      clear h1 h2 h4
      induction ns with
      | nil => exact .nil
      | cons i r ih => exact .cons (.int i) ih
    have one : ∀ o : HB, (o = .lst (ns.map .int) ∨ o = .rol (ns.map .int)) → OR K [a] H a o → rVs K (((List.range ds.length).map (fun i => ((g i).2.1, (g i).2.2.1))).map (·.2)) (callI (ds.map (·.d)) wf k fl) [V.ref a] H fun v _ => v = .bl true := by
      intro o ho oo
      obtain ⟨h', e⟩ := law ns o h1 h2 ho
      refine ⟨[a], [o], [.ref 0], _, ⟨rfl, ?_, ?_, hT⟩, .cons (.ref rfl) .nil, e, fun μ' H' v _ _ _ rv => by cases rv; rfl⟩
      · intro m n b o1 o2 e1 e2 _ _ _ _
        cases m with
        | succ m => simp at e1
        | zero =>
          cases n with
          | succ n => simp at e2
          | zero => rfl
      · intro n b u e1 e2
        cases n with
        | succ n => simp at e1
        | zero =>
          simp at e1 e2
          subst e1 e2
          exact oo
    rcases h4 with (h4 | ⟨ob, h4⟩) | h4
    · exact one _ (.inl rfl) ⟨_, h4, rv _⟩
    · exact one _ (.inr rfl) ⟨_, .inl ⟨ob, h4⟩, rv _⟩
    · exact one _ (.inr rfl) ⟨_, .inr h4, rv _⟩
  · intro base kb nb tb
    have z := defs_ok (P := l.prog) (w := w) (base := base) (T := ((List.range ds.length).map (fun i => ((g i).2.1, (g i).2.2.1))).map (·.2)) (wf := wf) hG hc gl (ad := fun i => (g i).1) (fd := fun i => (g i).2.2.2) (fun i y e => by
      obtain ⟨oc, od, kV, doc, pm, an, ct, osl, ef, lk⟩ := (hg i y e).ex
      have hp : ((g i).2.1, (g i).2.2.1) ∈ (List.range ds.length).map (fun i => ((g i).2.1, (g i).2.2.1)) := List.mem_map.mpr ⟨i, inL e, rfl⟩
      have t := tb _ hp
      exact ⟨⟨oc, od, kV, doc, pm, an, (g i).2.1, (g i).2.2.1, ct, osl, ef, lk, (hg i y e).code, ⟨t.code, t.bm, t.gP⟩, List.mem_map.mpr ⟨_, hp, rfl⟩⟩, (hg i y e).kp, (hg i y e).mg, bnd i y e⟩) k fl xl hfl
    have z2 : xl.ps.length = 1 := by rw [hxp]; rfl
    rw [z2, hxp] at z
    have z3 := z
    simp only [efa] at z3
    exact z3
end MP
namespace MP
open PySem (Str)
def wO {α : Type} (o : Option α) (Q : α → Prop) : Prop := ∃ r, o = some r ∧ Q r
theorem wO_some {α : Type} {r : α} {Q : α → Prop} : wO (some r) Q = Q r := propext ⟨fun ⟨_, e, q⟩ => by cases e; exact q, fun q => ⟨r, rfl, q⟩⟩
theorem wO_bind {α β : Type} {o : Option α} {f : α → Option β} {Q : β → Prop} : wO (o.bind f) Q = wO o fun a => wO (f a) Q := propext
  ⟨fun ⟨r, e, q⟩ => by obtain ⟨a, e1, e2⟩ := Option.bind_eq_some_iff.mp e; exact ⟨a, e1, r, e2, q⟩, fun ⟨a, e1, r, e2, q⟩ => ⟨r, Option.bind_eq_some_iff.mpr ⟨a, e1, e2⟩, q⟩⟩
theorem wO_map {α β : Type} {o : Option α} {f : α → β} {Q : β → Prop} : wO (o.map f) Q = wO o fun a => Q (f a) := propext
  ⟨fun ⟨r, e, q⟩ => by obtain ⟨a, e1, rfl⟩ := Option.map_eq_some_iff.mp e; exact ⟨a, e1, q⟩, fun ⟨a, e1, q⟩ => ⟨f a, Option.map_eq_some_iff.mpr ⟨a, e1, rfl⟩, q⟩⟩
theorem wO_ite {α : Type} {c : Prop} [Decidable c] {o : Option α} {Q : α → Prop} : wO (if c then o else none) Q = (c ∧ wO o Q) := propext
  ⟨fun ⟨r, e, q⟩ => by obtain ⟨h1, h2⟩ := Option.ite_none_right_eq_some.mp e; exact ⟨h1, r, h2, q⟩, fun ⟨h1, r, e, q⟩ => ⟨r, by rw [if_pos h1]; exact e, q⟩⟩
theorem wO_imp {α : Type} {o : Option α} {Q Q' : α → Prop} (h : wO o Q) (i : ∀ r, Q r → Q' r) : wO o Q' := let ⟨r, e, q⟩ := h; ⟨r, e, i r q⟩
section
variable (cl : Nat → List D → HI → Rz) (wf : Nat)
def wE (e : ME) (σ : St) (h : HI) (Q : D → HI → Prop) : Prop := wO (evE cl e σ h) fun r => Q r.1 r.2
def wL (es : MEs) (σ : St) (h : HI) (Q : List D → HI → Prop) : Prop := wO (evEs cl es σ h) fun r => Q r.1 r.2
def wI (i : MI) (σ : St) (h : HI) (Q : It → HI → Prop) : Prop := wO (evI cl i σ h) fun r => Q r.1 r.2
def wS (s : MS) (σ : St) (h : HI) (Q : Fl → HI → Prop) : Prop := wO (evS cl wf s σ h) fun r => Q r.1 r.2
def wB (s : MSs) (σ : St) (h : HI) (Q : Fl → HI → Prop) : Prop := wO (evSs cl wf s σ h) fun r => Q r.1 r.2
end
def wV : St → Nat → (D → Prop) → Prop
  | some d :: _, 0, Q => Q d
  | _ :: r, n + 1, Q => wV r n Q
  | _, _, _ => False
theorem wV_eq : ∀ (σ : St) (i : Nat) (Q : D → Prop), wV σ i Q = (∃ d, σ[i]? = some (some d) ∧ Q d)
  | [], i, Q => by cases i <;> simp [wV]
  | none :: r, 0, Q => by simp [wV]
  | some d :: r, 0, Q => by simp [wV]
  | none :: r, n + 1, Q => by simp [wV, wV_eq r n Q]
  | some d :: r, n + 1, Q => by simp [wV, wV_eq r n Q]
def wW : St → Nat → D → (St → Prop) → Prop
  | _ :: r, 0, d, Q => Q (some d :: r)
  | x :: r, n + 1, d, Q => wW r n d fun r' => Q (x :: r')
  | [], _, _, _ => False
theorem wW_eq : ∀ (σ : St) (i : Nat) (d : D) (Q : St → Prop), wW σ i d Q = wO (bind1 (.nm i) d σ) Q
  | [], i, d, Q => by cases i <;> simp [wW, wO, bind1]
  | x :: r, 0, d, Q => by simp [wW, wO, bind1]
  | x :: r, n + 1, d, Q => by
    simp only [wW, wW_eq r n d]
    simp only [bind1, wO, List.length_cons]
    by_cases c : n < r.length
    · simp [c]
    · simp [c]
section
variable {cl : Nat → List D → HI → Rz} {wf : Nat} {σ : St} {h : HI} {Q : D → HI → Prop} {R : Fl → HI → Prop} {QL : List D → HI → Prop} {QI : It → HI → Prop}
theorem wE_var {i : Nat} : wE cl (.var i) σ h Q = wV σ i fun d => Q d h := by
  rw [wV_eq]
  unfold wE wO
  simp only [evE]
  refine propext ⟨fun ⟨r, e, q⟩ => ?_, fun ⟨d, e, q⟩ => ⟨(d, h), by rw [e], q⟩⟩
  split at e
  · rename_i d hd
    cases e
    exact ⟨d, hd, q⟩
  · cases e
theorem wE_cst {d : D} : wE cl (.cst d) σ h Q = Q d h := wO_some
theorem wE_glb {d : D} : wE cl (.glb d) σ h Q = Q d h := wO_some
theorem wE_tup {es : MEs} : wE cl (.tup es) σ h Q = wL cl es σ h fun ds h1 => ds.length ≤ big ∧ Q (.tup ds) h1 := by
  unfold wE wL
  simp only [evE, wO_bind, wO_ite, wO_some]
theorem wE_lst {es : MEs} : wE cl (.lst es) σ h Q = wL cl es σ h fun ds h1 => ds.length ≤ big ∧ Q (.ref h1.length) (h1 ++ [.lst ds]) := by
  unfold wE wL
  simp only [evE, wO_bind, wO_ite, hnew, wO_some]
theorem wE_dnew : wE cl .dnew σ h Q = Q (.ref h.length) (h ++ [.dic []]) := by
  unfold wE
  simp only [evE, hnew, wO_some]
theorem wE_bin {op : BOp} {a b : ME} : wE cl (.bin op a b) σ h Q = wE cl a σ h fun x h1 => wE cl b σ h1 fun y h2 => wO (binD op x y h2) fun r => Q r.1 r.2 := by
  unfold wE
  simp only [evE, wO_bind]
theorem wE_cmp {op : COp} {a b : ME} : wE cl (.cmp op a b) σ h Q = wE cl a σ h fun x h1 => wE cl b σ h1 fun y h2 => wO (cmpB op x y h2) fun c => Q (.bl c) h2 := by
  unfold wE
  simp only [evE, wO_bind, wO_map]
theorem wE_not {a : ME} : wE cl (.not a) σ h Q = wE cl a σ h fun x h1 => wO (truth x h1) fun c => Q (.bl (!c)) h1 := by
  unfold wE
  simp only [evE, wO_bind, wO_map]
theorem wE_or {a b : ME} : wE cl (.or a b) σ h Q = wE cl a σ h fun x h1 => wO (truth x h1) fun c => if c = true then Q x h1 else wE cl b σ h1 Q := by
  unfold wE
  simp only [evE, wO_bind]
  congr 1
  funext r
  cases c : truth r.1 r.2 with
  | none => simp [wO]
  | some k => cases k <;> simp [wO]
theorem wE_and {a b : ME} : wE cl (.and a b) σ h Q = wE cl a σ h fun x h1 => wO (truth x h1) fun c => if c = true then wE cl b σ h1 Q else Q x h1 := by
  unfold wE
  simp only [evE, wO_bind]
  congr 1
  funext r
  cases c : truth r.1 r.2 with
  | none => simp [wO]
  | some k => cases k <;> simp [wO]
theorem wE_idx {a i : ME} : wE cl (.idx a i) σ h Q = wE cl a σ h fun x h1 => wE cl i σ h1 fun y h2 => wO (idxD x y h2) fun r => Q r.1 r.2 := by
  unfold wE
  simp only [evE, wO_bind]
theorem wE_slc {a lo hi : ME} : wE cl (.slc a lo hi) σ h Q = wE cl a σ h fun x h1 => wE cl lo σ h1 fun l h2 => wE cl hi σ h2 fun u h3 => wO (partOf (isOmit lo) l) fun l' => wO (partOf (isOmit hi) u) fun u' => wO (slcD x l' u' h3) fun r => Q r.1 r.2 := by
  unfold wE
  simp only [evE, wO_bind]
  congr 1
  funext r
  congr 1
  funext p
  congr 1
  funext q
  cases partOf (isOmit lo) p.1 with
  | none => simp [wO]
  | some l =>
    cases partOf (isOmit hi) q.1 with
    | none => simp [wO]
    | some u => simp [wO_some]
theorem wE_omit : wE cl .omit σ h Q = Q .non h := wO_some
theorem wE_call {f : Nat} {es : MEs} : wE cl (.call f es) σ h Q = wL cl es σ h fun ds h1 => wO (cl f ds h1) fun r => Q r.1 r.2 := by
  unfold wE wL
  simp only [evE, wO_bind]
theorem wE_blt {b : Blt} {es : MEs} : wE cl (.blt b es) σ h Q = wL cl es σ h fun ds h1 => wO (bltD b ds h1) fun r => Q r.1 r.2 := by
  unfold wE wL
  simp only [evE, wO_bind]
theorem wE_isi {t : Ty} {a : ME} : wE cl (.isi t a) σ h Q = wE cl a σ h fun x h1 => wO (hasTy t x h1) fun c => Q (.bl c) h1 := by
  unfold wE
  simp only [evE, wO_bind, bltD, wO_map]
theorem wE_mth {m : Mth} {o : ME} {es : MEs} : wE cl (.mth m o es) σ h Q = wE cl o σ h fun x h1 => recv m x h1 = true ∧ wL cl es σ h1 fun ds h2 => wO (mthD m x ds h2) fun r => Q r.1 r.2 := by
  unfold wE wL
  simp only [evE, wO_bind, wO_ite]
theorem wL_nil : wL cl .nil σ h QL = QL [] h := wO_some
theorem wL_cons {e : ME} {es : MEs} : wL cl (.cons e es) σ h QL = wE cl e σ h fun x h1 => wL cl es σ h1 fun xs h2 => QL (x :: xs) h2 := by
  unfold wL wE
  simp only [evEs, wO_bind, wO_some]
theorem wB_nil : wB cl wf .nil σ h R = R (.nx σ) h := wO_some
theorem wB_cons {s : MS} {r : MSs} : wB cl wf (.cons s r) σ h R = wS cl wf s σ h fun f h1 => match f with | .nx σ' => wB cl wf r σ' h1 R | f => R f h1 := by
  unfold wB wS wO
  simp only [evSs]
  refine propext ⟨fun ⟨z, e, q⟩ => ?_, fun ⟨z, e, q⟩ => ?_⟩
  · split at e
    · rename_i σ' h' e1
      exact ⟨_, e1, z, e, q⟩
    · rename_i hx
      refine ⟨z, e, ?_⟩
      obtain ⟨f, h1⟩ := z
      cases f with
      | nx σ' => exact absurd e (hx σ' h1)
      | _ => exact q
  · obtain ⟨f, h1⟩ := z
    rw [e]
    cases f with
    | nx σ' => exact q
    | brk _ => exact ⟨_, rfl, q⟩
    | ct _ => exact ⟨_, rfl, q⟩
    | rt _ => exact ⟨_, rfl, q⟩
theorem wS_asg {i : Nat} {e : ME} : wS cl wf (.asg (.nm i) e) σ h R = wE cl e σ h fun x h1 => wW σ i x fun σ' => R (.nx σ') h1 := by
  unfold wS wE
  simp only [evS, wO_bind, wO_map, wW_eq]
theorem wS_sub {o i e : ME} : wS cl wf (.sub o i e) σ h R = wE cl e σ h fun v h1 => wE cl o σ h1 fun x h2 => wE cl i σ h2 fun y h3 => wO (setIx x y v h3) fun h' => R (.nx σ) h' := by
  unfold wS wE
  simp only [evS, wO_bind, wO_map]
theorem wS_expr {e : ME} : wS cl wf (.expr e) σ h R = wE cl e σ h fun _ h1 => R (.nx σ) h1 := by
  unfold wS wE
  simp only [evS, wO_map]
theorem wS_ret {e : ME} : wS cl wf (.ret e) σ h R = wE cl e σ h fun x h1 => R (.rt x) h1 := by
  unfold wS wE
  simp only [evS, wO_map]
theorem wS_ite {c : ME} {a b : MSs} : wS cl wf (.ite c a b) σ h R = wE cl c σ h fun x h1 => wO (truth x h1) fun t => if t = true then wB cl wf a σ h1 R else wB cl wf b σ h1 R := by
  unfold wS wE wB
  simp only [evS, testE, wO_bind, wO_map]
  congr 1
  funext r
  congr 1
  funext t
  cases t <;> simp
theorem wI_ex {e : ME} : wI cl (.ex e) σ h QI = wE cl e σ h fun x h1 => wO (itOf x h1) fun t => QI t h1 := by
  unfold wI wE
  simp only [evI, wO_bind, wO_map]
theorem wI_rng {es : MEs} : wI cl (.rng es) σ h QI = wL cl es σ h fun ds h1 => wO (rngIt ds) fun t => QI t h1 := by
  unfold wI wL
  simp only [evI, wO_bind, wO_map]
theorem wI_zip {a b : ME} : wI cl (.zip a b) σ h QI = wE cl a σ h fun x h1 => wE cl b σ h1 fun y h2 => wO (zipOf x y h2) fun t => QI t h2 := by
  unfold wI wE
  simp only [evI, wO_bind, wO_map]
theorem wS_for {t : Tg} {i : MI} {b : MSs} (I : Nat → St → HI → Prop)
    (hi : wI cl i σ h fun it h1 => I 0 σ h1 ∧ (∀ j σ h, j < it.len → I j σ h → ∃ d, it.nx j h = some d ∧ wO (bind1 t d σ) fun σ1 => wB cl wf b σ1 h fun f h2 => match f with | .nx σ2 => I (j + 1) σ2 h2 | .ct σ2 => I (j + 1) σ2 h2 | _ => False) ∧
      ∀ σ h, I it.len σ h → it.fin h = true ∧ R (.nx σ) h) : wS cl wf (.fr t i b) σ h R := by
  obtain ⟨⟨it, h1⟩, ei, q0⟩ := hi
  have h0 : I 0 σ h1 := q0.1
  have st : ∀ j σ h, j < it.len → I j σ h → ∃ d, it.nx j h = some d ∧ wO (bind1 t d σ) fun σ1 => wB cl wf b σ1 h fun f h2 => match f with | .nx σ2 => I (j + 1) σ2 h2 | .ct σ2 => I (j + 1) σ2 h2 | _ => False := q0.2.1
  have fi : ∀ σ h, I it.len σ h → it.fin h = true ∧ R (.nx σ) h := q0.2.2
  clear q0
  have loop : ∀ (n j : Nat) (σ : St) (h : HI), j + n = it.len → I j σ h → ∃ σ' h', loopN it.nx it.fin (fun d σ h => (bind1 t d σ).bind fun σ' => (evSs cl wf b σ' h).map fun q => (turnOf q.1, q.2)) n j σ h = some (.inl σ', h') ∧ I it.len σ' h' := by
    intro n
    induction n with
    | zero =>
      intro j σ h hj hI
      have hj : j = it.len := by omega
      subst hj
      exact ⟨σ, h, by simp only [loopN, (fi σ h hI).1, if_true], hI⟩
    | succ n ih =>
      intro j σ h hj hI
      obtain ⟨d, e1, σ1, e2, ⟨f, h2⟩, e3, q⟩ := st j σ h (by omega) hI
      cases f with
      | nx σ2 =>
        obtain ⟨σ', h', e4, e5⟩ := ih (j + 1) σ2 h2 (by omega) q
        exact ⟨σ', h', by simp only [loopN, e1, e2, e3, Option.bind_some, Option.map_some, turnOf]; exact e4, e5⟩
      | ct σ2 =>
        obtain ⟨σ', h', e4, e5⟩ := ih (j + 1) σ2 h2 (by omega) q
        exact ⟨σ', h', by simp only [loopN, e1, e2, e3, Option.bind_some, Option.map_some, turnOf]; exact e4, e5⟩
      | brk _ => exact q.elim
      | rt _ => exact q.elim
  obtain ⟨σ', h', e4, e5⟩ := loop it.len 0 σ h1 (by omega) h0
  refine ⟨(.nx σ', h'), ?_, (fi σ' h' e5).2⟩
  simp only [evS, ei, Option.bind_some, e4, Option.map_some, afterFor]
end
theorem wC {P : List Def} {wf k f : Nat} {d : Def} {ds : List D} {h : HI} {Q : D × HI → Prop} (hf : P[f]? = some d) (hl : ds.length = d.np)
    (w : wB (callI P wf k) wf d.body (startD d.nn ds) h fun f h' => match f with | .rt x => Q (x, h') | .nx _ => Q (.non, h') | _ => False) : wO (callI P wf (k + 1) f ds h) Q := by
  obtain ⟨⟨fl, h'⟩, e, q⟩ := w
  cases fl with
  | rt x => exact ⟨(x, h'), by simp only [callI, hf, hl, if_true, e], q⟩
  | nx x => exact ⟨(.non, h'), by simp only [callI, hf, hl, if_true, e], q⟩
  | brk _ => exact q.elim
  | ct _ => exact q.elim
end MP
namespace MP
open PySem (Str)
section
variable {cl : Nat → List D → HI → Rz} {σ : St} {h : HI} {Q : D → HI → Prop}
theorem loop_to {α : Type} {nx : Nat → HI → Option D} {fin : HI → Bool} {body : D → α → HI → Option ((α ⊕ D) × HI)} {len : Nat} (I : Nat → α → HI → Prop)
    (st : ∀ j a h, j < len → I j a h → ∃ d a' h', nx j h = some d ∧ body d a h = some (.inl a', h') ∧ I (j + 1) a' h') (fi : ∀ a h, I len a h → fin h = true) : ∀ (n j : Nat) (a : α) (h : HI), j + n = len → I j a h →
    ∃ a' h', loopN nx fin body n j a h = some (.inl a', h') ∧ I len a' h'
  | 0, j, a, h, hj, hI => by
    have hj : j = len := by omega
    subst hj
    exact ⟨a, h, by simp only [loopN, fi a h hI, if_true], hI⟩
  | n + 1, j, a, h, hj, hI => by
    obtain ⟨d, a1, h1, e1, e2, q⟩ := st j a h (by omega) hI
    obtain ⟨a', h', e4, e5⟩ := loop_to I st fi n (j + 1) a1 h1 (by omega) q
    exact ⟨a', h', by simp only [loopN, e1, e2]; exact e4, e5⟩
theorem wE_lc {own : List Nat} {t : Tg} {i : MI} {c e : ME} (I : Nat → Nat → List D → HI → Prop)
    (hi : wI cl i σ h fun it h1 => I h1.length 0 [] (h1 ++ [.lst []]) ∧
      (∀ j acc H, j < it.len → I h1.length j acc H → H[h1.length]? = some (.lst acc) → ∃ d, it.nx j H = some d ∧ wO (bind1 t d (wipeD σ own)) fun σ1 => wE cl c σ1 H fun x H1 => wO (truth x H1) fun tt =>
        if tt = true then wE cl e σ1 H1 fun y H2 => H2[h1.length]? = some (.lst acc) ∧ acc.length < big ∧ I h1.length (j + 1) (acc ++ [y]) (H2.set h1.length (.lst (acc ++ [y]))) else H1[h1.length]? = some (.lst acc) ∧ I h1.length (j + 1) acc H1) ∧
      ∀ acc H, I h1.length it.len acc H → H[h1.length]? = some (.lst acc) → it.fin H = true ∧ Q (.ref h1.length) H) : wE cl (.comp .lst own (.one t i c e .omit)) σ h Q := by
  obtain ⟨⟨it, h1⟩, ei, q0⟩ := hi
  have q0 : I h1.length 0 [] (h1 ++ [.lst []]) ∧
      (∀ j acc H, j < it.len → I h1.length j acc H → H[h1.length]? = some (.lst acc) → ∃ d, it.nx j H = some d ∧ wO (bind1 t d (wipeD σ own)) fun σ1 => wE cl c σ1 H fun x H1 => wO (truth x H1) fun tt =>
        if tt = true then wE cl e σ1 H1 fun y H2 => H2[h1.length]? = some (.lst acc) ∧ acc.length < big ∧ I h1.length (j + 1) (acc ++ [y]) (H2.set h1.length (.lst (acc ++ [y]))) else H1[h1.length]? = some (.lst acc) ∧ I h1.length (j + 1) acc H1) ∧
      ∀ acc H, I h1.length it.len acc H → H[h1.length]? = some (.lst acc) → it.fin H = true ∧ Q (.ref h1.length) H := q0
  obtain ⟨h0, st, fi⟩ := q0
  obtain ⟨a', h', e4, acc, e5, e6⟩ := loop_to (len := it.len) (nx := it.nx) (fin := it.fin) (body := fun d a h => (bind1 t d (wipeD σ own)).bind fun σ' => (evE cl c σ' h).bind fun q => match truth q.1 q.2 with
        | some true => (evE cl e σ' q.2).bind fun x => (evE cl .omit σ' x.2).bind fun y => emit .lst h1.length x.1 y.1 a y.2
        | some false => some (.inl a, q.2)
        | none => none) (fun j (a : Acc) H => ∃ acc, I h1.length j acc H ∧ H[h1.length]? = some (.lst acc)) (by
      rintro j a H hj ⟨acc, hI, hn⟩
      obtain ⟨d, f1, σ1, f2, ⟨x, H1⟩, f3, tt, f4, f5⟩ := st j acc H hj hI hn
      have f4 : truth x H1 = some tt := f4
      cases tt with
      | false =>
        refine ⟨d, a, H1, f1, ?_, acc, f5.2, f5.1⟩
        simp only [f2, Option.bind_some, f3, f4]
      | true =>
        obtain ⟨⟨y, H2⟩, g1, g2, g3, g4⟩ := f5
        have g2 : H2[h1.length]? = some (.lst acc) := g2
        refine ⟨d, a, H2.set h1.length (.lst (acc ++ [y])), f1, ?_, acc ++ [y], g4, ?_⟩
        · simp only [f2, Option.bind_some, f3, f4, g1, evE, emit, g2, g3, if_true]
        · rw [List.getElem?_set_self]
          rcases Nat.lt_or_ge h1.length H2.length with z | z
          · exact z
          · rw [List.getElem?_eq_none z] at g2; cases g2) (by
      rintro a H ⟨acc, hI, hn⟩
      exact (fi acc H hI hn).1) it.len 0 (acc0 .lst h1).1 (acc0 .lst h1).2 (by omega) ⟨[], h0, by simp [acc0]⟩
  refine ⟨(.ref h1.length, h'), ?_, (fi acc h' e5 e6).2⟩
  rw [evE, evC, ei]
  exact (congrArg (fun o => Option.bind o _) e4).trans rfl
theorem wE_gt {own : List Nat} {t : Tg} {i : MI} {c e : ME} (I : Nat → List D → HI → Prop)
    (hi : wI cl i σ h fun it h1 => I 0 [] h1 ∧
      (∀ j acc H, j < it.len → I j acc H → ∃ d, it.nx j H = some d ∧ wO (bind1 t d (wipeD σ own)) fun σ1 => wE cl c σ1 H fun x H1 => wO (truth x H1) fun tt =>
        if tt = true then wE cl e σ1 H1 fun y H2 => acc.length < big ∧ I (j + 1) (acc ++ [y]) H2 else I (j + 1) acc H1) ∧
      ∀ acc H, I it.len acc H → it.fin H = true ∧ Q (.tup acc) H) : wE cl (.comp .gtup own (.one t i c e .omit)) σ h Q := by
  obtain ⟨⟨it, h1⟩, ei, q0⟩ := hi
  have q0 : I 0 [] h1 ∧
      (∀ j acc H, j < it.len → I j acc H → ∃ d, it.nx j H = some d ∧ wO (bind1 t d (wipeD σ own)) fun σ1 => wE cl c σ1 H fun x H1 => wO (truth x H1) fun tt =>
        if tt = true then wE cl e σ1 H1 fun y H2 => acc.length < big ∧ I (j + 1) (acc ++ [y]) H2 else I (j + 1) acc H1) ∧
      ∀ acc H, I it.len acc H → it.fin H = true ∧ Q (.tup acc) H := q0
  obtain ⟨h0, st, fi⟩ := q0
  obtain ⟨a', h', e4, acc, ea, e5⟩ := loop_to (len := it.len) (nx := it.nx) (fin := it.fin) (body := fun d a h => (bind1 t d (wipeD σ own)).bind fun σ' => (evE cl c σ' h).bind fun q => match truth q.1 q.2 with
        | some true => (evE cl e σ' q.2).bind fun x => (evE cl .omit σ' x.2).bind fun y => emit .gtup h1.length x.1 y.1 a y.2
        | some false => some (.inl a, q.2)
        | none => none) (fun j (a : Acc) H => ∃ acc, a = .ds acc ∧ I j acc H) (by
      rintro j a H hj ⟨acc, rfl, hI⟩
      obtain ⟨d, f1, σ1, f2, ⟨x, H1⟩, f3, tt, f4, f5⟩ := st j acc H hj hI
      have f4 : truth x H1 = some tt := f4
      cases tt with
      | false =>
        refine ⟨d, .ds acc, H1, f1, ?_, acc, rfl, f5⟩
        simp only [f2, Option.bind_some, f3, f4]
      | true =>
        obtain ⟨⟨y, H2⟩, g1, g3, g4⟩ := f5
        refine ⟨d, .ds (acc ++ [y]), H2, f1, ?_, acc ++ [y], rfl, g4⟩
        simp only [f2, Option.bind_some, f3, f4, g1, evE, emit, g3, if_true]) (by
      rintro a H ⟨acc, _, hI⟩
      exact (fi acc H hI).1) it.len 0 (acc0 .gtup h1).1 (acc0 .gtup h1).2 (by omega) ⟨[], rfl, h0⟩
  refine ⟨(.tup acc, h'), ?_, (fi acc h' e5).2⟩
  subst ea
  rw [evE, evC, ei]
  exact (congrArg (fun o => Option.bind o _) e4).trans rfl
theorem wE_dc {own : List Nat} {t : Tg} {i : MI} {c e v : ME} (I : Nat → Nat → List (D × D) → HI → Prop)
    (hi : wI cl i σ h fun it h1 => I h1.length 0 [] (h1 ++ [.dic []]) ∧
      (∀ j kvs H, j < it.len → I h1.length j kvs H → H[h1.length]? = some (.dic kvs) → ∃ d, it.nx j H = some d ∧ wO (bind1 t d (wipeD σ own)) fun σ1 => wE cl c σ1 H fun x H1 => wO (truth x H1) fun tt =>
        tt = true ∧ wE cl e σ1 H1 fun y H2 => wE cl v σ1 H2 fun w H3 => H3[h1.length]? = some (.dic kvs) ∧ y.key = true ∧ kvs.length < big ∧ I h1.length (j + 1) (kPut kvs y w) (H3.set h1.length (.dic (kPut kvs y w)))) ∧
      ∀ kvs H, I h1.length it.len kvs H → H[h1.length]? = some (.dic kvs) → it.fin H = true ∧ Q (.ref h1.length) H) : wE cl (.comp .dct own (.one t i c e v)) σ h Q := by
  obtain ⟨⟨it, h1⟩, ei, q0⟩ := hi
  have q0 : I h1.length 0 [] (h1 ++ [.dic []]) ∧
      (∀ j kvs H, j < it.len → I h1.length j kvs H → H[h1.length]? = some (.dic kvs) → ∃ d, it.nx j H = some d ∧ wO (bind1 t d (wipeD σ own)) fun σ1 => wE cl c σ1 H fun x H1 => wO (truth x H1) fun tt =>
        tt = true ∧ wE cl e σ1 H1 fun y H2 => wE cl v σ1 H2 fun w H3 => H3[h1.length]? = some (.dic kvs) ∧ y.key = true ∧ kvs.length < big ∧ I h1.length (j + 1) (kPut kvs y w) (H3.set h1.length (.dic (kPut kvs y w)))) ∧
      ∀ kvs H, I h1.length it.len kvs H → H[h1.length]? = some (.dic kvs) → it.fin H = true ∧ Q (.ref h1.length) H := q0
  obtain ⟨h0, st, fi⟩ := q0
  obtain ⟨a', h', e4, acc, e5, e6⟩ := loop_to (len := it.len) (nx := it.nx) (fin := it.fin) (body := fun d a h => (bind1 t d (wipeD σ own)).bind fun σ' => (evE cl c σ' h).bind fun q => match truth q.1 q.2 with
        | some true => (evE cl e σ' q.2).bind fun x => (evE cl v σ' x.2).bind fun y => emit .dct h1.length x.1 y.1 a y.2
        | some false => some (.inl a, q.2)
        | none => none) (fun j (a : Acc) H => ∃ kvs, I h1.length j kvs H ∧ H[h1.length]? = some (.dic kvs)) (by
      rintro j a H hj ⟨kvs, hI, hn⟩
      obtain ⟨d, f1, σ1, f2, ⟨x, H1⟩, f3, tt, f4, rfl, f5⟩ := st j kvs H hj hI hn
      have f4 : truth x H1 = some true := f4
      obtain ⟨⟨y, H2⟩, g1, ⟨w, H3⟩, g1', g2, g3, g4, g5⟩ := f5
      have g1' : evE cl v σ1 H2 = some (w, H3) := g1'
      have g2 : H3[h1.length]? = some (.dic kvs) := g2
      have g3 : y.key = true := g3
      refine ⟨d, a, H3.set h1.length (.dic (kPut kvs y w)), f1, ?_, kPut kvs y w, g5, ?_⟩
      · simp only [f2, Option.bind_some, f3, f4, g1, g1', emit, g2, g3, g4, decide_true, Bool.and_self, if_true]
      · rw [List.getElem?_set_self]
        rcases Nat.lt_or_ge h1.length H3.length with z | z
        · exact z
        · rw [List.getElem?_eq_none z] at g2; cases g2) (by
      rintro a H ⟨acc, hI, hn⟩
      exact (fi acc H hI hn).1) it.len 0 (acc0 .dct h1).1 (acc0 .dct h1).2 (by omega) ⟨[], h0, by simp [acc0]⟩
  refine ⟨(.ref h1.length, h'), ?_, (fi acc h' e5 e6).2⟩
  rw [evE, evC, ei]
  exact (congrArg (fun o => Option.bind o _) e4).trans rfl
end
end MP
namespace MP
open PySem (Str)
section
variable {cl : Nat → List D → HI → Rz} {σ : St} {h : HI} {Q : D → HI → Prop}
def Lc2 (cl : Nat → List D → HI → Rz) (σ : St) (own own1 : List Nat) (t t1 : Tg) (i1 : MI) (c c1 e : ME) (I : Nat → List D → HI → Prop) (J : Nat → Nat → List D → HI → Prop) (n : Nat) (it : It) (Q : D → HI → Prop) : Prop :=
  (∀ j acc H, j < it.len → I j acc H → H[n]? = some (.lst acc) → ∃ d, it.nx j H = some d ∧ wO (bind1 t d (wipeD σ own)) fun σ1 => wE cl c σ1 H fun x H1 => wO (truth x H1) fun tt => tt = true ∧ wI cl i1 σ1 H1 fun it1 H2 => H2[n]? = some (.lst acc) ∧ J j 0 acc H2 ∧
    (∀ l acc H, l < it1.len → J j l acc H → H[n]? = some (.lst acc) → ∃ d, it1.nx l H = some d ∧ wO (bind1 t1 d (wipeD σ1 own1)) fun σ2 => wE cl c1 σ2 H fun x H1 => wO (truth x H1) fun tt => tt = true ∧ wE cl e σ2 H1 fun y H2 => H2[n]? = some (.lst acc) ∧ acc.length < big ∧ J j (l + 1) (acc ++ [y]) (H2.set n (.lst (acc ++ [y])))) ∧
    ∀ acc H, J j it1.len acc H → H[n]? = some (.lst acc) → it1.fin H = true ∧ I (j + 1) acc H) ∧
  ∀ acc H, I it.len acc H → H[n]? = some (.lst acc) → it.fin H = true ∧ Q (.ref n) H
theorem wE_lc2 {own own1 : List Nat} {t t1 : Tg} {i i1 : MI} {c c1 e : ME} (I : Nat → Nat → List D → HI → Prop) (J : Nat → Nat → Nat → List D → HI → Prop)
    (hi : wI cl i σ h fun it h1 => I h1.length 0 [] (h1 ++ [.lst []]) ∧ Lc2 cl σ own own1 t t1 i1 c c1 e (I h1.length) (J h1.length) h1.length it Q) : wE cl (.comp .lst own (.more t i c own1 (.one t1 i1 c1 e .omit))) σ h Q := by
  obtain ⟨⟨it, h1⟩, ei, q0⟩ := hi
  have q0 : I h1.length 0 [] (h1 ++ [.lst []]) ∧ Lc2 cl σ own own1 t t1 i1 c c1 e (I h1.length) (J h1.length) h1.length it Q := q0
  obtain ⟨h0, st, fi⟩ := q0
  obtain ⟨a', h', e4, acc, e5, e6⟩ := loop_to (len := it.len) (nx := it.nx) (fin := it.fin) (body := fun d a h => (bind1 t d (wipeD σ own)).bind fun σ' => (evE cl c σ' h).bind fun q => match truth q.1 q.2 with
        | some true => evD cl .lst own1 h1.length (.one t1 i1 c1 e .omit) a σ' q.2
        | some false => some (.inl a, q.2)
        | none => none) (fun j (a : Acc) H => ∃ acc, I h1.length j acc H ∧ H[h1.length]? = some (.lst acc)) (by
      rintro j a H hj ⟨acc, hI, hn⟩
      obtain ⟨d, f1, σ1, f2, ⟨x, H1⟩, f3, tt, f4, rfl, ⟨it1, H2⟩, f5, g0, g1, st1, fi1⟩ := st j acc H hj hI hn
      have f4 : truth x H1 = some true := f4
      have g0 : H2[h1.length]? = some (.lst acc) := g0
      have st1 : ∀ l acc H, l < it1.len → J h1.length j l acc H → H[h1.length]? = some (.lst acc) → ∃ d, it1.nx l H = some d ∧ wO (bind1 t1 d (wipeD σ1 own1)) fun σ2 => wE cl c1 σ2 H fun x H1 => wO (truth x H1) fun tt => tt = true ∧ wE cl e σ2 H1 fun y H2 => H2[h1.length]? = some (.lst acc) ∧ acc.length < big ∧ J h1.length j (l + 1) (acc ++ [y]) (H2.set h1.length (.lst (acc ++ [y]))) := st1
      obtain ⟨a2, H3, k1, acc2, k2, k3⟩ := loop_to (len := it1.len) (nx := it1.nx) (fin := it1.fin) (body := fun d a h => (bind1 t1 d (wipeD σ1 own1)).bind fun σ' => (evE cl c1 σ' h).bind fun q => match truth q.1 q.2 with
          | some true => (evE cl e σ' q.2).bind fun x => (evE cl .omit σ' x.2).bind fun y => emit .lst h1.length x.1 y.1 a y.2
          | some false => some (.inl a, q.2)
          | none => none) (fun l (a : Acc) H => ∃ acc, J h1.length j l acc H ∧ H[h1.length]? = some (.lst acc)) (by
        rintro l a H hl ⟨acc, hJ, hn⟩
        obtain ⟨d, f1, σ2, f2, ⟨x, H1⟩, f3, tt, f4, rfl, ⟨y, H2⟩, u1, u2, u3, u4⟩ := st1 l acc H hl hJ hn
        have f4 : truth x H1 = some true := f4
        have u2 : H2[h1.length]? = some (.lst acc) := u2
        refine ⟨d, a, H2.set h1.length (.lst (acc ++ [y])), f1, ?_, acc ++ [y], u4, ?_⟩
        · simp only [f2, Option.bind_some, f3, f4, u1, evE, emit, u2, u3, if_true]
        · rw [List.getElem?_set_self]
          rcases Nat.lt_or_ge h1.length H2.length with z | z
          · exact z
          · rw [List.getElem?_eq_none z] at u2; cases u2) (by
        rintro a H ⟨acc, hJ, hn⟩
        exact (fi1 acc H hJ hn).1) it1.len 0 a H2 (by omega) ⟨acc, g1, g0⟩
      refine ⟨d, a2, H3, f1, ?_, acc2, (fi1 acc2 H3 k2 k3).2, k3⟩
      simp only [f2, Option.bind_some, f3, f4]
      rw [evD, f5]
      exact k1) (by
      rintro a H ⟨acc, hI, hn⟩
      exact (fi acc H hI hn).1) it.len 0 (acc0 .lst h1).1 (acc0 .lst h1).2 (by omega) ⟨[], h0, by simp [acc0]⟩
  refine ⟨(.ref h1.length, h'), ?_, (fi acc h' e5 e6).2⟩
  rw [evE, evC, ei]
  exact (congrArg (fun o => Option.bind o _) e4).trans rfl
end
end MP
namespace MP
open PySem (Str)
@[simp] theorem flat_int {n : Nat} {i : Int} : D.flat n (.int i) = true := by cases n <;> rfl
@[simp] theorem flat_str {n : Nat} {s : Str} : D.flat n (.str s) = true := by cases n <;> rfl
@[simp] theorem flat_bl {n : Nat} {b : Bool} : D.flat n (.bl b) = true := by cases n <;> rfl
@[simp] theorem flat_non {n : Nat} : D.flat n .non = true := by cases n <;> rfl
def LA (h : HI) (n : Nat) (ds : List D) : Prop := h[n]? = some (.lst ds) ∨ h[n]? = some (.rol ds)
theorem LA.of {h : HI} {n : Nat} {ds : List D} (a : LA h n ds) : lstOf h (.ref n) = some ds := by
  rcases a with e | e <;> simp [lstOf, e]
theorem LA.len {h : HI} {n : Nat} {ds : List D} (a : LA h n ds) : bltD .len [.ref n] h = some (.int ds.length, h) := by
  rcases a with e | e <;> simp [bltD, e]
theorem LA.idx {h : HI} {n : Nat} {ds : List D} (a : LA h n ds) (i : Int) : idxD (.ref n) (.int i) h = (atD ds i).map fun d => (d, h) := by
  rcases a with e | e <;> simp [idxD, e]
theorem LA.ext {h h' : HI} {n : Nat} {ds : List D} (a : LA h n ds) (e : h'[n]? = h[n]?) : LA h' n ds := by
  unfold LA
  rw [e]
  exact a
theorem at_nat {ds : List D} {k : Nat} {d : D} (e : ds[k]? = some d) : atD ds (k : Int) = some d := by
  have hk : k < ds.length := (List.getElem?_eq_some_iff.mp e).1
  simp only [atD, ixAt]
  rw [if_pos (by omega), if_pos (by omega)]
  simpa using e
def bCell : MSs := (.cons (.ite (.cmp .lt (.var 1) (.blt .len (.cons (.var 0) .nil))) (.cons (.ret (.idx (.var 0) (.var 1))) .nil) .nil) (.cons (.ret (.cst (.int 0))) .nil))
theorem grow_get {h : HI} {n : Nat} {o : HB} (e : h[n]? = some o) (g : HI) : (h ++ g)[n]? = some o := by
  rw [List.getElem?_append_left, e]
  rcases Nat.lt_or_ge n h.length with z | z
  · exact z
  · rw [List.getElem?_eq_none z] at e; cases e
theorem LA.grow {h : HI} {n : Nat} {ds : List D} (a : LA h n ds) (g : HI) : LA (h ++ g) n ds := by
  rcases a with e | e
  · exact .inl (grow_get e g)
  · exact .inr (grow_get e g)
theorem get_last {h : HI} {o : HB} : (h ++ [o])[h.length]? = some o := by simp
theorem set_last {h : HI} {o o' : HB} : (h ++ [o]).set h.length o' = h ++ [o'] := by simp
section
variable {P : List Def} {wf j : Nat} {h : HI} {Q : D × HI → Prop}
theorem run_cell {ic s : Nat} (hP : P[ic]? = some ⟨2, 2, bCell⟩) {ns : List Int} {k : Nat} (hs : LA h s (ns.map .int)) (q : ∀ c : Int, Q (.int c, h)) : wO (callI P wf (j + 1) ic [.ref s, .int k] h) Q := by
  refine wC hP rfl ?_
  simp only [bCell, startD, List.map_cons, List.map_nil, List.length_cons, List.length_nil, List.replicate, List.cons_append, List.nil_append, ↓wE_var, ↓wE_cst, ↓wE_glb, ↓wE_tup, ↓wE_lst, ↓wE_dnew, ↓wE_bin, ↓wE_cmp, ↓wE_not, ↓wE_or, ↓wE_and, ↓wE_idx, ↓wE_slc, ↓wE_omit, ↓wE_call, ↓wE_blt, ↓wE_isi, ↓wE_mth, ↓wL_nil, ↓wL_cons, ↓wB_nil, ↓wB_cons, ↓wS_asg, ↓wS_sub, ↓wS_expr, ↓wS_ret, ↓wS_ite, ↓wI_ex, ↓wI_rng, ↓wI_zip, wV, wW, hs.len, wO_some, cmpB, truth]
  by_cases hk : k < ns.length
  · have e : (ns.map D.int)[k]? = some (.int ns[k]) := by rw [List.getElem?_map, List.getElem?_eq_getElem hk]; rfl
    have : decide ((k : Int) < ((ns.map D.int).length : Nat)) = true := by simp [hk]
    simp only [this, if_true, ↓wE_var, ↓wE_cst, ↓wE_glb, ↓wE_tup, ↓wE_lst, ↓wE_dnew, ↓wE_bin, ↓wE_cmp, ↓wE_not, ↓wE_or, ↓wE_and, ↓wE_idx, ↓wE_slc, ↓wE_omit, ↓wE_call, ↓wE_blt, ↓wE_isi, ↓wE_mth, ↓wL_nil, ↓wL_cons, ↓wB_nil, ↓wB_cons, ↓wS_asg, ↓wS_sub, ↓wS_expr, ↓wS_ret, ↓wS_ite, ↓wI_ex, ↓wI_rng, ↓wI_zip, wV, wW, hs.idx, at_nat e, Option.map_some, wO_some]
    exact q _
  · have : decide ((k : Int) < ((ns.map D.int).length : Nat)) = false := by simp [hk]
    simp only [this, Bool.false_eq_true, if_false, ↓wE_var, ↓wE_cst, ↓wE_glb, ↓wE_tup, ↓wE_lst, ↓wE_dnew, ↓wE_bin, ↓wE_cmp, ↓wE_not, ↓wE_or, ↓wE_and, ↓wE_idx, ↓wE_slc, ↓wE_omit, ↓wE_call, ↓wE_blt, ↓wE_isi, ↓wE_mth, ↓wL_nil, ↓wL_cons, ↓wB_nil, ↓wB_cons, ↓wS_asg, ↓wS_sub, ↓wS_expr, ↓wS_ret, ↓wS_ite, ↓wI_ex, ↓wI_rng, ↓wI_zip, wV, wW]
    exact q 0
end
def bDig2 : MSs := (.cons (.ite (.cmp .ge (.var 5) (.bin .pow (.cst (.int 10)) (.cst (.int 18)))) (.cons (.fr (.nm 6) (.rng (.cons (.cst (.int 60)) .nil)) (.cons (.ite (.cmp .gt (.var 5) (.cst (.int 0))) (.cons (.expr (.mth .append (.var 3) (.cons (.bin .mod (.blt .int (.cons (.var 5) .nil)) (.cst (.int 1000))) .nil))) (.cons (.asg (.nm 5) (.bin .fdv (.var 5) (.cst (.int 1000)))) .nil)) .nil) .nil)) .nil) (.cons (.asg (.nm 7) (.bin .mod (.blt .int (.cons (.bin .add (.bin .add (.bin .mul (.var 5) (.cst (.int 48271))) (.bin .mul (.var 4) (.cst (.int 69621)))) (.cst (.int 11))) .nil)) (.cst (.int 2147483647)))) (.cons (.fr (.nm 6) (.rng (.cons (.cst (.int 12)) .nil)) (.cons (.asg (.nm 7) (.bin .mod (.blt .int (.cons (.bin .add (.bin .add (.bin .mul (.var 7) (.cst (.int 16807))) (.bin .mul (.cst (.int 7)) (.var 6))) (.cst (.int 1))) .nil)) (.cst (.int 2147483647)))) (.cons (.expr (.mth .append (.var 3) (.cons (.bin .mod (.blt .int (.cons (.bin .fdv (.var 7) (.cst (.int 997))) .nil)) (.cst (.int 1000))) .nil))) .nil))) .nil))) .nil)
def bDigits (ic : Nat) : MSs := (.cons (.asg (.nm 3) (.lst .nil)) (.cons (.fr (.nm 4) (.rng (.cons (.var 1) (.cons (.var 2) .nil))) (.cons (.asg (.nm 5) (.call ic (.cons (.var 0) (.cons (.var 4) .nil)))) (.cons (.ite (.cmp .lt (.var 5) (.cst (.int 0))) (.cons (.asg (.nm 5) (.bin .sub (.cst (.int 1)) (.bin .mul (.cst (.int 2)) (.var 5)))) .nil) .nil) bDig2))) (.cons (.ret (.var 3)) .nil)))
theorem o_int {op : BOp} {i j : Int} {h : HI} {Q : D × HI → Prop} : wO (binD op (.int i) (.int j) h) Q = wO (intOp op i j) fun k => Q (.int k, h) := by
  simp only [binD, wO_map]
theorem i_add {i j : Int} : intOp .add i j = some (i + j) := rfl
theorem i_sub {i j : Int} : intOp .sub i j = some (i - j) := rfl
theorem m_r {i j : Int} (h : small64 j = true) : intOp .mul i j = some (i * j) := by simp [intOp, h]
theorem m_l {i j : Int} (h : small64 i = true) : intOp .mul i j = some (i * j) := by simp [intOp, h]
theorem m_48271 {i : Int} : intOp .mul i 48271 = some (i * 48271) := m_r (by decide)
theorem m_69621 {i : Int} : intOp .mul i 69621 = some (i * 69621) := m_r (by decide)
theorem m_16807 {i : Int} : intOp .mul i 16807 = some (i * 16807) := m_r (by decide)
theorem m_2 {i : Int} : intOp .mul 2 i = some (2 * i) := m_l (by decide)
theorem m_7 {i : Int} : intOp .mul 7 i = some (7 * i) := m_l (by decide)
theorem r_k {i j : Int} (h : j ≠ 0) : intOp .mod i j = some (i.fmod j) := by simp [intOp, h]
theorem r_1000 {i : Int} : intOp .mod i 1000 = some (i.fmod 1000) := r_k (by decide)
theorem r_m31 {i : Int} : intOp .mod i 2147483647 = some (i.fmod 2147483647) := r_k (by decide)
theorem r_26 {i : Int} : intOp .mod i 26 = some (i.fmod 26) := r_k (by decide)
theorem f_k {i j : Int} (h : j ≠ 0 ∧ j.natAbs < 1073741824) : intOp .fdv i j = some (i.fdiv j) := by simp [intOp, h]
theorem f_1000 {i : Int} : intOp .fdv i 1000 = some (i.fdiv 1000) := f_k (by decide)
theorem f_997 {i : Int} : intOp .fdv i 997 = some (i.fdiv 997) := f_k (by decide)
theorem f_26 {i : Int} : intOp .fdv i 26 = some (i.fdiv 26) := f_k (by decide)
theorem p_18 : intOp .pow 10 18 = some 1000000000000000000 := by decide
theorem c_lt {i j : Int} {h : HI} : cmpB .lt (.int i) (.int j) h = some (decide (i < j)) := rfl
theorem c_gt {i j : Int} {h : HI} : cmpB .gt (.int i) (.int j) h = some (decide (j < i)) := rfl
theorem c_ge {i j : Int} {h : HI} : cmpB .ge (.int i) (.int j) h = some (decide (j ≤ i)) := rfl
theorem c_str {x y : Str} {h : HI} : cmpB .eq (.str x) (.str y) h = some (x == y) := by simp [cmpB, D.eqv]
theorem t_bl {b : Bool} {h : HI} : truth (.bl b) h = some b := rfl
theorem b_int {i : Int} {h : HI} : bltD .int [.int i] h = some (.int i, h) := rfl
theorem rng2 {n : Nat} (hn : n ≤ 1000000) : rngIt [.int 0, .int n] = some (.seq ((List.range n).map fun k => .int (k : Nat))) := by
  simp only [rngIt]
  rw [if_pos (by omega)]
  simp
theorem rng1 {n : Nat} (hn : n ≤ 1000000) : rngIt [.int n] = some (.seq ((List.range n).map fun k => .int (k : Nat))) := by
  simp only [rngIt]
  rw [if_pos (by omega)]
  simp
theorem rng60 : rngIt [.int 60] = some (.seq ((List.range 60).map fun k => .int (k : Nat))) := rng1 (n := 60) (by omega)
theorem rng12 : rngIt [.int 12] = some (.seq ((List.range 12).map fun k => .int (k : Nat))) := rng1 (n := 12) (by omega)
theorem rng4 : rngIt [.int 4] = some (.seq ((List.range 4).map fun k => .int (k : Nat))) := rng1 (n := 4) (by omega)
theorem rng_nx {n j : Nat} {h : HI} (hj : j < (It.seq ((List.range n).map fun k => D.int (k : Nat))).len) : (It.seq ((List.range n).map fun k => D.int (k : Nat))).nx j h = some (.int (j : Nat)) := by
  simp only [It.len, List.length_map, List.length_range] at hj
  simp [It.nx, hj]
theorem app_last {h : HI} {ds : List D} {d : D} {Q : D × HI → Prop} (hl : ds.length < big) (q : Q (.non, h ++ [.lst (ds ++ [d])])) : wO (mthD .append (.ref h.length) [d] (h ++ [.lst ds])) Q := by
  simp only [mthD, get_last, hl, if_true, set_last, wO_some]
  exact q
theorem recv_last {h : HI} {ds : List D} : recv .append (.ref h.length) (h ++ [.lst ds]) = true := by simp only [recv, get_last]
section
variable {P : List Def} {wf j : Nat} {h : HI} {Q : D × HI → Prop}
theorem run_digits {ic id s last : Nat} (hC : P[ic]? = some ⟨2, 2, bCell⟩) (hP : P[id]? = some ⟨3, 8, bDigits ic⟩) {ns : List Int} (hl : last ≤ 1000) (hs : LA h s (ns.map .int))
    (q : ∀ ds : List Int, Q (.ref h.length, h ++ [.lst (ds.map .int)])) : wO (callI P wf (j + 2) id [.ref s, .int 0, .int last] h) Q := by
  refine wC hP rfl ?_
  simp only [bDigits, startD, List.map_cons, List.map_nil, List.length_cons, List.length_nil, List.replicate, List.cons_append, List.nil_append, ↓wE_var, ↓wE_cst, ↓wE_glb, ↓wE_tup, ↓wE_lst, ↓wE_dnew, ↓wE_bin, ↓wE_cmp, ↓wE_not, ↓wE_or, ↓wE_and, ↓wE_idx, ↓wE_slc, ↓wE_omit, ↓wE_call, ↓wE_blt, ↓wE_isi, ↓wE_mth, ↓wL_nil, ↓wL_cons, ↓wB_nil, ↓wB_cons, ↓wS_asg, ↓wS_sub, ↓wS_expr, ↓wS_ret, ↓wS_ite, ↓wI_ex, ↓wI_rng, ↓wI_zip, wV, wW]
  refine ⟨by decide, ?_⟩
  refine wS_for (fun i σ H => ∃ (a b c d : Option D) (ds : List Int), σ = [some (.ref s), some (.int 0), some (.int last), some (.ref h.length), a, b, c, d] ∧ H = h ++ [.lst (ds.map .int)] ∧ ds.length ≤ 60 * i) ?_
  simp only [↓wE_var, ↓wE_cst, ↓wE_glb, ↓wE_tup, ↓wE_lst, ↓wE_dnew, ↓wE_bin, ↓wE_cmp, ↓wE_not, ↓wE_or, ↓wE_and, ↓wE_idx, ↓wE_slc, ↓wE_omit, ↓wE_call, ↓wE_blt, ↓wE_isi, ↓wE_mth, ↓wL_nil, ↓wL_cons, ↓wB_nil, ↓wB_cons, ↓wS_asg, ↓wS_sub, ↓wS_expr, ↓wS_ret, ↓wS_ite, ↓wI_ex, ↓wI_rng, ↓wI_zip, wV, wW, rng2 (show last ≤ 1000000 by omega), wO_some]
  refine ⟨⟨none, none, none, none, [], rfl, rfl, by simp⟩, ?_, ?_⟩
  · rintro i σ H hi ⟨a, b, c, d, ds, rfl, rfl, hd⟩
    refine ⟨_, rng_nx hi, ?_⟩
    simp only [It.len, List.length_map, List.length_range] at hi
    rw [← wW_eq]
    try simp only [↓wE_var, ↓wE_cst, ↓wE_glb, ↓wE_tup, ↓wE_lst, ↓wE_dnew, ↓wE_bin, ↓wE_cmp, ↓wE_not, ↓wE_or, ↓wE_and, ↓wE_idx, ↓wE_slc, ↓wE_omit, ↓wE_call, ↓wE_blt, ↓wE_isi, ↓wE_mth, ↓wL_nil, ↓wL_cons, ↓wB_nil, ↓wB_cons, ↓wS_asg, ↓wS_sub, ↓wS_expr, ↓wS_ret, ↓wS_ite, ↓wI_ex, ↓wI_rng, ↓wI_zip, wV, wW]
    refine run_cell hC (hs.grow _) fun cell => ?_
    have rest : ∀ cell : Int, wB (callI P wf (j + 1)) wf bDig2
        [some (.ref s), some (.int 0), some (.int last), some (.ref h.length), some (.int (i : Nat)), some (.int cell), c, d] (h ++ [.lst (ds.map .int)]) (fun f h2 => match f with
          | .nx σ2 => ∃ (a b c d : Option D) (ds : List Int), σ2 = [some (.ref s), some (.int 0), some (.int last), some (.ref h.length), a, b, c, d] ∧ h2 = h ++ [.lst (ds.map .int)] ∧ ds.length ≤ 60 * (i + 1)
          | .ct σ2 => ∃ (a b c d : Option D) (ds : List Int), σ2 = [some (.ref s), some (.int 0), some (.int last), some (.ref h.length), a, b, c, d] ∧ h2 = h ++ [.lst (ds.map .int)] ∧ ds.length ≤ 60 * (i + 1)
          | _ => False) := by
      intro cell
      simp only [bDig2, ↓wE_var, ↓wE_cst, ↓wE_glb, ↓wE_tup, ↓wE_lst, ↓wE_dnew, ↓wE_bin, ↓wE_cmp, ↓wE_not, ↓wE_or, ↓wE_and, ↓wE_idx, ↓wE_slc, ↓wE_omit, ↓wE_call, ↓wE_blt, ↓wE_isi, ↓wE_mth, ↓wL_nil, ↓wL_cons, ↓wB_nil, ↓wB_cons, ↓wS_asg, ↓wS_sub, ↓wS_expr, ↓wS_ret, ↓wS_ite, ↓wI_ex, ↓wI_rng, ↓wI_zip, wV, wW, wO_some, o_int, i_add, i_sub, m_48271, m_69621, m_16807, m_2, m_7, r_1000, r_m31, r_26, f_1000, f_997, f_26, p_18, c_lt, c_gt, c_ge, c_str, t_bl, b_int]
      split
      · try simp only [↓wE_var, ↓wE_cst, ↓wE_glb, ↓wE_tup, ↓wE_lst, ↓wE_dnew, ↓wE_bin, ↓wE_cmp, ↓wE_not, ↓wE_or, ↓wE_and, ↓wE_idx, ↓wE_slc, ↓wE_omit, ↓wE_call, ↓wE_blt, ↓wE_isi, ↓wE_mth, ↓wL_nil, ↓wL_cons, ↓wB_nil, ↓wB_cons, ↓wS_asg, ↓wS_sub, ↓wS_expr, ↓wS_ret, ↓wS_ite, ↓wI_ex, ↓wI_rng, ↓wI_zip, wV, wW]
        refine wS_for (fun t σ H => ∃ (b c : Option D) (cell : Int) (es : List Int), σ = [some (.ref s), some (.int 0), some (.int last), some (.ref h.length), some (.int (i : Nat)), some (.int cell), c, d] ∧ H = h ++ [.lst (es.map .int)] ∧ es.length ≤ ds.length + t) ?_
        simp only [↓wE_var, ↓wE_cst, ↓wE_glb, ↓wE_tup, ↓wE_lst, ↓wE_dnew, ↓wE_bin, ↓wE_cmp, ↓wE_not, ↓wE_or, ↓wE_and, ↓wE_idx, ↓wE_slc, ↓wE_omit, ↓wE_call, ↓wE_blt, ↓wE_isi, ↓wE_mth, ↓wL_nil, ↓wL_cons, ↓wB_nil, ↓wB_cons, ↓wS_asg, ↓wS_sub, ↓wS_expr, ↓wS_ret, ↓wS_ite, ↓wI_ex, ↓wI_rng, ↓wI_zip, wV, wW, rng60, wO_some]
        refine ⟨⟨none, c, cell, ds, rfl, rfl, by omega⟩, ?_, ?_⟩
        · rintro t σ H ht ⟨b, c, cell, es, rfl, rfl, he⟩
          refine ⟨_, rng_nx ht, ?_⟩
          simp only [It.len, List.length_map, List.length_range] at ht
          rw [← wW_eq]
          try simp only [↓wE_var, ↓wE_cst, ↓wE_glb, ↓wE_tup, ↓wE_lst, ↓wE_dnew, ↓wE_bin, ↓wE_cmp, ↓wE_not, ↓wE_or, ↓wE_and, ↓wE_idx, ↓wE_slc, ↓wE_omit, ↓wE_call, ↓wE_blt, ↓wE_isi, ↓wE_mth, ↓wL_nil, ↓wL_cons, ↓wB_nil, ↓wB_cons, ↓wS_asg, ↓wS_sub, ↓wS_expr, ↓wS_ret, ↓wS_ite, ↓wI_ex, ↓wI_rng, ↓wI_zip, wV, wW, wO_some, o_int, i_add, i_sub, m_48271, m_69621, m_16807, m_2, m_7, r_1000, r_m31, r_26, f_1000, f_997, f_26, p_18, c_lt, c_gt, c_ge, c_str, t_bl, b_int]
          split
          · try simp only [↓wE_var, ↓wE_cst, ↓wE_glb, ↓wE_tup, ↓wE_lst, ↓wE_dnew, ↓wE_bin, ↓wE_cmp, ↓wE_not, ↓wE_or, ↓wE_and, ↓wE_idx, ↓wE_slc, ↓wE_omit, ↓wE_call, ↓wE_blt, ↓wE_isi, ↓wE_mth, ↓wL_nil, ↓wL_cons, ↓wB_nil, ↓wB_cons, ↓wS_asg, ↓wS_sub, ↓wS_expr, ↓wS_ret, ↓wS_ite, ↓wI_ex, ↓wI_rng, ↓wI_zip, wV, wW, wO_some, o_int, i_add, i_sub, m_48271, m_69621, m_16807, m_2, m_7, r_1000, r_m31, r_26, f_1000, f_997, f_26, p_18, c_lt, c_gt, c_ge, c_str, t_bl, b_int, recv_last, true_and]
            refine app_last (by simp [big]; omega) ?_
            try simp only [↓wE_var, ↓wE_cst, ↓wE_glb, ↓wE_tup, ↓wE_lst, ↓wE_dnew, ↓wE_bin, ↓wE_cmp, ↓wE_not, ↓wE_or, ↓wE_and, ↓wE_idx, ↓wE_slc, ↓wE_omit, ↓wE_call, ↓wE_blt, ↓wE_isi, ↓wE_mth, ↓wL_nil, ↓wL_cons, ↓wB_nil, ↓wB_cons, ↓wS_asg, ↓wS_sub, ↓wS_expr, ↓wS_ret, ↓wS_ite, ↓wI_ex, ↓wI_rng, ↓wI_zip, wV, wW, wO_some, o_int, i_add, i_sub, m_48271, m_69621, m_16807, m_2, m_7, r_1000, r_m31, r_26, f_1000, f_997, f_26, p_18, c_lt, c_gt, c_ge, c_str, t_bl, b_int]
            exact ⟨none, _, _, es ++ [_], rfl, by rw [List.map_append]; rfl, by simp; omega⟩
          · try simp only [↓wE_var, ↓wE_cst, ↓wE_glb, ↓wE_tup, ↓wE_lst, ↓wE_dnew, ↓wE_bin, ↓wE_cmp, ↓wE_not, ↓wE_or, ↓wE_and, ↓wE_idx, ↓wE_slc, ↓wE_omit, ↓wE_call, ↓wE_blt, ↓wE_isi, ↓wE_mth, ↓wL_nil, ↓wL_cons, ↓wB_nil, ↓wB_cons, ↓wS_asg, ↓wS_sub, ↓wS_expr, ↓wS_ret, ↓wS_ite, ↓wI_ex, ↓wI_rng, ↓wI_zip, wV, wW]
            exact ⟨none, _, _, es, rfl, rfl, by omega⟩
        · rintro σ H ⟨b, c, cell, es, rfl, rfl, he⟩
          refine ⟨rfl, ?_⟩
          try simp only [↓wE_var, ↓wE_cst, ↓wE_glb, ↓wE_tup, ↓wE_lst, ↓wE_dnew, ↓wE_bin, ↓wE_cmp, ↓wE_not, ↓wE_or, ↓wE_and, ↓wE_idx, ↓wE_slc, ↓wE_omit, ↓wE_call, ↓wE_blt, ↓wE_isi, ↓wE_mth, ↓wL_nil, ↓wL_cons, ↓wB_nil, ↓wB_cons, ↓wS_asg, ↓wS_sub, ↓wS_expr, ↓wS_ret, ↓wS_ite, ↓wI_ex, ↓wI_rng, ↓wI_zip, wV, wW]
          simp only [It.len, List.length_map, List.length_range] at he
          exact ⟨_, _, _, _, es, rfl, rfl, by omega⟩
      · try simp only [↓wE_var, ↓wE_cst, ↓wE_glb, ↓wE_tup, ↓wE_lst, ↓wE_dnew, ↓wE_bin, ↓wE_cmp, ↓wE_not, ↓wE_or, ↓wE_and, ↓wE_idx, ↓wE_slc, ↓wE_omit, ↓wE_call, ↓wE_blt, ↓wE_isi, ↓wE_mth, ↓wL_nil, ↓wL_cons, ↓wB_nil, ↓wB_cons, ↓wS_asg, ↓wS_sub, ↓wS_expr, ↓wS_ret, ↓wS_ite, ↓wI_ex, ↓wI_rng, ↓wI_zip, wV, wW, wO_some, o_int, i_add, i_sub, m_48271, m_69621, m_16807, m_2, m_7, r_1000, r_m31, r_26, f_1000, f_997, f_26, p_18, c_lt, c_gt, c_ge, c_str, t_bl, b_int]
        refine wS_for (fun t σ H => ∃ (c : Option D) (seed : Int) (es : List Int), σ = [some (.ref s), some (.int 0), some (.int last), some (.ref h.length), some (.int (i : Nat)), some (.int cell), c, some (.int seed)] ∧ H = h ++ [.lst (es.map .int)] ∧ es.length ≤ ds.length + t) ?_
        simp only [↓wE_var, ↓wE_cst, ↓wE_glb, ↓wE_tup, ↓wE_lst, ↓wE_dnew, ↓wE_bin, ↓wE_cmp, ↓wE_not, ↓wE_or, ↓wE_and, ↓wE_idx, ↓wE_slc, ↓wE_omit, ↓wE_call, ↓wE_blt, ↓wE_isi, ↓wE_mth, ↓wL_nil, ↓wL_cons, ↓wB_nil, ↓wB_cons, ↓wS_asg, ↓wS_sub, ↓wS_expr, ↓wS_ret, ↓wS_ite, ↓wI_ex, ↓wI_rng, ↓wI_zip, wV, wW, rng12, wO_some]
        refine ⟨⟨c, _, ds, rfl, rfl, by omega⟩, ?_, ?_⟩
        · rintro t σ H ht ⟨c, seed, es, rfl, rfl, he⟩
          refine ⟨_, rng_nx ht, ?_⟩
          simp only [It.len, List.length_map, List.length_range] at ht
          rw [← wW_eq]
          simp only [↓wE_var, ↓wE_cst, ↓wE_glb, ↓wE_tup, ↓wE_lst, ↓wE_dnew, ↓wE_bin, ↓wE_cmp, ↓wE_not, ↓wE_or, ↓wE_and, ↓wE_idx, ↓wE_slc, ↓wE_omit, ↓wE_call, ↓wE_blt, ↓wE_isi, ↓wE_mth, ↓wL_nil, ↓wL_cons, ↓wB_nil, ↓wB_cons, ↓wS_asg, ↓wS_sub, ↓wS_expr, ↓wS_ret, ↓wS_ite, ↓wI_ex, ↓wI_rng, ↓wI_zip, wV, wW, wO_some, o_int, i_add, i_sub, m_48271, m_69621, m_16807, m_2, m_7, r_1000, r_m31, r_26, f_1000, f_997, f_26, p_18, c_lt, c_gt, c_ge, c_str, t_bl, b_int, recv_last, true_and]
          refine app_last (by simp [big]; omega) ?_
          exact ⟨_, _, es ++ [_], rfl, by rw [List.map_append]; rfl, by simp; omega⟩
        · rintro σ H ⟨c, seed, es, rfl, rfl, he⟩
          refine ⟨rfl, ?_⟩
          try simp only [↓wE_var, ↓wE_cst, ↓wE_glb, ↓wE_tup, ↓wE_lst, ↓wE_dnew, ↓wE_bin, ↓wE_cmp, ↓wE_not, ↓wE_or, ↓wE_and, ↓wE_idx, ↓wE_slc, ↓wE_omit, ↓wE_call, ↓wE_blt, ↓wE_isi, ↓wE_mth, ↓wL_nil, ↓wL_cons, ↓wB_nil, ↓wB_cons, ↓wS_asg, ↓wS_sub, ↓wS_expr, ↓wS_ret, ↓wS_ite, ↓wI_ex, ↓wI_rng, ↓wI_zip, wV, wW]
          simp only [It.len, List.length_map, List.length_range] at he
          exact ⟨_, _, _, _, es, rfl, rfl, by omega⟩
    try simp only [↓wE_var, ↓wE_cst, ↓wE_glb, ↓wE_tup, ↓wE_lst, ↓wE_dnew, ↓wE_bin, ↓wE_cmp, ↓wE_not, ↓wE_or, ↓wE_and, ↓wE_idx, ↓wE_slc, ↓wE_omit, ↓wE_call, ↓wE_blt, ↓wE_isi, ↓wE_mth, ↓wL_nil, ↓wL_cons, ↓wB_nil, ↓wB_cons, ↓wS_asg, ↓wS_sub, ↓wS_expr, ↓wS_ret, ↓wS_ite, ↓wI_ex, ↓wI_rng, ↓wI_zip, wV, wW, wO_some, o_int, i_add, i_sub, m_48271, m_69621, m_16807, m_2, m_7, r_1000, r_m31, r_26, f_1000, f_997, f_26, p_18, c_lt, c_gt, c_ge, c_str, t_bl, b_int]
    split
    · try simp only [↓wE_var, ↓wE_cst, ↓wE_glb, ↓wE_tup, ↓wE_lst, ↓wE_dnew, ↓wE_bin, ↓wE_cmp, ↓wE_not, ↓wE_or, ↓wE_and, ↓wE_idx, ↓wE_slc, ↓wE_omit, ↓wE_call, ↓wE_blt, ↓wE_isi, ↓wE_mth, ↓wL_nil, ↓wL_cons, ↓wB_nil, ↓wB_cons, ↓wS_asg, ↓wS_sub, ↓wS_expr, ↓wS_ret, ↓wS_ite, ↓wI_ex, ↓wI_rng, ↓wI_zip, wV, wW, wO_some, o_int, i_add, i_sub, m_48271, m_69621, m_16807, m_2, m_7, r_1000, r_m31, r_26, f_1000, f_997, f_26, p_18, c_lt, c_gt, c_ge, c_str, t_bl, b_int]
      exact rest _
    · try simp only [↓wE_var, ↓wE_cst, ↓wE_glb, ↓wE_tup, ↓wE_lst, ↓wE_dnew, ↓wE_bin, ↓wE_cmp, ↓wE_not, ↓wE_or, ↓wE_and, ↓wE_idx, ↓wE_slc, ↓wE_omit, ↓wE_call, ↓wE_blt, ↓wE_isi, ↓wE_mth, ↓wL_nil, ↓wL_cons, ↓wB_nil, ↓wB_cons, ↓wS_asg, ↓wS_sub, ↓wS_expr, ↓wS_ret, ↓wS_ite, ↓wI_ex, ↓wI_rng, ↓wI_zip, wV, wW, wO_some, o_int, i_add, i_sub, m_48271, m_69621, m_16807, m_2, m_7, r_1000, r_m31, r_26, f_1000, f_997, f_26, p_18, c_lt, c_gt, c_ge, c_str, t_bl, b_int]
      exact rest _
  · rintro σ H ⟨a, b, c, d, ds, rfl, rfl, hd⟩
    refine ⟨rfl, ?_⟩
    try simp only [↓wE_var, ↓wE_cst, ↓wE_glb, ↓wE_tup, ↓wE_lst, ↓wE_dnew, ↓wE_bin, ↓wE_cmp, ↓wE_not, ↓wE_or, ↓wE_and, ↓wE_idx, ↓wE_slc, ↓wE_omit, ↓wE_call, ↓wE_blt, ↓wE_isi, ↓wE_mth, ↓wL_nil, ↓wL_cons, ↓wB_nil, ↓wB_cons, ↓wS_asg, ↓wS_sub, ↓wS_expr, ↓wS_ret, ↓wS_ite, ↓wI_ex, ↓wI_rng, ↓wI_zip, wV, wW]
    exact q ds
end
end MP
namespace MP
open PySem (Str)
inductive Fm where
  | ltr (s : Str) | neg (a : Fm) | imp (a b : Fm)
def Fm.d : Fm → D
  | .ltr s => .tup [.str "letter", .str s]
  | .neg a => .tup [.str "not", a.d]
  | .imp a b => .tup [.str "if", a.d, b.d]
def Fm.dep : Fm → Nat
  | .ltr _ => 1
  | .neg a => a.dep + 1
  | .imp a b => max a.dep b.dep + 1
def Fm.lvs : Fm → Nat
  | .ltr _ => 1
  | .neg a => a.lvs
  | .imp a b => a.lvs + b.lvs
def Fm.map (g : Str → Str) : Fm → Fm
  | .ltr s => .ltr (g s)
  | .neg a => .neg (a.map g)
  | .imp a b => .imp (a.map g) (b.map g)
theorem Fm.map_dep (g : Str → Str) : ∀ f : Fm, (f.map g).dep = f.dep
  | .ltr _ => rfl
  | .neg a => by simp only [Fm.map, Fm.dep, Fm.map_dep g a]
  | .imp a b => by simp only [Fm.map, Fm.dep, Fm.map_dep g a, Fm.map_dep g b]
theorem Fm.map_lvs (g : Str → Str) : ∀ f : Fm, (f.map g).lvs = f.lvs
  | .ltr _ => rfl
  | .neg a => by simp only [Fm.map, Fm.lvs, Fm.map_lvs g a]
  | .imp a b => by simp only [Fm.map, Fm.lvs, Fm.map_lvs g a, Fm.map_lvs g b]
def Fm.parts : Fm → List Fm
  | .ltr _ => []
  | .neg a => [a]
  | .imp a b => [a, b]
def Fm.hd : Fm → Str
  | .ltr _ => "letter"
  | .neg _ => "not"
  | .imp _ _ => "if"
def Fm.isL : Fm → Bool
  | .ltr _ => true
  | _ => false
theorem Fm.d_parts : ∀ {f : Fm}, f.isL = false → f.d = .tup (.str f.hd :: f.parts.map Fm.d)
  | .neg _, _ => rfl
  | .imp _ _, _ => rfl
theorem Fm.hd_ne : ∀ {f : Fm}, f.isL = false → (f.hd == ("letter" : Str)) = false
  | .neg _, _ => by show (("not" : Str) == ("letter" : Str)) = false; decide
  | .imp _ _, _ => by show (("if" : Str) == ("letter" : Str)) = false; decide
theorem Fm.part_dep : ∀ {f p : Fm}, p ∈ f.parts → p.dep + 1 ≤ f.dep
  | .neg a, p, h => by simp [Fm.parts] at h; subst h; simp [Fm.dep]
  | .imp a b, p, h => by
    simp [Fm.parts] at h
    rcases h with rfl | rfl <;> simp [Fm.dep] <;> omega
theorem Fm.parts_le : ∀ f : Fm, f.parts.length ≤ 2
  | .ltr _ => by simp [Fm.parts]
  | .neg _ => by simp [Fm.parts]
  | .imp _ _ => by simp [Fm.parts]
def putD (kvs : List (D × D)) : Fm → D
  | .ltr s => (kFind kvs (.str s)).getD (.tup [.str "letter", .str s])
  | .neg a => .tup [.str "not", putD kvs a]
  | .imp a b => .tup [.str "if", putD kvs a, putD kvs b]
theorem putD_parts {kvs : List (D × D)} : ∀ {f : Fm}, f.isL = false → putD kvs f = .tup (.str f.hd :: f.parts.map (putD kvs))
  | .neg _, _ => rfl
  | .imp _ _, _ => rfl
theorem ix0 {x : D} {r : List D} {h : HI} : idxD (.tup (x :: r)) (.int 0) h = some (x, h) := by
  simp [idxD, atD, ixAt]
theorem ix1 {x y : D} {r : List D} {h : HI} : idxD (.tup (x :: y :: r)) (.int 1) h = some (y, h) := by
  have : (1 : Int) < ((r.length : Nat) : Int) + 1 + 1 := by omega
  simp [idxD, atD, ixAt, this]
theorem sl1 {x : D} {r : List D} {h : HI} : slcD (.tup (x :: r)) (some 1) none h = some (.tup r, h) := by
  simp [slcD, cut, clip]
theorem it_tup {ds : List D} {h : HI} : itOf (.tup ds) h = some (.seq ds) := rfl
theorem po_o {d : D} : partOf true d = some none := rfl
theorem po_i {i : Int} : partOf false (.int i) = some (some i) := rfl
theorem om_o : isOmit .omit = true := rfl
theorem om_c {d : D} : isOmit (.cst d) = false := rfl
theorem om_v {i : Nat} : isOmit (.var i) = false := rfl
theorem cat_t {a b : List D} {h : HI} (hl : a.length + b.length ≤ big) : binD .add (.tup a) (.tup b) h = some (.tup (a ++ b), h) := by
  simp [binD, hl]
theorem ll : (("letter" : Str) == ("letter" : Str)) = true := by decide
theorem rg {h : HI} {t : Nat} {kvs : List (D × D)} (e : h[t]? = some (.dic kvs)) : recv .get (.ref t) h = true := by simp [recv, e]
theorem gt {h : HI} {t : Nat} {kvs : List (D × D)} {s : Str} {d : D} (e : h[t]? = some (.dic kvs)) : mthD .get (.ref t) [.str s, d] h = some ((kFind kvs (.str s)).getD d, h) := by simp [mthD, e, D.key]
section
variable {P : List Def} {wf : Nat} {h : HI}
def bPut (ip : Nat) : MSs := (.cons (.ite (.cmp .eq (.idx (.var 0) (.cst (.int 0))) (.cst (.str "letter"))) (.cons (.ret (.mth .get (.var 1) (.cons (.idx (.var 0) (.cst (.int 1))) (.cons (.var 0) .nil)))) .nil) .nil) (.cons (.ret (.bin .add (.tup (.cons (.idx (.var 0) (.cst (.int 0))) .nil)) (.comp .gtup [2] (.one (.nm 2) (.ex (.slc (.var 0) (.cst (.int 1)) .omit)) (.cst (.bl true)) (.call ip (.cons (.var 2) (.cons (.var 1) .nil))) .omit)))) .nil))
def bLput (ip : Nat) : MSs := (.cons (.ite (.cmp .eq (.idx (.var 0) (.cst (.int 0))) (.cst (.str "letter"))) (.cons (.ret (.mth .get (.var 1) (.cons (.idx (.var 0) (.cst (.int 1))) (.cons (.var 0) .nil)))) .nil) .nil) (.cons (.ret (.bin .add (.tup (.cons (.idx (.var 0) (.cst (.int 0))) .nil)) (.blt .tuple (.cons (.comp .lst [2] (.one (.nm 2) (.ex (.slc (.var 0) (.cst (.int 1)) .omit)) (.cst (.bl true)) (.call ip (.cons (.var 2) (.cons (.var 1) .nil))) .omit)) .nil)))) .nil))
theorem take_snoc {α β : Type} {g : α → β} {l : List α} {i : Nat} {x : α} (e : l[i]? = some x) : (l.take (i + 1)).map g = (l.take i).map g ++ [g x] := by
  rw [List.take_add_one, e]
  simp
theorem seq_nx {α : Type} {g : α → D} {l : List α} {i : Nat} {h : HI} (hi : i < l.length) : (It.seq (l.map g)).nx i h = some (g l[i]) := by simp [It.nx, hi]
theorem run_put {ip t : Nat} {kvs : List (D × D)} (hP : P[ip]? = some ⟨2, 3, bPut ip⟩) (ht : h[t]? = some (.dic kvs)) : ∀ (j : Nat) (f : Fm), f.dep ≤ j → ∀ {Q : D × HI → Prop}, Q (putD kvs f, h) → wO (callI P wf j ip [f.d, .ref t] h) Q
  | 0, f, hd, Q, q => by cases f <;> simp [Fm.dep] at hd
  | j + 1, f, hd, Q, q => by
    refine wC hP rfl ?_
    cases c : f.isL with
    | true =>
      cases f with
      | ltr s =>
        simp only [bPut, startD, List.map_cons, List.map_nil, List.length_cons, List.length_nil, List.replicate, List.cons_append, List.nil_append, Fm.d, ↓wE_var, ↓wE_cst, ↓wE_glb, ↓wE_tup, ↓wE_lst, ↓wE_dnew, ↓wE_bin, ↓wE_cmp, ↓wE_not, ↓wE_or, ↓wE_and, ↓wE_idx, ↓wE_slc, ↓wE_omit, ↓wE_call, ↓wE_blt, ↓wE_isi, ↓wE_mth, ↓wL_nil, ↓wL_cons, ↓wB_nil, ↓wB_cons, ↓wS_asg, ↓wS_sub, ↓wS_expr, ↓wS_ret, ↓wS_ite, ↓wI_ex, ↓wI_rng, ↓wI_zip, wV, wW, wO_some, o_int, i_add, i_sub, m_48271, m_69621, m_16807, m_2, m_7, r_1000, r_m31, r_26, f_1000, f_997, f_26, p_18, c_lt, c_gt, c_ge, c_str, t_bl, b_int, ix0, ix1, ll, if_true, rg ht, gt ht, true_and]
        exact q
      | _ => cases c
    | false =>
      rw [Fm.d_parts c]
      simp only [bPut, startD, List.map_cons, List.map_nil, List.length_cons, List.length_nil, List.replicate, List.cons_append, List.nil_append, ↓wE_var, ↓wE_cst, ↓wE_glb, ↓wE_tup, ↓wE_lst, ↓wE_dnew, ↓wE_bin, ↓wE_cmp, ↓wE_not, ↓wE_or, ↓wE_and, ↓wE_idx, ↓wE_slc, ↓wE_omit, ↓wE_call, ↓wE_blt, ↓wE_isi, ↓wE_mth, ↓wL_nil, ↓wL_cons, ↓wB_nil, ↓wB_cons, ↓wS_asg, ↓wS_sub, ↓wS_expr, ↓wS_ret, ↓wS_ite, ↓wI_ex, ↓wI_rng, ↓wI_zip, wV, wW, wO_some, o_int, i_add, i_sub, m_48271, m_69621, m_16807, m_2, m_7, r_1000, r_m31, r_26, f_1000, f_997, f_26, p_18, c_lt, c_gt, c_ge, c_str, t_bl, b_int, ix0, Fm.hd_ne c, Bool.false_eq_true, if_false]
      refine ⟨by decide, ?_⟩
      refine wE_gt (fun i acc H => h = H ∧ acc = (f.parts.take i).map (putD kvs)) ?_
      simp only [↓wE_var, ↓wE_cst, ↓wE_glb, ↓wE_tup, ↓wE_lst, ↓wE_dnew, ↓wE_bin, ↓wE_cmp, ↓wE_not, ↓wE_or, ↓wE_and, ↓wE_idx, ↓wE_slc, ↓wE_omit, ↓wE_call, ↓wE_blt, ↓wE_isi, ↓wE_mth, ↓wL_nil, ↓wL_cons, ↓wB_nil, ↓wB_cons, ↓wS_asg, ↓wS_sub, ↓wS_expr, ↓wS_ret, ↓wS_ite, ↓wI_ex, ↓wI_rng, ↓wI_zip, wV, wW, wO_some, o_int, i_add, i_sub, m_48271, m_69621, m_16807, m_2, m_7, r_1000, r_m31, r_26, f_1000, f_997, f_26, p_18, c_lt, c_gt, c_ge, c_str, t_bl, b_int, om_c, om_o, po_i, po_o, sl1, it_tup]
      refine ⟨by simp, ?_, ?_⟩
      · rintro i acc H hi ⟨rfl, rfl⟩
        simp only [It.len, List.length_map] at hi
        refine ⟨_, seq_nx hi, ?_⟩
        rw [← wW_eq]
        simp only [wipeD, List.set, ↓wE_var, ↓wE_cst, ↓wE_glb, ↓wE_tup, ↓wE_lst, ↓wE_dnew, ↓wE_bin, ↓wE_cmp, ↓wE_not, ↓wE_or, ↓wE_and, ↓wE_idx, ↓wE_slc, ↓wE_omit, ↓wE_call, ↓wE_blt, ↓wE_isi, ↓wE_mth, ↓wL_nil, ↓wL_cons, ↓wB_nil, ↓wB_cons, ↓wS_asg, ↓wS_sub, ↓wS_expr, ↓wS_ret, ↓wS_ite, ↓wI_ex, ↓wI_rng, ↓wI_zip, wV, wW, wO_some, o_int, i_add, i_sub, m_48271, m_69621, m_16807, m_2, m_7, r_1000, r_m31, r_26, f_1000, f_997, f_26, p_18, c_lt, c_gt, c_ge, c_str, t_bl, b_int, if_true]
        refine run_put hP ht j _ (by have := Fm.part_dep (List.getElem_mem hi); omega) ?_
        refine ⟨?_, rfl, (take_snoc (List.getElem?_eq_getElem hi)).symm⟩
        have := Fm.parts_le f
        simp only [List.length_map, List.length_take, big]
        omega
      · rintro acc H ⟨rfl, rfl⟩
        refine ⟨rfl, ?_⟩
        have hl : (f.parts.take (It.seq (f.parts.map Fm.d)).len) = f.parts := List.take_of_length_le (by simp [It.len])
        rw [hl, cat_t (by have := Fm.parts_le f; simp [big]; omega), wO_some]
        show Q _
        rw [putD_parts c] at q
        exact q
def Pre (h h' : HI) : Prop := ∀ (n : Nat) (o : HB), h[n]? = some o → h'[n]? = some o
theorem Pre.refl : Pre h h := fun _ _ e => e
theorem Pre.trans {h1 h2 h3 : HI} (a : Pre h1 h2) (b : Pre h2 h3) : Pre h1 h3 := fun n o e => b n o (a n o e)
theorem Pre.app (g : HI) : Pre h (h ++ g) := fun n o e => grow_get e g
theorem Pre.le {h' : HI} (a : Pre h h') : h.length ≤ h'.length := by
  rcases Nat.eq_zero_or_pos h.length with z | z
  · omega
  · have e : h[h.length - 1]? = some (h[h.length - 1]'(by omega)) := List.getElem?_eq_getElem _
    have := a _ _ e
    rcases Nat.lt_or_ge (h.length - 1) h'.length with q | q
    · omega
    · rw [List.getElem?_eq_none q] at this; cases this
theorem Pre.set {h' : HI} (a : Pre h h') {n : Nat} {o : HB} (hn : h.length ≤ n) : Pre h (h'.set n o) := fun m u e => by
  have hm : m < h.length := by
    rcases Nat.lt_or_ge m h.length with z | z
    · exact z
    · rw [List.getElem?_eq_none z] at e; cases e
  rw [List.getElem?_set_ne (by omega)]
  exact a m u e
theorem tp {h : HI} {n : Nat} {ds : List D} (e : h[n]? = some (.lst ds)) : bltD .tuple [.ref n] h = some (.tup ds, h) := by simp [bltD, e]
theorem run_lput {ip t : Nat} {kvs : List (D × D)} (hP : P[ip]? = some ⟨2, 3, bLput ip⟩) : ∀ (j : Nat) (f : Fm) {h : HI}, h[t]? = some (.dic kvs) → f.dep ≤ j → ∀ {Q : D × HI → Prop}, (∀ h', Pre h h' → Q (putD kvs f, h')) → wO (callI P wf j ip [f.d, .ref t] h) Q
  | 0, f, h, ht, hd, Q, q => by cases f <;> simp [Fm.dep] at hd
  | j + 1, f, h, ht, hd, Q, q => by
    refine wC hP rfl ?_
    cases c : f.isL with
    | true =>
      cases f with
      | ltr s =>
        simp only [bLput, startD, List.map_cons, List.map_nil, List.length_cons, List.length_nil, List.replicate, List.cons_append, List.nil_append, Fm.d, ↓wE_var, ↓wE_cst, ↓wE_glb, ↓wE_tup, ↓wE_lst, ↓wE_dnew, ↓wE_bin, ↓wE_cmp, ↓wE_not, ↓wE_or, ↓wE_and, ↓wE_idx, ↓wE_slc, ↓wE_omit, ↓wE_call, ↓wE_blt, ↓wE_isi, ↓wE_mth, ↓wL_nil, ↓wL_cons, ↓wB_nil, ↓wB_cons, ↓wS_asg, ↓wS_sub, ↓wS_expr, ↓wS_ret, ↓wS_ite, ↓wI_ex, ↓wI_rng, ↓wI_zip, wV, wW, wO_some, o_int, i_add, i_sub, m_48271, m_69621, m_16807, m_2, m_7, r_1000, r_m31, r_26, f_1000, f_997, f_26, p_18, c_lt, c_gt, c_ge, c_str, t_bl, b_int, ix0, ix1, ll, if_true, rg ht, gt ht, true_and]
        exact q _ Pre.refl
      | _ => cases c
    | false =>
      rw [Fm.d_parts c]
      simp only [bLput, startD, List.map_cons, List.map_nil, List.length_cons, List.length_nil, List.replicate, List.cons_append, List.nil_append, ↓wE_var, ↓wE_cst, ↓wE_glb, ↓wE_tup, ↓wE_lst, ↓wE_dnew, ↓wE_bin, ↓wE_cmp, ↓wE_not, ↓wE_or, ↓wE_and, ↓wE_idx, ↓wE_slc, ↓wE_omit, ↓wE_call, ↓wE_blt, ↓wE_isi, ↓wE_mth, ↓wL_nil, ↓wL_cons, ↓wB_nil, ↓wB_cons, ↓wS_asg, ↓wS_sub, ↓wS_expr, ↓wS_ret, ↓wS_ite, ↓wI_ex, ↓wI_rng, ↓wI_zip, wV, wW, wO_some, o_int, i_add, i_sub, m_48271, m_69621, m_16807, m_2, m_7, r_1000, r_m31, r_26, f_1000, f_997, f_26, p_18, c_lt, c_gt, c_ge, c_str, t_bl, b_int, ix0, Fm.hd_ne c, Bool.false_eq_true, if_false]
      refine ⟨by decide, ?_⟩
      refine wE_lc (fun n i acc H => Pre h H ∧ h.length ≤ n ∧ acc = (f.parts.take i).map (putD kvs)) ?_
      simp only [↓wE_var, ↓wE_cst, ↓wE_glb, ↓wE_tup, ↓wE_lst, ↓wE_dnew, ↓wE_bin, ↓wE_cmp, ↓wE_not, ↓wE_or, ↓wE_and, ↓wE_idx, ↓wE_slc, ↓wE_omit, ↓wE_call, ↓wE_blt, ↓wE_isi, ↓wE_mth, ↓wL_nil, ↓wL_cons, ↓wB_nil, ↓wB_cons, ↓wS_asg, ↓wS_sub, ↓wS_expr, ↓wS_ret, ↓wS_ite, ↓wI_ex, ↓wI_rng, ↓wI_zip, wV, wW, wO_some, o_int, i_add, i_sub, m_48271, m_69621, m_16807, m_2, m_7, r_1000, r_m31, r_26, f_1000, f_997, f_26, p_18, c_lt, c_gt, c_ge, c_str, t_bl, b_int, om_c, om_o, po_i, po_o, sl1, it_tup]
      refine ⟨⟨Pre.app _, by simp, by simp⟩, ?_, ?_⟩
      · rintro i acc H hi ⟨hp, hn, rfl⟩ e
        simp only [It.len, List.length_map] at hi
        refine ⟨_, seq_nx hi, ?_⟩
        rw [← wW_eq]
        simp only [wipeD, List.set, ↓wE_var, ↓wE_cst, ↓wE_glb, ↓wE_tup, ↓wE_lst, ↓wE_dnew, ↓wE_bin, ↓wE_cmp, ↓wE_not, ↓wE_or, ↓wE_and, ↓wE_idx, ↓wE_slc, ↓wE_omit, ↓wE_call, ↓wE_blt, ↓wE_isi, ↓wE_mth, ↓wL_nil, ↓wL_cons, ↓wB_nil, ↓wB_cons, ↓wS_asg, ↓wS_sub, ↓wS_expr, ↓wS_ret, ↓wS_ite, ↓wI_ex, ↓wI_rng, ↓wI_zip, wV, wW, wO_some, o_int, i_add, i_sub, m_48271, m_69621, m_16807, m_2, m_7, r_1000, r_m31, r_26, f_1000, f_997, f_26, p_18, c_lt, c_gt, c_ge, c_str, t_bl, b_int, if_true]
        refine run_lput hP j _ (hp _ _ ht) (by have := Fm.part_dep (List.getElem_mem hi); omega) fun h' hp' => ?_
        refine ⟨hp' _ _ e, ?_, (hp.trans hp').set (Nat.le_refl _), hn, (take_snoc (List.getElem?_eq_getElem hi)).symm⟩
        have := Fm.parts_le f
        simp only [List.length_map, List.length_take, big]
        omega
      · rintro acc H ⟨hp, hn, rfl⟩ e
        refine ⟨rfl, ?_⟩
        have hl : (f.parts.take (It.seq (f.parts.map Fm.d)).len) = f.parts := List.take_of_length_le (by simp [It.len])
        rw [hl] at e
        rw [tp e, wO_some]
        show wO (binD .add _ _ _) _
        rw [cat_t (by have := Fm.parts_le f; simp [big]; omega), wO_some]
        show Q _
        have := q H hp
        rw [putD_parts c] at this
        exact this
end
end MP
namespace MP
open PySem (Str)
section
variable {P : List Def} {wf : Nat}
def Fm.items : Fm → List D
  | .ltr s => [.str "letter", .str s]
  | .neg a => [.str "not", a.d]
  | .imp a b => [.str "if", a.d, b.d]
theorem Fm.d_items : ∀ f : Fm, f.d = .tup f.items
  | .ltr _ => rfl
  | .neg _ => rfl
  | .imp _ _ => rfl
theorem Fm.item : ∀ {f : Fm} {x : D}, x ∈ f.items → (∃ s, x = .str s) ∨ ∃ p : Fm, x = p.d ∧ p.dep + 1 ≤ f.dep
  | .ltr s, x, h => by
    simp [Fm.items] at h
    rcases h with rfl | rfl
    · exact .inl ⟨_, rfl⟩
    · exact .inl ⟨_, rfl⟩
  | .neg a, x, h => by
    simp [Fm.items] at h
    rcases h with rfl | rfl
    · exact .inl ⟨_, rfl⟩
    · exact .inr ⟨a, rfl, by simp [Fm.dep]⟩
  | .imp a b, x, h => by
    simp [Fm.items] at h
    rcases h with rfl | rfl | rfl
    · exact .inl ⟨_, rfl⟩
    · exact .inr ⟨a, rfl, by simp [Fm.dep]; omega⟩
    · exact .inr ⟨b, rfl, by simp [Fm.dep]; omega⟩
theorem Fm.items_le : ∀ f : Fm, f.items.length ≤ 3
  | .ltr _ => by simp [Fm.items]
  | .neg _ => by simp [Fm.items]
  | .imp _ _ => by simp [Fm.items]
def bSame (is : Nat) : MSs := (.cons (.ite (.isi .tup (.var 1)) (.cons (.ite (.or (.not (.isi .tup (.var 0))) (.cmp .ne (.blt .len (.cons (.var 0) .nil)) (.blt .len (.cons (.var 1) .nil)))) (.cons (.ret (.cst (.bl false))) .nil) .nil) (.cons (.fr (.nm 2) (.rng (.cons (.blt .len (.cons (.var 1) .nil)) .nil)) (.cons (.ite (.not (.call is (.cons (.idx (.var 0) (.var 2)) (.cons (.idx (.var 1) (.var 2)) .nil)))) (.cons (.ret (.cst (.bl false))) .nil) .nil) .nil)) (.cons (.ret (.cst (.bl true))) .nil))) .nil) (.cons (.ite (.cmp .isN (.var 1) (.cst .non)) (.cons (.ret (.cmp .isN (.var 0) (.cst .non))) .nil) .nil) (.cons (.ite (.isi .bool (.var 1)) (.cons (.ret (.and (.isi .bool (.var 0)) (.cmp .eq (.var 0) (.var 1)))) .nil) .nil) (.cons (.ite (.isi .int (.var 1)) (.cons (.ret (.and (.isi .int (.var 0)) (.and (.not (.isi .bool (.var 0))) (.cmp .eq (.var 0) (.var 1))))) .nil) .nil) (.cons (.ret (.and (.isi .str (.var 0)) (.cmp .eq (.var 0) (.var 1)))) .nil)))))
theorem h_st {s : Str} {h : HI} : hasTy .tup (.str s) h = some false := rfl
theorem h_sb {s : Str} {h : HI} : hasTy .bool (.str s) h = some false := rfl
theorem h_si {s : Str} {h : HI} : hasTy .int (.str s) h = some false := rfl
theorem h_ss {s : Str} {h : HI} : hasTy .str (.str s) h = some true := rfl
theorem h_tt {ds : List D} {h : HI} : hasTy .tup (.tup ds) h = some true := rfl
theorem n_str {s : Str} {h : HI} : cmpB .isN (.str s) .non h = some false := rfl
theorem l_tup {ds : List D} {h : HI} : bltD .len [.tup ds] h = some (.int ds.length, h) := rfl
theorem ne_int {i : Int} {h : HI} : cmpB .ne (.int i) (.int i) h = some false := by simp [cmpB, D.eqv]
theorem run_same {is : Nat} {h : HI} (hP : P[is]? = some ⟨2, 3, bSame is⟩) : ∀ (j : Nat), (∀ (s : Str) {Q : D × HI → Prop}, 1 ≤ j → Q (.bl true, h) → wO (callI P wf j is [.str s, .str s] h) Q) ∧
    ∀ (f : Fm) {Q : D × HI → Prop}, f.dep + 1 ≤ j → Q (.bl true, h) → wO (callI P wf j is [f.d, f.d] h) Q
  | 0 => ⟨fun s Q hj _ => by omega, fun f Q hj _ => by omega⟩
  | j + 1 => by
    have ih := run_same (h := h) hP j
    refine ⟨fun s Q _ q => ?_, fun f Q hj q => ?_⟩
    · refine wC hP rfl ?_
      simp only [bSame, startD, List.map_cons, List.map_nil, List.length_cons, List.length_nil, List.replicate, List.cons_append, List.nil_append, ↓wE_var, ↓wE_cst, ↓wE_glb, ↓wE_tup, ↓wE_lst, ↓wE_dnew, ↓wE_bin, ↓wE_cmp, ↓wE_not, ↓wE_or, ↓wE_and, ↓wE_idx, ↓wE_slc, ↓wE_omit, ↓wE_call, ↓wE_blt, ↓wE_isi, ↓wE_mth, ↓wL_nil, ↓wL_cons, ↓wB_nil, ↓wB_cons, ↓wS_asg, ↓wS_sub, ↓wS_expr, ↓wS_ret, ↓wS_ite, ↓wI_ex, ↓wI_rng, ↓wI_zip, wV, wW, wO_some, o_int, i_add, i_sub, m_48271, m_69621, m_16807, m_2, m_7, r_1000, r_m31, r_26, f_1000, f_997, f_26, p_18, c_lt, c_gt, c_ge, c_str, t_bl, b_int, h_st, h_sb, h_si, h_ss, n_str, Bool.false_eq_true, if_false, if_true, beq_self_eq_true]
      exact q
    · refine wC hP rfl ?_
      rw [Fm.d_items]
      simp only [bSame, startD, List.map_cons, List.map_nil, List.length_cons, List.length_nil, List.replicate, List.cons_append, List.nil_append, ↓wE_var, ↓wE_cst, ↓wE_glb, ↓wE_tup, ↓wE_lst, ↓wE_dnew, ↓wE_bin, ↓wE_cmp, ↓wE_not, ↓wE_or, ↓wE_and, ↓wE_idx, ↓wE_slc, ↓wE_omit, ↓wE_call, ↓wE_blt, ↓wE_isi, ↓wE_mth, ↓wL_nil, ↓wL_cons, ↓wB_nil, ↓wB_cons, ↓wS_asg, ↓wS_sub, ↓wS_expr, ↓wS_ret, ↓wS_ite, ↓wI_ex, ↓wI_rng, ↓wI_zip, wV, wW, wO_some, o_int, i_add, i_sub, m_48271, m_69621, m_16807, m_2, m_7, r_1000, r_m31, r_26, f_1000, f_997, f_26, p_18, c_lt, c_gt, c_ge, c_str, t_bl, b_int, h_tt, if_true, Bool.not_true, Bool.false_eq_true, if_false, l_tup, ne_int]
      refine wS_for (fun i σ H => (∃ k, σ = [some (.tup f.items), some (.tup f.items), k]) ∧ h = H) ?_
      have := Fm.items_le f
      simp only [↓wE_var, ↓wE_cst, ↓wE_glb, ↓wE_tup, ↓wE_lst, ↓wE_dnew, ↓wE_bin, ↓wE_cmp, ↓wE_not, ↓wE_or, ↓wE_and, ↓wE_idx, ↓wE_slc, ↓wE_omit, ↓wE_call, ↓wE_blt, ↓wE_isi, ↓wE_mth, ↓wL_nil, ↓wL_cons, ↓wB_nil, ↓wB_cons, ↓wS_asg, ↓wS_sub, ↓wS_expr, ↓wS_ret, ↓wS_ite, ↓wI_ex, ↓wI_rng, ↓wI_zip, wV, wW, wO_some, o_int, i_add, i_sub, m_48271, m_69621, m_16807, m_2, m_7, r_1000, r_m31, r_26, f_1000, f_997, f_26, p_18, c_lt, c_gt, c_ge, c_str, t_bl, b_int, l_tup, rng1 (show f.items.length ≤ 1000000 by omega)]
      refine ⟨⟨⟨none, rfl⟩, by simp⟩, ?_, ?_⟩
      · rintro i σ H hi ⟨⟨k, rfl⟩, rfl⟩
        refine ⟨_, rng_nx hi, ?_⟩
        simp only [It.len, List.length_map, List.length_range] at hi
        rw [← wW_eq]
        have e : atD f.items (i : Nat) = some f.items[i] := at_nat (List.getElem?_eq_getElem hi)
        have ex : idxD (.tup f.items) (.int (i : Nat)) h = some (f.items[i], h) := by simp [idxD, e]
        simp only [↓wE_var, ↓wE_cst, ↓wE_glb, ↓wE_tup, ↓wE_lst, ↓wE_dnew, ↓wE_bin, ↓wE_cmp, ↓wE_not, ↓wE_or, ↓wE_and, ↓wE_idx, ↓wE_slc, ↓wE_omit, ↓wE_call, ↓wE_blt, ↓wE_isi, ↓wE_mth, ↓wL_nil, ↓wL_cons, ↓wB_nil, ↓wB_cons, ↓wS_asg, ↓wS_sub, ↓wS_expr, ↓wS_ret, ↓wS_ite, ↓wI_ex, ↓wI_rng, ↓wI_zip, wV, wW, wO_some, o_int, i_add, i_sub, m_48271, m_69621, m_16807, m_2, m_7, r_1000, r_m31, r_26, f_1000, f_997, f_26, p_18, c_lt, c_gt, c_ge, c_str, t_bl, b_int, ex]
        have fin : wO (callI P wf j is [f.items[i], f.items[i]] h) (fun r => r = (.bl true, h)) := by
          rcases Fm.item (List.getElem_mem hi) with ⟨s, es⟩ | ⟨p, ep, hp⟩
          · rw [es]
            exact ih.1 s (by cases f <;> simp [Fm.dep] at hj <;> omega) rfl
          · rw [ep]
            exact ih.2 p (by omega) rfl
        refine wO_imp fin ?_
        rintro _ rfl
        simp only [↓wE_var, ↓wE_cst, ↓wE_glb, ↓wE_tup, ↓wE_lst, ↓wE_dnew, ↓wE_bin, ↓wE_cmp, ↓wE_not, ↓wE_or, ↓wE_and, ↓wE_idx, ↓wE_slc, ↓wE_omit, ↓wE_call, ↓wE_blt, ↓wE_isi, ↓wE_mth, ↓wL_nil, ↓wL_cons, ↓wB_nil, ↓wB_cons, ↓wS_asg, ↓wS_sub, ↓wS_expr, ↓wS_ret, ↓wS_ite, ↓wI_ex, ↓wI_rng, ↓wI_zip, wV, wW, wO_some, o_int, i_add, i_sub, m_48271, m_69621, m_16807, m_2, m_7, r_1000, r_m31, r_26, f_1000, f_997, f_26, p_18, c_lt, c_gt, c_ge, c_str, t_bl, b_int, Bool.not_true, Bool.false_eq_true, if_false]
        exact ⟨⟨_, rfl⟩, trivial⟩
      · rintro σ H ⟨⟨k, rfl⟩, rfl⟩
        refine ⟨rfl, ?_⟩
        try simp only [↓wE_var, ↓wE_cst, ↓wE_glb, ↓wE_tup, ↓wE_lst, ↓wE_dnew, ↓wE_bin, ↓wE_cmp, ↓wE_not, ↓wE_or, ↓wE_and, ↓wE_idx, ↓wE_slc, ↓wE_omit, ↓wE_call, ↓wE_blt, ↓wE_isi, ↓wE_mth, ↓wL_nil, ↓wL_cons, ↓wB_nil, ↓wB_cons, ↓wS_asg, ↓wS_sub, ↓wS_expr, ↓wS_ret, ↓wS_ite, ↓wI_ex, ↓wI_rng, ↓wI_zip, wV, wW]
        exact q
def BoxOk (h : HI) (b : Nat) : Prop := ∃ (dr : Nat) (ds : List Int) (c : Nat), h[b]? = some (.lst [.ref dr, .int c]) ∧ h[dr]? = some (.lst (ds.map .int))
def Kp (b : Nat) (h h' : HI) : Prop := ∀ (n : Nat) (o : HB), n ≠ b → h[n]? = some o → h'[n]? = some o
theorem Kp.refl {b : Nat} {h : HI} : Kp b h h := fun _ _ _ e => e
theorem Kp.trans {b : Nat} {h h1 h2 : HI} (x : Kp b h h1) (y : Kp b h1 h2) : Kp b h h2 := fun n o hn e => y n o hn (x n o hn e)
theorem Pre.kp {b : Nat} {h h' : HI} (p : Pre h h') : Kp b h h' := fun n o _ e => p n o e
theorem BoxOk.pre {b : Nat} {h h' : HI} (x : BoxOk h b) (p : Pre h h') : BoxOk h' b := by
  obtain ⟨dr, ds, c, e1, e2⟩ := x
  exact ⟨dr, ds, c, p _ _ e1, p _ _ e2⟩
def bDraw : MSs := (.cons (.asg (.nm 2) (.idx (.var 0) (.cst (.int 1)))) (.cons (.sub (.var 0) (.cst (.int 1)) (.bin .add (.var 2) (.cst (.int 1)))) (.cons (.ite (.cmp .lt (.var 2) (.blt .len (.cons (.idx (.var 0) (.cst (.int 0))) .nil))) (.cons (.ret (.bin .mod (.blt .int (.cons (.idx (.idx (.var 0) (.cst (.int 0))) (.var 2)) .nil)) (.var 1))) .nil) .nil) (.cons (.ret (.cst (.int 0))) .nil))))
theorem b_0 {x y : D} {b : Nat} {h : HI} (e : h[b]? = some (.lst [x, y])) : idxD (.ref b) (.int 0) h = some (x, h) := by simp [idxD, e, atD, ixAt]
theorem b_1 {x y : D} {b : Nat} {h : HI} (e : h[b]? = some (.lst [x, y])) : idxD (.ref b) (.int 1) h = some (y, h) := by simp [idxD, e, atD, ixAt]
theorem s_1 {x y v : D} {b : Nat} {h : HI} (e : h[b]? = some (.lst [x, y])) : setIx (.ref b) (.int 1) v h = some (h.set b (.lst [x, v])) := by simp [setIx, e, ixAt]
theorem run_draw {iw b j : Nat} {h : HI} {m : Int} {Q : D × HI → Prop} (hP : P[iw]? = some ⟨2, 3, bDraw⟩) (hb : BoxOk h b) (hm : 0 < m) (q : ∀ (v : Int) (h' : HI), 0 ≤ v → v < m → BoxOk h' b → Kp b h h' → Q (.int v, h')) :
    wO (callI P wf (j + 1) iw [.ref b, .int m] h) Q := by
  obtain ⟨dr, ds, c, e1, e2⟩ := hb
  have hlt : b < h.length := by
    rcases Nat.lt_or_ge b h.length with z | z
    · exact z
    · rw [List.getElem?_eq_none z] at e1; cases e1
  have nd : b ≠ dr := fun z => by
    rw [← z, e1] at e2
    cases ds with
    | nil => cases e2
    | cons x r => simp at e2
  have g1 : (h.set b (.lst [.ref dr, .int ((c : Int) + 1)]))[b]? = some (.lst [.ref dr, .int ((c : Int) + 1)]) := List.getElem?_set_self hlt
  have g2 : (h.set b (.lst [.ref dr, .int ((c : Int) + 1)]))[dr]? = some (.lst (ds.map .int)) := by rw [List.getElem?_set_ne nd]; exact e2
  have kp : Kp b h (h.set b (.lst [.ref dr, .int ((c : Int) + 1)])) := fun n o hn e => by rw [List.getElem?_set_ne (Ne.symm hn)]; exact e
  have bo : BoxOk (h.set b (.lst [.ref dr, .int ((c : Int) + 1)])) b := ⟨dr, ds, c + 1, g1, g2⟩
  have la : LA (h.set b (.lst [.ref dr, .int ((c : Int) + 1)])) dr (ds.map .int) := .inl g2
  refine wC hP rfl ?_
  simp only [bDraw, startD, List.map_cons, List.map_nil, List.length_cons, List.length_nil, List.replicate, List.cons_append, List.nil_append, ↓wE_var, ↓wE_cst, ↓wE_glb, ↓wE_tup, ↓wE_lst, ↓wE_dnew, ↓wE_bin, ↓wE_cmp, ↓wE_not, ↓wE_or, ↓wE_and, ↓wE_idx, ↓wE_slc, ↓wE_omit, ↓wE_call, ↓wE_blt, ↓wE_isi, ↓wE_mth, ↓wL_nil, ↓wL_cons, ↓wB_nil, ↓wB_cons, ↓wS_asg, ↓wS_sub, ↓wS_expr, ↓wS_ret, ↓wS_ite, ↓wI_ex, ↓wI_rng, ↓wI_zip, wV, wW, wO_some, o_int, i_add, i_sub, m_48271, m_69621, m_16807, m_2, m_7, r_1000, r_m31, r_26, f_1000, f_997, f_26, p_18, c_lt, c_gt, c_ge, c_str, t_bl, b_int, b_1 e1, s_1 e1, b_0 g1, la.len]
  by_cases hk : c < ds.length
  · have e : (ds.map D.int)[c]? = some (.int ds[c]) := by rw [List.getElem?_map, List.getElem?_eq_getElem hk]; rfl
    have : decide ((c : Int) < ((ds.map D.int).length : Nat)) = true := by simp [hk]
    simp only [this, if_true, la.idx, at_nat e, Option.map_some, wO_some, o_int, i_add, i_sub, m_48271, m_69621, m_16807, m_2, m_7, r_1000, r_m31, r_26, f_1000, f_997, f_26, p_18, c_lt, c_gt, c_ge, c_str, t_bl, b_int, r_k (show m ≠ 0 by omega)]
    exact q _ _ (Int.fmod_nonneg_of_pos _ hm) (Int.fmod_lt_of_pos _ hm) bo kp
  · have : decide ((c : Int) < ((ds.map D.int).length : Nat)) = false := by simp [hk]
    simp only [this, Bool.false_eq_true, if_false, ↓wE_var, ↓wE_cst, ↓wE_glb, ↓wE_tup, ↓wE_lst, ↓wE_dnew, ↓wE_bin, ↓wE_cmp, ↓wE_not, ↓wE_or, ↓wE_and, ↓wE_idx, ↓wE_slc, ↓wE_omit, ↓wE_call, ↓wE_blt, ↓wE_isi, ↓wE_mth, ↓wL_nil, ↓wL_cons, ↓wB_nil, ↓wB_cons, ↓wS_asg, ↓wS_sub, ↓wS_expr, ↓wS_ret, ↓wS_ite, ↓wI_ex, ↓wI_rng, ↓wI_zip, wV, wW]
    exact q 0 _ (Int.le_refl _) hm bo kp
def bBox (id : Nat) : MSs := (.cons (.ret (.lst (.cons (.call id (.cons (.var 0) (.cons (.var 1) (.cons (.var 2) .nil)))) (.cons (.cst (.int 0)) .nil)))) .nil)
theorem run_box {ic id ib s j : Nat} {h : HI} {Q : D × HI → Prop} (hC : P[ic]? = some ⟨2, 2, bCell⟩) (hD : P[id]? = some ⟨3, 8, bDigits ic⟩) (hP : P[ib]? = some ⟨3, 3, bBox id⟩) {ns : List Int} (hs : LA h s (ns.map .int))
    (q : ∀ b h', Pre h h' → BoxOk h' b → Q (.ref b, h')) : wO (callI P wf (j + 3) ib [.ref s, .int 0, .int 63] h) Q := by
  refine wC hP rfl ?_
  simp only [bBox, startD, List.map_cons, List.map_nil, List.length_cons, List.length_nil, List.replicate, List.cons_append, List.nil_append, ↓wE_var, ↓wE_cst, ↓wE_glb, ↓wE_tup, ↓wE_lst, ↓wE_dnew, ↓wE_bin, ↓wE_cmp, ↓wE_not, ↓wE_or, ↓wE_and, ↓wE_idx, ↓wE_slc, ↓wE_omit, ↓wE_call, ↓wE_blt, ↓wE_isi, ↓wE_mth, ↓wL_nil, ↓wL_cons, ↓wB_nil, ↓wB_cons, ↓wS_asg, ↓wS_sub, ↓wS_expr, ↓wS_ret, ↓wS_ite, ↓wI_ex, ↓wI_rng, ↓wI_zip, wV, wW]
  refine run_digits (last := 63) hC hD (by omega) hs fun ds => ?_
  simp only [↓wE_var, ↓wE_cst, ↓wE_glb, ↓wE_tup, ↓wE_lst, ↓wE_dnew, ↓wE_bin, ↓wE_cmp, ↓wE_not, ↓wE_or, ↓wE_and, ↓wE_idx, ↓wE_slc, ↓wE_omit, ↓wE_call, ↓wE_blt, ↓wE_isi, ↓wE_mth, ↓wL_nil, ↓wL_cons, ↓wB_nil, ↓wB_cons, ↓wS_asg, ↓wS_sub, ↓wS_expr, ↓wS_ret, ↓wS_ite, ↓wI_ex, ↓wI_rng, ↓wI_zip, wV, wW]
  refine ⟨by simp [big], ?_⟩
  refine q _ _ ((Pre.app _).trans (Pre.app _)) ⟨h.length, ds, 0, ?_, ?_⟩
  · simp
  · exact grow_get get_last _
def bAny (iw ia : Nat) : MSs := (.cons (.asg (.nm 3) (.call iw (.cons (.var 0) (.cons (.cst (.int 8)) .nil)))) (.cons (.ite (.or (.cmp .lt (.var 1) (.cst (.int 2))) (.cmp .lt (.var 3) (.cst (.int 2)))) (.cons (.ret (.tup (.cons (.cst (.str "letter")) (.cons (.idx (.cst (.str "abcdefgh")) (.call iw (.cons (.var 0) (.cons (.var 2) .nil)))) .nil)))) .nil) .nil) (.cons (.ite (.or (.cmp .lt (.var 1) (.cst (.int 3))) (.cmp .lt (.var 3) (.cst (.int 4)))) (.cons (.ret (.tup (.cons (.cst (.str "not")) (.cons (.call ia (.cons (.var 0) (.cons (.bin .sub (.var 1) (.cst (.int 1))) (.cons (.var 2) .nil)))) .nil)))) .nil) .nil) (.cons (.asg (.nm 4) (.bin .add (.cst (.int 1)) (.call iw (.cons (.var 0) (.cons (.bin .sub (.var 1) (.cst (.int 2))) .nil))))) (.cons (.asg (.nm 5) (.call ia (.cons (.var 0) (.cons (.var 4) (.cons (.var 2) .nil))))) (.cons (.ret (.tup (.cons (.cst (.str "if")) (.cons (.var 5) (.cons (.call ia (.cons (.var 0) (.cons (.bin .sub (.bin .sub (.var 1) (.cst (.int 1))) (.var 4)) (.cons (.var 2) .nil)))) .nil))))) .nil))))))
theorem idx_s {z : Str} {v : Int} {h : HI} (hz : z.cps.size ≤ big) (h0 : 0 ≤ v) (h1 : v < z.cps.size) : ∃ s, idxD (.str z) (.int v) h = some (.str s, h) := by
  have hv : v.toNat < z.cps.size := by omega
  refine ⟨⟨#[z.cps[v.toNat]]⟩, ?_⟩
  simp [idxD, hz, ixAt, h0, h1, hv]
theorem run_any {iw ia b : Nat} {m : Int} (hW : P[iw]? = some ⟨2, 3, bDraw⟩) (hP : P[ia]? = some ⟨3, 6, bAny iw ia⟩) (m0 : 0 < m) (m8 : m ≤ 8) : ∀ (j : Nat) (r : Int) {h : HI} {Q : D × HI → Prop}, 1 ≤ r → r.toNat + 1 ≤ j → BoxOk h b →
    (∀ (f : Fm) h', f.lvs ≤ r.toNat → f.dep ≤ r.toNat → BoxOk h' b → Kp b h h' → Q (f.d, h')) → wO (callI P wf j ia [.ref b, .int r, .int m] h) Q
  | 0, r, h, Q, hr, hj, hb, q => by omega
  | j + 1, r, h, Q, hr, hj, hb, q => by
    obtain ⟨k, rfl⟩ : ∃ k, j = k + 1 := ⟨j - 1, by omega⟩
    refine wC hP rfl ?_
    simp only [bAny, startD, List.map_cons, List.map_nil, List.length_cons, List.length_nil, List.replicate, List.cons_append, List.nil_append, ↓wE_var, ↓wE_cst, ↓wE_glb, ↓wE_tup, ↓wE_lst, ↓wE_dnew, ↓wE_bin, ↓wE_cmp, ↓wE_not, ↓wE_or, ↓wE_and, ↓wE_idx, ↓wE_slc, ↓wE_omit, ↓wE_call, ↓wE_blt, ↓wE_isi, ↓wE_mth, ↓wL_nil, ↓wL_cons, ↓wB_nil, ↓wB_cons, ↓wS_asg, ↓wS_sub, ↓wS_expr, ↓wS_ret, ↓wS_ite, ↓wI_ex, ↓wI_rng, ↓wI_zip, wV, wW]
    refine run_draw hW hb (by omega) fun kind h1 k0 k1 b1 kp1 => ?_
    simp only [↓wE_var, ↓wE_cst, ↓wE_glb, ↓wE_tup, ↓wE_lst, ↓wE_dnew, ↓wE_bin, ↓wE_cmp, ↓wE_not, ↓wE_or, ↓wE_and, ↓wE_idx, ↓wE_slc, ↓wE_omit, ↓wE_call, ↓wE_blt, ↓wE_isi, ↓wE_mth, ↓wL_nil, ↓wL_cons, ↓wB_nil, ↓wB_cons, ↓wS_asg, ↓wS_sub, ↓wS_expr, ↓wS_ret, ↓wS_ite, ↓wI_ex, ↓wI_rng, ↓wI_zip, wV, wW, wO_some, o_int, i_add, i_sub, m_48271, m_69621, m_16807, m_2, m_7, r_1000, r_m31, r_26, f_1000, f_997, f_26, p_18, c_lt, c_gt, c_ge, c_str, t_bl, b_int]
    have leaf : wO (callI P wf (k + 1) iw [.ref b, .int m] h1) fun r_1 => wO (idxD (.str "abcdefgh") r_1.1 r_1.2) fun r_2 => Q (.tup [.str "letter", r_2.1], r_2.2) := by
      refine run_draw hW b1 m0 fun v h2 v0 v1 b2 kp2 => ?_
      have hz : ((("abcdefgh" : Str).cps.size : Nat) : Int) = 8 := by decide
      obtain ⟨s, e⟩ := idx_s (z := "abcdefgh") (v := v) (h := h2) (by decide) v0 (by rw [hz]; omega)
      show wO (idxD (.str "abcdefgh") (.int v) h2) _
      rw [e, wO_some]
      exact q (.ltr s) h2 (by simp [Fm.lvs]; omega) (by simp [Fm.dep]; omega) b2 (kp1.trans kp2)
    by_cases c1 : r < 2
    · simp only [decide_eq_true c1, if_true]
      exact wO_imp leaf fun _ z => wO_imp z fun _ z => ⟨by decide, z⟩
    by_cases c2 : kind < 2
    · simp only [decide_eq_false c1, decide_eq_true c2, Bool.false_eq_true, if_false, if_true]
      exact wO_imp leaf fun _ z => wO_imp z fun _ z => ⟨by decide, z⟩
    have neg : wO (callI P wf (k + 1) ia [.ref b, .int (r - 1), .int m] h1) fun r_1 => Q (.tup [.str "not", r_1.1], r_1.2) := by
      refine run_any hW hP m0 m8 (k + 1) (r - 1) (by omega) (by omega) b1 fun f h2 l1 l2 b2 kp2 => ?_
      exact q (.neg f) h2 (by simp only [Fm.lvs]; omega) (by simp only [Fm.dep]; omega) b2 (kp1.trans kp2)
    by_cases c3 : r < 3
    · simp only [decide_eq_false c1, decide_eq_false c2, decide_eq_true c3, Bool.false_eq_true, if_false, if_true]
      exact wO_imp neg fun _ z => ⟨by decide, z⟩
    by_cases c4 : kind < 4
    · simp only [decide_eq_false c1, decide_eq_false c2, decide_eq_false c3, decide_eq_true c4, Bool.false_eq_true, if_false, if_true]
      exact wO_imp neg fun _ z => ⟨by decide, z⟩
    simp only [decide_eq_false c1, decide_eq_false c2, decide_eq_false c3, decide_eq_false c4, Bool.false_eq_true, if_false]
    refine run_draw hW b1 (by omega) fun v h2 v0 v1 b2 kp2 => ?_
    simp only [wO_some, o_int, i_add, i_sub, m_48271, m_69621, m_16807, m_2, m_7, r_1000, r_m31, r_26, f_1000, f_997, f_26, p_18, c_lt, c_gt, c_ge, c_str, t_bl, b_int]
    refine run_any hW hP m0 m8 (k + 1) (1 + v) (by omega) (by omega) b2 fun f h3 l1 l2 b3 kp3 => ?_
    try simp only [wO_some, o_int, i_add, i_sub, m_48271, m_69621, m_16807, m_2, m_7, r_1000, r_m31, r_26, f_1000, f_997, f_26, p_18, c_lt, c_gt, c_ge, c_str, t_bl, b_int]
    refine run_any hW hP m0 m8 (k + 1) (r - 1 - (1 + v)) (by omega) (by omega) b3 fun g h4 l3 l4 b4 kp4 => ?_
    exact ⟨by decide, q (.imp f g) h4 (by simp only [Fm.lvs]; omega) (by simp only [Fm.dep]; omega) b4 (kp1.trans (kp2.trans (kp3.trans kp4)))⟩
end
end MP
namespace MP
open PySem (Str)
def letD (s : Str) : D := .tup [.str "letter", .str s]
def LetTab (kvs : List (D × D)) : Prop := ∀ p ∈ kvs, ∃ s, p.2 = letD s
theorem LetTab.put {kvs : List (D × D)} (a : LetTab kvs) (k : D) (s : Str) : LetTab (kPut kvs k (letD s)) := fun p hp => by
  unfold kPut at hp
  split at hp
  · obtain ⟨q, hq, e⟩ := List.mem_map.mp hp
    split at e
    · subst e; exact ⟨s, rfl⟩
    · subst e; exact a q hq
  · rcases List.mem_append.mp hp with h | h
    · exact a p h
    · simp at h; subst h; exact ⟨s, rfl⟩
theorem kPut_len (kvs : List (D × D)) (k v : D) : (kPut kvs k v).length ≤ kvs.length + 1 := by
  unfold kPut
  split
  · simp
  · simp
theorem LetTab.find {kvs : List (D × D)} (a : LetTab kvs) (s : Str) : ∃ t, (kFind kvs (.str s)).getD (letD s) = letD t := by
  unfold kFind
  cases c : kvs.find? fun p => D.eqv p.1 (.str s) with
  | none => exact ⟨s, rfl⟩
  | some p => exact a p (List.mem_of_find?_eq_some c)
theorem LetTab.map {kvs : List (D × D)} (a : LetTab kvs) : ∃ g : Str → Str, ∀ f : Fm, putD kvs f = (f.map g).d := by
  refine ⟨fun s => (a.find s).choose, fun f => ?_⟩
  induction f with
  | ltr s => exact (a.find s).choose_spec
  | neg a ih => simp only [putD, Fm.map, Fm.d, ih]
  | imp a b iha ihb => simp only [putD, Fm.map, Fm.d, iha, ihb]
theorem at_mem {ds : List D} {v : Int} (h0 : 0 ≤ v) (h1 : v < ds.length) : ∃ d, atD ds v = some d ∧ d ∈ ds := by
  have hv : v.toNat < ds.length := by omega
  refine ⟨ds[v.toNat], ?_, List.getElem_mem hv⟩
  have := at_nat (List.getElem?_eq_getElem hv)
  rwa [show ((v.toNat : Nat) : Int) = v by omega] at this
theorem set_d {h : HI} {t : Nat} {kvs : List (D × D)} {s : Str} {v : D} (e : h[t]? = some (.dic kvs)) (hl : kvs.length < big) : setIx (.ref t) (.str s) v h = some (h.set t (.dic (kPut kvs (.str s) v))) := by
  simp [setIx, e, D.key, hl]
section
variable {P : List Def} {wf : Nat}
theorem BoxOk.lt {h : HI} {b : Nat} (x : BoxOk h b) : b < h.length := by
  obtain ⟨dr, ds, c, e, _⟩ := x
  rcases Nat.lt_or_ge b h.length with z | z
  · exact z
  · rw [List.getElem?_eq_none z] at e; cases e
theorem lt_of {h : HI} {n : Nat} {o : HB} (e : h[n]? = some o) : n < h.length := by
  rcases Nat.lt_or_ge n h.length with z | z
  · exact z
  · rw [List.getElem?_eq_none z] at e; cases e
theorem BoxOk.set {h : HI} {b t : Nat} {kvs kvs' : List (D × D)} (x : BoxOk h b) (e : h[t]? = some (.dic kvs)) : BoxOk (h.set t (.dic kvs')) b := by
  obtain ⟨dr, ds, c, e1, e2⟩ := x
  refine ⟨dr, ds, c, ?_, ?_⟩
  · rw [List.getElem?_set_ne (by rintro rfl; rw [e] at e1; cases e1)]; exact e1
  · rw [List.getElem?_set_ne (by rintro rfl; rw [e] at e2; cases e2)]; exact e2
def six : List D := [.str "a", .str "b", .str "z", .str "c7", .str "a0", .str "m9"]
def eight : List D := [.str "a", .str "b", .str "c", .str "d", .str "e", .str "f", .str "g", .str "h"]
theorem six_str : ∀ d ∈ six, ∃ s, d = .str s := by
  intro d hd
  simp only [six, List.mem_cons, List.not_mem_nil, or_false] at hd
  rcases hd with rfl | rfl | rfl | rfl | rfl | rfl <;> exact ⟨_, rfl⟩
theorem eight_str : ∀ d ∈ eight, ∃ s, d = .str s := by
  intro d hd
  simp only [eight, List.mem_cons, List.not_mem_nil, or_false] at hd
  rcases hd with rfl | rfl | rfl | rfl | rfl | rfl | rfl | rfl <;> exact ⟨_, rfl⟩
theorem it_ref {h : HI} {n : Nat} {ds : List D} (a : LA h n ds) : itOf (.ref n) h = some (.live n ds.length) := by
  simp only [itOf, a.of, Option.map_some]
theorem live_nx {h : HI} {n k j : Nat} {ds : List D} (a : LA h n ds) (hj : j < ds.length) : (It.live n k).nx j h = some ds[j] := by
  simp only [It.nx, a.of, Option.bind_some, List.getElem?_eq_getElem hj]
theorem live_fin {h : HI} {n : Nat} {ds : List D} (a : LA h n ds) : (It.live n ds.length).fin h = true := by
  simp [It.fin, a.of]
def bLettered (iw ip ia : Nat) : MSs := (.cons (.asg (.nm 3) (.lst (.cons (.cst (.str "a")) (.cons (.cst (.str "b")) (.cons (.cst (.str "z")) (.cons (.cst (.str "c7")) (.cons (.cst (.str "a0")) (.cons (.cst (.str "m9")) .nil)))))))) (.cons (.asg (.nm 4) .dnew) (.cons (.fr (.nm 5) (.ex (.lst (.cons (.cst (.str "a")) (.cons (.cst (.str "b")) (.cons (.cst (.str "c")) (.cons (.cst (.str "d")) (.cons (.cst (.str "e")) (.cons (.cst (.str "f")) (.cons (.cst (.str "g")) (.cons (.cst (.str "h")) .nil)))))))))) (.cons (.sub (.var 4) (.var 5) (.tup (.cons (.cst (.str "letter")) (.cons (.idx (.var 3) (.call iw (.cons (.var 0) (.cons (.cst (.int 6)) .nil)))) .nil)))) .nil)) (.cons (.ret (.call ip (.cons (.call ia (.cons (.var 0) (.cons (.var 1) (.cons (.var 2) .nil)))) (.cons (.var 4) .nil)))) .nil))))
theorem run_lettered {iw ip ia il b j : Nat} {h : HI} {Q : D × HI → Prop} (hW : P[iw]? = some ⟨2, 3, bDraw⟩) (hA : P[ia]? = some ⟨3, 6, bAny iw ia⟩) (hL : P[ip]? = some ⟨2, 3, bLput ip⟩) (hP : P[il]? = some ⟨3, 6, bLettered iw ip ia⟩)
    (hb : BoxOk h b) (q : ∀ (f : Fm) h', f.lvs ≤ 40 → f.dep ≤ 40 → BoxOk h' b → Kp b h h' → Q (f.d, h')) : wO (callI P wf (j + 50) il [.ref b, .int 40, .int 8] h) Q := by
  refine wC hP rfl ?_
  simp only [bLettered, startD, List.map_cons, List.map_nil, List.length_cons, List.length_nil, List.replicate, List.cons_append, List.nil_append, ↓wE_var, ↓wE_cst, ↓wE_glb, ↓wE_tup, ↓wE_lst, ↓wE_dnew, ↓wE_bin, ↓wE_cmp, ↓wE_not, ↓wE_or, ↓wE_and, ↓wE_idx, ↓wE_slc, ↓wE_omit, ↓wE_call, ↓wE_blt, ↓wE_isi, ↓wE_mth, ↓wL_nil, ↓wL_cons, ↓wB_nil, ↓wB_cons, ↓wS_asg, ↓wS_sub, ↓wS_expr, ↓wS_ret, ↓wS_ite, ↓wI_ex, ↓wI_rng, ↓wI_zip, wV, wW]
  refine ⟨by decide, ?_⟩
  have hlt := hb.lt
  refine wS_for (fun i σ H => ∃ nm kvs, σ = [some (.ref b), some (.int 40), some (.int 8), some (.ref h.length), some (.ref (h ++ [HB.lst six]).length), nm] ∧ BoxOk H b ∧ H[h.length]? = some (.lst six) ∧ H[(h ++ [HB.lst six]).length]? = some (.dic kvs) ∧
    H[(h ++ [HB.lst six] ++ [HB.dic []]).length]? = some (.lst eight) ∧ LetTab kvs ∧ kvs.length ≤ i ∧ Kp b h H) ?_
  simp only [↓wE_var, ↓wE_cst, ↓wE_glb, ↓wE_tup, ↓wE_lst, ↓wE_dnew, ↓wE_bin, ↓wE_cmp, ↓wE_not, ↓wE_or, ↓wE_and, ↓wE_idx, ↓wE_slc, ↓wE_omit, ↓wE_call, ↓wE_blt, ↓wE_isi, ↓wE_mth, ↓wL_nil, ↓wL_cons, ↓wB_nil, ↓wB_cons, ↓wS_asg, ↓wS_sub, ↓wS_expr, ↓wS_ret, ↓wS_ite, ↓wI_ex, ↓wI_rng, ↓wI_zip, wV, wW]
  have p1 : Pre h (h ++ [HB.lst six] ++ [HB.dic []] ++ [HB.lst eight]) := ((Pre.app _).trans (Pre.app _)).trans (Pre.app _)
  have g3 : (h ++ [HB.lst six] ++ [HB.dic []] ++ [HB.lst eight])[(h ++ [HB.lst six] ++ [HB.dic []]).length]? = some (.lst eight) := get_last
  refine ⟨by decide, ?_⟩
  have gi := it_ref (.inl g3 : LA _ _ eight)
  show wO (itOf _ _) _
  unfold eight at gi
  unfold six at gi
  rw [gi, wO_some]
  refine ⟨⟨none, [], rfl, hb.pre p1, ?_, ?_, g3, (fun _ z => nomatch z), Nat.zero_le _, p1.kp⟩, ?_, ?_⟩
  · exact grow_get (grow_get get_last _) _
  · exact grow_get get_last _
  · rintro i σ H hi ⟨nm, kvs, rfl, hb', e1, e2, e3, lt, hk, kp⟩
    have hi : i < eight.length := hi
    refine ⟨_, live_nx (.inl e3 : LA H _ eight) hi, ?_⟩
    obtain ⟨s, es⟩ := eight_str _ (List.getElem_mem hi)
    rw [es, ← wW_eq]
    simp only [↓wE_var, ↓wE_cst, ↓wE_glb, ↓wE_tup, ↓wE_lst, ↓wE_dnew, ↓wE_bin, ↓wE_cmp, ↓wE_not, ↓wE_or, ↓wE_and, ↓wE_idx, ↓wE_slc, ↓wE_omit, ↓wE_call, ↓wE_blt, ↓wE_isi, ↓wE_mth, ↓wL_nil, ↓wL_cons, ↓wB_nil, ↓wB_cons, ↓wS_asg, ↓wS_sub, ↓wS_expr, ↓wS_ret, ↓wS_ite, ↓wI_ex, ↓wI_rng, ↓wI_zip, wV, wW]
    refine run_draw hW hb' (by omega) fun v H2 v0 v1 b2 kp2 => ?_
    have ne : ∀ {n : Nat}, h.length ≤ n → n ≠ b := fun hn => by omega
    have f1 := kp2 _ _ (ne (Nat.le_refl _)) e1
    have f2 := kp2 _ _ (ne (by simp)) e2
    have f3 := kp2 _ _ (ne (by simp)) e3
    obtain ⟨d, ed, hd⟩ := at_mem (ds := six) v0 (by simpa [six] using v1)
    obtain ⟨u, rfl⟩ := six_str d hd
    show wO (idxD (.ref h.length) (.int v) H2) _
    have la : LA H2 h.length six := .inl f1
    rw [la.idx, ed, Option.map_some, wO_some]
    refine ⟨by simp [big], ?_⟩
    simp only [↓wE_var, ↓wE_cst, ↓wE_glb, ↓wE_tup, ↓wE_lst, ↓wE_dnew, ↓wE_bin, ↓wE_cmp, ↓wE_not, ↓wE_or, ↓wE_and, ↓wE_idx, ↓wE_slc, ↓wE_omit, ↓wE_call, ↓wE_blt, ↓wE_isi, ↓wE_mth, ↓wL_nil, ↓wL_cons, ↓wB_nil, ↓wB_cons, ↓wS_asg, ↓wS_sub, ↓wS_expr, ↓wS_ret, ↓wS_ite, ↓wI_ex, ↓wI_rng, ↓wI_zip, wV, wW]
    show wO (setIx (.ref (h ++ [HB.lst six]).length) (.str s) (letD u) H2) _
    rw [set_d f2 (by have : eight.length = 8 := rfl
                     simp only [big]; omega), wO_some]
    refine ⟨_, _, rfl, b2.set f2, ?_, List.getElem?_set_self (lt_of f2), ?_, lt.put _ _, by have := kPut_len kvs (.str s) (letD u); omega, ?_⟩
    · rw [List.getElem?_set_ne (by simp)]; exact f1
    · rw [List.getElem?_set_ne (by simp)]; exact f3
    · intro n o hn e
      have := kp2 _ _ hn (kp _ _ hn e)
      rw [List.getElem?_set_ne]
      · exact this
      · have := lt_of e
        simp
        omega
  · rintro σ H ⟨nm, kvs, rfl, hb', e1, e2, e3, lt, hk, kp⟩
    refine ⟨live_fin (.inl e3 : LA H _ eight), ?_⟩
    simp only [↓wE_var, ↓wE_cst, ↓wE_glb, ↓wE_tup, ↓wE_lst, ↓wE_dnew, ↓wE_bin, ↓wE_cmp, ↓wE_not, ↓wE_or, ↓wE_and, ↓wE_idx, ↓wE_slc, ↓wE_omit, ↓wE_call, ↓wE_blt, ↓wE_isi, ↓wE_mth, ↓wL_nil, ↓wL_cons, ↓wB_nil, ↓wB_cons, ↓wS_asg, ↓wS_sub, ↓wS_expr, ↓wS_ret, ↓wS_ite, ↓wI_ex, ↓wI_rng, ↓wI_zip, wV, wW]
    refine run_any hW hA (by omega) (by omega) (j + 49) 40 (by omega) (by omega) hb' fun f H2 l1 l2 b2 kp2 => ?_
    simp only [↓wE_var, ↓wE_cst, ↓wE_glb, ↓wE_tup, ↓wE_lst, ↓wE_dnew, ↓wE_bin, ↓wE_cmp, ↓wE_not, ↓wE_or, ↓wE_and, ↓wE_idx, ↓wE_slc, ↓wE_omit, ↓wE_call, ↓wE_blt, ↓wE_isi, ↓wE_mth, ↓wL_nil, ↓wL_cons, ↓wB_nil, ↓wB_cons, ↓wS_asg, ↓wS_sub, ↓wS_expr, ↓wS_ret, ↓wS_ite, ↓wI_ex, ↓wI_rng, ↓wI_zip, wV, wW]
    refine run_lput hL (j + 49) f (kp2 _ _ (by simp; omega) e2) (by omega) fun H3 p3 => ?_
    obtain ⟨g, hg⟩ := lt.map
    show Q (putD kvs f, H3)
    rw [hg]
    exact q (f.map g) H3 (by rw [Fm.map_lvs]; exact l1) (by rw [Fm.map_dep]; exact l2) (b2.pre p3) (kp.trans (kp2.trans p3.kp))
end
end MP
namespace MP
open PySem (Str)
def newS (found xs : List Str) : List Str := xs.filter fun s => !(found.any fun y => y == s)
def stepL (found xs : List Str) : List Str := found ++ newS found xs
def ordL : Fm → List Str
  | .ltr s => [s]
  | .neg a => stepL [] (ordL a)
  | .imp a b => stepL (stepL [] (ordL a)) (ordL b)
theorem ordL_parts : ∀ {f : Fm}, f.isL = false → ordL f = f.parts.foldl (fun l p => stepL l (ordL p)) []
  | .neg _, _ => rfl
  | .imp _ _, _ => rfl
theorem newS_len (f x : List Str) : (newS f x).length ≤ x.length := List.length_filter_le _ _
theorem ordL_len : ∀ f : Fm, (ordL f).length ≤ f.lvs
  | .ltr _ => by simp [ordL, Fm.lvs]
  | .neg a => by
    have := ordL_len a
    have := newS_len [] (ordL a)
    simp only [ordL, stepL, List.nil_append, Fm.lvs]
    omega
  | .imp a b => by
    have := ordL_len a
    have := ordL_len b
    have := newS_len [] (ordL a)
    have := newS_len (stepL [] (ordL a)) (ordL b)
    simp only [ordL, Fm.lvs]
    unfold stepL at *
    simp only [List.nil_append, List.length_append] at *
    omega
def foundAt (f : Fm) (i : Nat) : List Str := (f.parts.take i).foldl (fun l p => stepL l (ordL p)) []
theorem found_succ {f : Fm} {i : Nat} (hi : i < f.parts.length) : foundAt f (i + 1) = stepL (foundAt f i) (ordL f.parts[i]) := by
  unfold foundAt
  rw [List.take_add_one, List.getElem?_eq_getElem hi, Option.toList_some, List.foldl_append]
  rfl
theorem found_all {f : Fm} (c : f.isL = false) : foundAt f f.parts.length = ordL f := by
  unfold foundAt
  rw [List.take_length, ordL_parts c]
theorem part_lvs : ∀ {f p : Fm}, p ∈ f.parts → p.lvs ≤ f.lvs
  | .neg a, p, h => by simp [Fm.parts] at h; subst h; simp [Fm.lvs]
  | .imp a b, p, h => by
    simp [Fm.parts] at h
    rcases h with rfl | rfl <;> simp [Fm.lvs]
theorem found_len {f : Fm} : ∀ {i : Nat}, i ≤ f.parts.length → (foundAt f i).length ≤ i * f.lvs
  | 0, _ => by simp [foundAt]
  | i + 1, h => by
    rw [found_succ (by omega)]
    have := found_len (f := f) (i := i) (by omega)
    have h2 := newS_len (foundAt f i) (ordL f.parts[i])
    have h3 := ordL_len f.parts[i]
    have h4 := part_lvs (List.getElem_mem (show i < f.parts.length by omega))
    unfold stepL
    rw [List.length_append, Nat.add_mul, Nat.one_mul]
    omega
theorem flats_str : ∀ l : List Str, D.flats deep (l.map .str) = true
  | [] => by simp [D.flats]
  | s :: r => by simp [D.flats, flats_str r]
theorem any_str (s : Str) : ∀ l : List Str, anyEq (.str s) (l.map .str) = l.any fun y => y == s
  | [] => rfl
  | y :: r => by
    have := any_str s r
    unfold anyEq at this ⊢
    simp only [List.map_cons, List.any_cons, this, D.eqv]
theorem nin_str {h : HI} {n : Nat} {l : List Str} {s : Str} (e : h[n]? = some (.lst (l.map .str))) : cmpB .nin (.str s) (.ref n) h = some (!(l.any fun y => y == s)) := by
  simp only [cmpB, inD, e, flat_str, flats_str, Bool.and_self, if_true, any_str, Option.map_some]
section
variable {P : List Def} {wf : Nat}
theorem run_new {cl : Nat → List D → HI → Rz} {io n0 : Nat} {H : HI} {d0 d2 : D} {x3 : Option D} {found xs : List Str} {Q : D → HI → Prop} (hx : xs.length < big) (e : H[n0]? = some (.lst (found.map .str)))
    (call : ∀ {R : D × HI → Prop}, (∀ n H', Pre H H' → H'[n]? = some (.lst (xs.map .str)) → R (.ref n, H')) → wO (cl io [d2] H) R)
    (q : ∀ n H', Pre H H' → H.length ≤ n → H'[n]? = some (.lst ((newS found xs).map .str)) → Q (.ref n) H') :
    wE cl (.comp .lst [3] (.one (.nm 3) (.ex (.call io (.cons (.var 2) .nil))) (.cmp .nin (.var 3) (.var 1)) (.var 3) .omit)) [d0, some (.ref n0), some d2, x3] H Q := by
  obtain ⟨_, ec, n1, H1, rfl, p1, e1⟩ := call (R := fun r => ∃ n1 H1, r = (.ref n1, H1) ∧ Pre H H1 ∧ H1[n1]? = some (.lst (xs.map .str))) fun n H' a b => ⟨n, H', rfl, a, b⟩
  refine wE_lc (fun n i acc K => n = H1.length ∧ Pre H1 K ∧ acc = (newS found (xs.take i)).map .str) ?_
  simp only [↓wE_var, ↓wE_cst, ↓wE_glb, ↓wE_tup, ↓wE_lst, ↓wE_dnew, ↓wE_bin, ↓wE_cmp, ↓wE_not, ↓wE_or, ↓wE_and, ↓wE_idx, ↓wE_slc, ↓wE_omit, ↓wE_call, ↓wE_blt, ↓wE_isi, ↓wE_mth, ↓wL_nil, ↓wL_cons, ↓wB_nil, ↓wB_cons, ↓wS_asg, ↓wS_sub, ↓wS_expr, ↓wS_ret, ↓wS_ite, ↓wI_ex, ↓wI_rng, ↓wI_zip, wV, wW, ec, wO_some]
  have gi := it_ref (.inl e1 : LA H1 n1 (xs.map .str))
  show wO (itOf (.ref n1) H1) _
  rw [gi, wO_some]
  refine ⟨⟨by trivial, Pre.app _, by simp [newS]⟩, ?_, ?_⟩
  · rintro i acc K hi ⟨-, pk, rfl⟩ en
    have hi : i < (xs.map D.str).length := hi
    have hx2 : i < xs.length := by simpa using hi
    refine ⟨_, live_nx (.inl (pk _ _ e1)) hi, ?_⟩
    rw [← wW_eq]
    simp only [wipeD, List.set, ↓wE_var, ↓wE_cst, ↓wE_glb, ↓wE_tup, ↓wE_lst, ↓wE_dnew, ↓wE_bin, ↓wE_cmp, ↓wE_not, ↓wE_or, ↓wE_and, ↓wE_idx, ↓wE_slc, ↓wE_omit, ↓wE_call, ↓wE_blt, ↓wE_isi, ↓wE_mth, ↓wL_nil, ↓wL_cons, ↓wB_nil, ↓wB_cons, ↓wS_asg, ↓wS_sub, ↓wS_expr, ↓wS_ret, ↓wS_ite, ↓wI_ex, ↓wI_rng, ↓wI_zip, wV, wW, List.getElem_map]
    have ef := pk _ _ (p1 _ _ e)
    rw [nin_str ef, wO_some]
    simp only [↓wE_var, ↓wE_cst, ↓wE_glb, ↓wE_tup, ↓wE_lst, ↓wE_dnew, ↓wE_bin, ↓wE_cmp, ↓wE_not, ↓wE_or, ↓wE_and, ↓wE_idx, ↓wE_slc, ↓wE_omit, ↓wE_call, ↓wE_blt, ↓wE_isi, ↓wE_mth, ↓wL_nil, ↓wL_cons, ↓wB_nil, ↓wB_cons, ↓wS_asg, ↓wS_sub, ↓wS_expr, ↓wS_ret, ↓wS_ite, ↓wI_ex, ↓wI_rng, ↓wI_zip, wV, wW, wO_some, o_int, i_add, i_sub, m_48271, m_69621, m_16807, m_2, m_7, r_1000, r_m31, r_26, f_1000, f_997, f_26, p_18, c_lt, c_gt, c_ge, c_str, t_bl, b_int]
    have ht : newS found (xs.take (i + 1)) = newS found (xs.take i) ++ (if (!(found.any fun y => y == xs[i])) = true then [xs[i]] else []) := by
      unfold newS
      rw [List.take_add_one, List.getElem?_eq_getElem hx2, Option.toList_some, List.filter_append]
      congr 1
      rw [List.filter_cons, List.filter_nil]
    by_cases c : (!(found.any fun y => y == xs[i])) = true
    · rw [if_pos c]
      refine ⟨en, ?_, trivial, pk.set (Nat.le_refl _), ?_⟩
      · have := newS_len found (xs.take i)
        simp only [List.length_map]
        have := List.length_take_le i xs
        omega
      · rw [ht, if_pos c, List.map_append]
        rfl
    · rw [if_neg c]
      refine ⟨en, trivial, pk, ?_⟩
      rw [ht, if_neg c, List.append_nil]
  · rintro acc K ⟨-, pk, rfl⟩ en
    refine ⟨live_fin (.inl (pk _ _ e1)), ?_⟩
    refine q _ K (p1.trans pk) p1.le ?_
    rw [en]
    have : xs.take (It.live n1 (xs.map D.str).length).len = xs := List.take_of_length_le (by simp [It.len])
    rw [this]
def bOrd (io : Nat) : MSs := (.cons (.ite (.cmp .eq (.idx (.var 0) (.cst (.int 0))) (.cst (.str "letter"))) (.cons (.ret (.lst (.cons (.idx (.var 0) (.cst (.int 1))) .nil))) .nil) .nil) (.cons (.asg (.nm 1) (.lst .nil)) (.cons (.fr (.nm 2) (.ex (.slc (.var 0) (.cst (.int 1)) .omit)) (.cons (.expr (.mth .extend (.var 1) (.cons (.comp .lst [3] (.one (.nm 3) (.ex (.call io (.cons (.var 2) .nil))) (.cmp .nin (.var 3) (.var 1)) (.var 3) .omit)) .nil))) .nil)) (.cons (.ret (.var 1)) .nil))))
def bLord (io : Nat) : MSs := (.cons (.ite (.cmp .eq (.idx (.var 0) (.cst (.int 0))) (.cst (.str "letter"))) (.cons (.ret (.lst (.cons (.idx (.var 0) (.cst (.int 1))) .nil))) .nil) .nil) (.cons (.asg (.nm 1) (.lst .nil)) (.cons (.fr (.nm 2) (.ex (.slc (.var 0) (.cst (.int 1)) .omit)) (.cons (.asg (.nm 1) (.bin .add (.var 1) (.comp .lst [3] (.one (.nm 3) (.ex (.call io (.cons (.var 2) .nil))) (.cmp .nin (.var 3) (.var 1)) (.var 3) .omit)))) .nil)) (.cons (.ret (.var 1)) .nil))))
theorem ext_l {h : HI} {m n : Nat} {a b : List D} (e1 : h[m]? = some (.lst a)) (e2 : h[n]? = some (.lst b)) (hl : a.length + b.length ≤ big) : mthD .extend (.ref m) [.ref n] h = some (.non, h.set m (.lst (a ++ b))) := by
  simp [mthD, e1, e2, hl]
theorem add_l {h : HI} {m n : Nat} {a b : List D} (e1 : h[m]? = some (.lst a)) (e2 : h[n]? = some (.lst b)) (hl : a.length + b.length ≤ big) : binD .add (.ref m) (.ref n) h = some (.ref h.length, h ++ [.lst (a ++ b)]) := by
  simp [binD, e1, e2, hl, hnew]
theorem rx {h : HI} {m : Nat} {a : List D} (e1 : h[m]? = some (.lst a)) : recv .extend (.ref m) h = true := by simp [recv, e1]
theorem small_found {f : Fm} (hl : f.lvs ≤ 1000) {i : Nat} (hi : i < f.parts.length) : (foundAt f i).length + (newS (foundAt f i) (ordL f.parts[i])).length ≤ 4000 := by
  have h1 := found_len (f := f) (i := i) (by omega)
  have h2 := newS_len (foundAt f i) (ordL f.parts[i])
  have h3 := ordL_len f.parts[i]
  have h4 := part_lvs (List.getElem_mem hi)
  have h5 := Fm.parts_le f
  have h6 : i * f.lvs ≤ 2 * f.lvs := Nat.mul_le_mul_right _ (by omega)
  omega
theorem run_ord {io : Nat} (hP : P[io]? = some ⟨1, 4, bOrd io⟩) : ∀ (j : Nat) (f : Fm) {h : HI} {Q : D × HI → Prop}, f.lvs ≤ 1000 → f.dep ≤ j → (∀ n h', Pre h h' → h'[n]? = some (.lst ((ordL f).map .str)) → Q (.ref n, h')) → wO (callI P wf j io [f.d] h) Q
  | 0, f, h, Q, _, hd, q => by cases f <;> simp [Fm.dep] at hd
  | j + 1, f, h, Q, hl, hd, q => by
    refine wC hP rfl ?_
    cases c : f.isL with
    | true =>
      cases f with
      | ltr s =>
        simp only [bOrd, startD, List.map_cons, List.map_nil, List.length_cons, List.length_nil, List.replicate, List.cons_append, List.nil_append, Fm.d, ↓wE_var, ↓wE_cst, ↓wE_glb, ↓wE_tup, ↓wE_lst, ↓wE_dnew, ↓wE_bin, ↓wE_cmp, ↓wE_not, ↓wE_or, ↓wE_and, ↓wE_idx, ↓wE_slc, ↓wE_omit, ↓wE_call, ↓wE_blt, ↓wE_isi, ↓wE_mth, ↓wL_nil, ↓wL_cons, ↓wB_nil, ↓wB_cons, ↓wS_asg, ↓wS_sub, ↓wS_expr, ↓wS_ret, ↓wS_ite, ↓wI_ex, ↓wI_rng, ↓wI_zip, wV, wW, wO_some, o_int, i_add, i_sub, m_48271, m_69621, m_16807, m_2, m_7, r_1000, r_m31, r_26, f_1000, f_997, f_26, p_18, c_lt, c_gt, c_ge, c_str, t_bl, b_int, ix0, ix1, ll, if_true]
        exact ⟨by decide, q _ _ (Pre.app _) get_last⟩
      | _ => cases c
    | false =>
      rw [Fm.d_parts c]
      simp only [bOrd, startD, List.map_cons, List.map_nil, List.length_cons, List.length_nil, List.replicate, List.cons_append, List.nil_append, ↓wE_var, ↓wE_cst, ↓wE_glb, ↓wE_tup, ↓wE_lst, ↓wE_dnew, ↓wE_bin, ↓wE_cmp, ↓wE_not, ↓wE_or, ↓wE_and, ↓wE_idx, ↓wE_slc, ↓wE_omit, ↓wE_call, ↓wE_blt, ↓wE_isi, ↓wE_mth, ↓wL_nil, ↓wL_cons, ↓wB_nil, ↓wB_cons, ↓wS_asg, ↓wS_sub, ↓wS_expr, ↓wS_ret, ↓wS_ite, ↓wI_ex, ↓wI_rng, ↓wI_zip, wV, wW, wO_some, o_int, i_add, i_sub, m_48271, m_69621, m_16807, m_2, m_7, r_1000, r_m31, r_26, f_1000, f_997, f_26, p_18, c_lt, c_gt, c_ge, c_str, t_bl, b_int, ix0, Fm.hd_ne c, Bool.false_eq_true, if_false]
      refine ⟨by decide, ?_⟩
      refine wS_for (fun i σ H => ∃ x2 x3, σ = [some (.tup (.str f.hd :: f.parts.map Fm.d)), some (.ref h.length), x2, x3] ∧ Pre h H ∧ H[h.length]? = some (.lst ((foundAt f i).map .str))) ?_
      simp only [↓wE_var, ↓wE_cst, ↓wE_glb, ↓wE_tup, ↓wE_lst, ↓wE_dnew, ↓wE_bin, ↓wE_cmp, ↓wE_not, ↓wE_or, ↓wE_and, ↓wE_idx, ↓wE_slc, ↓wE_omit, ↓wE_call, ↓wE_blt, ↓wE_isi, ↓wE_mth, ↓wL_nil, ↓wL_cons, ↓wB_nil, ↓wB_cons, ↓wS_asg, ↓wS_sub, ↓wS_expr, ↓wS_ret, ↓wS_ite, ↓wI_ex, ↓wI_rng, ↓wI_zip, wV, wW, wO_some, o_int, i_add, i_sub, m_48271, m_69621, m_16807, m_2, m_7, r_1000, r_m31, r_26, f_1000, f_997, f_26, p_18, c_lt, c_gt, c_ge, c_str, t_bl, b_int, om_c, om_o, po_i, po_o, sl1, it_tup]
      refine ⟨⟨none, none, rfl, Pre.app _, get_last⟩, ?_, ?_⟩
      · rintro i σ H hi ⟨x2, x3, rfl, ph, e⟩
        simp only [It.len, List.length_map] at hi
        refine ⟨_, seq_nx hi, ?_⟩
        rw [← wW_eq]
        simp only [↓wE_var, ↓wE_cst, ↓wE_glb, ↓wE_tup, ↓wE_lst, ↓wE_dnew, ↓wE_bin, ↓wE_cmp, ↓wE_not, ↓wE_or, ↓wE_and, ↓wE_idx, ↓wE_slc, ↓wE_omit, ↓wE_call, ↓wE_blt, ↓wE_isi, ↓wE_mth, ↓wL_nil, ↓wL_cons, ↓wB_nil, ↓wB_cons, ↓wS_asg, ↓wS_sub, ↓wS_expr, ↓wS_ret, ↓wS_ite, ↓wI_ex, ↓wI_rng, ↓wI_zip, wV, wW, rx e, true_and]
        have hs := small_found hl hi
        refine run_new (xs := ordL f.parts[i]) (by have := ordL_len f.parts[i]; have := part_lvs (List.getElem_mem hi); simp only [big]; omega) e (fun {R} r => run_ord hP j _ (by have := part_lvs (List.getElem_mem hi); omega) (by have := Fm.part_dep (List.getElem_mem hi); omega) r) fun n H' p' hn en => ?_
        try simp only [↓wE_var, ↓wE_cst, ↓wE_glb, ↓wE_tup, ↓wE_lst, ↓wE_dnew, ↓wE_bin, ↓wE_cmp, ↓wE_not, ↓wE_or, ↓wE_and, ↓wE_idx, ↓wE_slc, ↓wE_omit, ↓wE_call, ↓wE_blt, ↓wE_isi, ↓wE_mth, ↓wL_nil, ↓wL_cons, ↓wB_nil, ↓wB_cons, ↓wS_asg, ↓wS_sub, ↓wS_expr, ↓wS_ret, ↓wS_ite, ↓wI_ex, ↓wI_rng, ↓wI_zip, wV, wW]
        rw [ext_l (p' _ _ e) en (by simp only [List.length_map, big]; omega), wO_some]
        refine ⟨_, _, rfl, (ph.trans p').set (Nat.le_refl _), ?_⟩
        rw [List.getElem?_set_self (lt_of (p' _ _ e)), found_succ hi]
        simp only [stepL, List.map_append]
      · rintro σ H ⟨x2, x3, rfl, ph, e⟩
        refine ⟨rfl, ?_⟩
        try simp only [↓wE_var, ↓wE_cst, ↓wE_glb, ↓wE_tup, ↓wE_lst, ↓wE_dnew, ↓wE_bin, ↓wE_cmp, ↓wE_not, ↓wE_or, ↓wE_and, ↓wE_idx, ↓wE_slc, ↓wE_omit, ↓wE_call, ↓wE_blt, ↓wE_isi, ↓wE_mth, ↓wL_nil, ↓wL_cons, ↓wB_nil, ↓wB_cons, ↓wS_asg, ↓wS_sub, ↓wS_expr, ↓wS_ret, ↓wS_ite, ↓wI_ex, ↓wI_rng, ↓wI_zip, wV, wW]
        refine q _ H ph ?_
        rw [e]
        simp only [It.len, List.length_map, found_all c]
theorem run_lord {io : Nat} (hP : P[io]? = some ⟨1, 4, bLord io⟩) : ∀ (j : Nat) (f : Fm) {h : HI} {Q : D × HI → Prop}, f.lvs ≤ 1000 → f.dep ≤ j → (∀ n h', Pre h h' → h'[n]? = some (.lst ((ordL f).map .str)) → Q (.ref n, h')) → wO (callI P wf j io [f.d] h) Q
  | 0, f, h, Q, _, hd, q => by cases f <;> simp [Fm.dep] at hd
  | j + 1, f, h, Q, hl, hd, q => by
    refine wC hP rfl ?_
    cases c : f.isL with
    | true =>
      cases f with
      | ltr s =>
        simp only [bLord, startD, List.map_cons, List.map_nil, List.length_cons, List.length_nil, List.replicate, List.cons_append, List.nil_append, Fm.d, ↓wE_var, ↓wE_cst, ↓wE_glb, ↓wE_tup, ↓wE_lst, ↓wE_dnew, ↓wE_bin, ↓wE_cmp, ↓wE_not, ↓wE_or, ↓wE_and, ↓wE_idx, ↓wE_slc, ↓wE_omit, ↓wE_call, ↓wE_blt, ↓wE_isi, ↓wE_mth, ↓wL_nil, ↓wL_cons, ↓wB_nil, ↓wB_cons, ↓wS_asg, ↓wS_sub, ↓wS_expr, ↓wS_ret, ↓wS_ite, ↓wI_ex, ↓wI_rng, ↓wI_zip, wV, wW, wO_some, o_int, i_add, i_sub, m_48271, m_69621, m_16807, m_2, m_7, r_1000, r_m31, r_26, f_1000, f_997, f_26, p_18, c_lt, c_gt, c_ge, c_str, t_bl, b_int, ix0, ix1, ll, if_true]
        exact ⟨by decide, q _ _ (Pre.app _) get_last⟩
      | _ => cases c
    | false =>
      rw [Fm.d_parts c]
      simp only [bLord, startD, List.map_cons, List.map_nil, List.length_cons, List.length_nil, List.replicate, List.cons_append, List.nil_append, ↓wE_var, ↓wE_cst, ↓wE_glb, ↓wE_tup, ↓wE_lst, ↓wE_dnew, ↓wE_bin, ↓wE_cmp, ↓wE_not, ↓wE_or, ↓wE_and, ↓wE_idx, ↓wE_slc, ↓wE_omit, ↓wE_call, ↓wE_blt, ↓wE_isi, ↓wE_mth, ↓wL_nil, ↓wL_cons, ↓wB_nil, ↓wB_cons, ↓wS_asg, ↓wS_sub, ↓wS_expr, ↓wS_ret, ↓wS_ite, ↓wI_ex, ↓wI_rng, ↓wI_zip, wV, wW, wO_some, o_int, i_add, i_sub, m_48271, m_69621, m_16807, m_2, m_7, r_1000, r_m31, r_26, f_1000, f_997, f_26, p_18, c_lt, c_gt, c_ge, c_str, t_bl, b_int, ix0, Fm.hd_ne c, Bool.false_eq_true, if_false]
      refine ⟨by decide, ?_⟩
      refine wS_for (fun i σ H => ∃ n0 x2 x3, σ = [some (.tup (.str f.hd :: f.parts.map Fm.d)), some (.ref n0), x2, x3] ∧ Pre h H ∧ H[n0]? = some (.lst ((foundAt f i).map .str))) ?_
      simp only [↓wE_var, ↓wE_cst, ↓wE_glb, ↓wE_tup, ↓wE_lst, ↓wE_dnew, ↓wE_bin, ↓wE_cmp, ↓wE_not, ↓wE_or, ↓wE_and, ↓wE_idx, ↓wE_slc, ↓wE_omit, ↓wE_call, ↓wE_blt, ↓wE_isi, ↓wE_mth, ↓wL_nil, ↓wL_cons, ↓wB_nil, ↓wB_cons, ↓wS_asg, ↓wS_sub, ↓wS_expr, ↓wS_ret, ↓wS_ite, ↓wI_ex, ↓wI_rng, ↓wI_zip, wV, wW, wO_some, o_int, i_add, i_sub, m_48271, m_69621, m_16807, m_2, m_7, r_1000, r_m31, r_26, f_1000, f_997, f_26, p_18, c_lt, c_gt, c_ge, c_str, t_bl, b_int, om_c, om_o, po_i, po_o, sl1, it_tup]
      refine ⟨⟨_, none, none, rfl, Pre.app _, get_last⟩, ?_, ?_⟩
      · rintro i σ H hi ⟨n0, x2, x3, rfl, ph, e⟩
        simp only [It.len, List.length_map] at hi
        refine ⟨_, seq_nx hi, ?_⟩
        rw [← wW_eq]
        simp only [↓wE_var, ↓wE_cst, ↓wE_glb, ↓wE_tup, ↓wE_lst, ↓wE_dnew, ↓wE_bin, ↓wE_cmp, ↓wE_not, ↓wE_or, ↓wE_and, ↓wE_idx, ↓wE_slc, ↓wE_omit, ↓wE_call, ↓wE_blt, ↓wE_isi, ↓wE_mth, ↓wL_nil, ↓wL_cons, ↓wB_nil, ↓wB_cons, ↓wS_asg, ↓wS_sub, ↓wS_expr, ↓wS_ret, ↓wS_ite, ↓wI_ex, ↓wI_rng, ↓wI_zip, wV, wW]
        have hs := small_found hl hi
        refine run_new (xs := ordL f.parts[i]) (by have := ordL_len f.parts[i]; have := part_lvs (List.getElem_mem hi); simp only [big]; omega) e (fun {R} r => run_lord hP j _ (by have := part_lvs (List.getElem_mem hi); omega) (by have := Fm.part_dep (List.getElem_mem hi); omega) r) fun n H' p' hn en => ?_
        try simp only [↓wE_var, ↓wE_cst, ↓wE_glb, ↓wE_tup, ↓wE_lst, ↓wE_dnew, ↓wE_bin, ↓wE_cmp, ↓wE_not, ↓wE_or, ↓wE_and, ↓wE_idx, ↓wE_slc, ↓wE_omit, ↓wE_call, ↓wE_blt, ↓wE_isi, ↓wE_mth, ↓wL_nil, ↓wL_cons, ↓wB_nil, ↓wB_cons, ↓wS_asg, ↓wS_sub, ↓wS_expr, ↓wS_ret, ↓wS_ite, ↓wI_ex, ↓wI_rng, ↓wI_zip, wV, wW]
        rw [add_l (p' _ _ e) en (by simp only [List.length_map, big]; omega), wO_some]
        refine ⟨_, _, _, rfl, (ph.trans p').trans (Pre.app _), ?_⟩
        rw [get_last, found_succ hi]
        simp only [stepL, List.map_append]
      · rintro σ H ⟨n0, x2, x3, rfl, ph, e⟩
        refine ⟨rfl, ?_⟩
        try simp only [↓wE_var, ↓wE_cst, ↓wE_glb, ↓wE_tup, ↓wE_lst, ↓wE_dnew, ↓wE_bin, ↓wE_cmp, ↓wE_not, ↓wE_or, ↓wE_and, ↓wE_idx, ↓wE_slc, ↓wE_omit, ↓wE_call, ↓wE_blt, ↓wE_isi, ↓wE_mth, ↓wL_nil, ↓wL_cons, ↓wB_nil, ↓wB_cons, ↓wS_asg, ↓wS_sub, ↓wS_expr, ↓wS_ret, ↓wS_ite, ↓wI_ex, ↓wI_rng, ↓wI_zip, wV, wW]
        refine q _ H ph ?_
        rw [e]
        simp only [It.len, List.length_map, found_all c]
end
end MP
namespace MP
open PySem (Str)
def abc : Str := "abcdefghijklmnopqrstuvwxyz"
def dgs : Str := "0123456789"
def one (c : Nat) : Str := ⟨#[c]⟩
def two (l d : Nat) : Str := ⟨#[l] ++ #[d]⟩
def NL : List Str := abc.cps.toList.map one ++ dgs.cps.toList.flatMap fun d => abc.cps.toList.map fun l => two l d
theorem NL_len : NL.length = 286 := by decide +kernel
theorem signs_eq (z : Str) : signs z = (z.cps.toList.map one).map D.str := by
  unfold signs
  rw [List.map_map]
  rfl
theorem li_s {z : Str} {h : HI} (hz : z.cps.size ≤ big) : bltD .list [.str z] h = some (.ref h.length, h ++ [.lst ((z.cps.toList.map one).map D.str)]) := by
  simp only [bltD, hz, if_true, hnew, signs_eq]
theorem it_s {z : Str} {h : HI} (hz : z.cps.size ≤ big) : itOf (.str z) h = some (.seq ((z.cps.toList.map one).map D.str)) := by
  simp only [itOf, hz, if_true, signs_eq]
theorem add_s {a b : Str} {h : HI} (hl : a.cps.size + b.cps.size ≤ big) : binD .add (.str a) (.str b) h = some (.str ⟨a.cps ++ b.cps⟩, h) := by
  simp [binD, hl]
theorem flat_succ {α β : Type} {f : α → List β} {l : List α} {j : Nat} (hj : j < l.length) : (l.take (j + 1)).flatMap f = (l.take j).flatMap f ++ f l[j] := by
  rw [List.take_add_one, List.getElem?_eq_getElem hj, Option.toList_some, List.flatMap_append]
  simp
theorem cut_to {α : Type} (xs : List α) (m : Nat) : cut xs none (some (m : Int)) = xs.take m := by
  have e1 : clip xs.length xs.length (some (m : Int)) = min m xs.length := by simp [clip]
  unfold cut
  rw [e1]
  show (xs.drop 0).take (min m xs.length - 0) = _
  rw [List.drop_zero, Nat.sub_zero, List.take_eq_take_iff]
  omega
theorem slc_l {h : HI} {n m : Nat} {ds : List D} (e : h[n]? = some (.lst ds)) : slcD (.ref n) none (some (m : Int)) h = some (.ref h.length, h ++ [.lst (ds.take m)]) := by
  simp only [slcD, e, hnew, cut_to]
section
variable {P : List Def} {wf : Nat}
def bNew : MSs := (.cons (.asg (.nm 1) (.bin .add (.blt .list (.cons (.glb (.str "abcdefghijklmnopqrstuvwxyz")) .nil)) (.comp .lst [2, 3] (.more (.nm 2) (.ex (.glb (.str "0123456789"))) (.cst (.bl true)) [3] (.one (.nm 3) (.ex (.glb (.str "abcdefghijklmnopqrstuvwxyz"))) (.cst (.bl true)) (.bin .add (.var 3) (.var 2)) .omit))))) (.cons (.ret (.slc (.var 1) .omit (.var 0))) .nil))
theorem run_names {i j m : Nat} {h : HI} {Q : D × HI → Prop} (hP : P[i]? = some ⟨1, 4, bNew⟩) (q : ∀ n h', Pre h h' → h'[n]? = some (.lst ((NL.take m).map .str)) → Q (.ref n, h')) : wO (callI P wf (j + 1) i [.int m] h) Q := by
  refine wC hP rfl ?_
  have za : abc.cps.size ≤ big := by decide
  have zd : dgs.cps.size ≤ big := by decide
  have ga : (h ++ [HB.lst ((abc.cps.toList.map one).map D.str)])[h.length]? = some (.lst ((abc.cps.toList.map one).map D.str)) := get_last
  simp only [bNew, startD, List.map_cons, List.map_nil, List.length_cons, List.length_nil, List.replicate, List.cons_append, List.nil_append, ↓wE_var, ↓wE_cst, ↓wE_glb, ↓wE_tup, ↓wE_lst, ↓wE_dnew, ↓wE_bin, ↓wE_cmp, ↓wE_not, ↓wE_or, ↓wE_and, ↓wE_idx, ↓wE_slc, ↓wE_omit, ↓wE_call, ↓wE_blt, ↓wE_isi, ↓wE_mth, ↓wL_nil, ↓wL_cons, ↓wB_nil, ↓wB_cons, ↓wS_asg, ↓wS_sub, ↓wS_expr, ↓wS_ret, ↓wS_ite, ↓wI_ex, ↓wI_rng, ↓wI_zip, wV, wW]
  show wO (bltD .list [.str abc] h) _
  rw [li_s za, wO_some]
  refine wE_lc2 (fun n j acc H => Pre (h ++ [HB.lst ((abc.cps.toList.map one).map D.str)]) H ∧ acc = ((dgs.cps.toList.take j).flatMap fun d => abc.cps.toList.map fun l => two l d).map .str)
    (fun n j l acc H => Pre (h ++ [HB.lst ((abc.cps.toList.map one).map D.str)]) H ∧ acc = (((dgs.cps.toList.take j).flatMap fun d => abc.cps.toList.map fun l => two l d) ++ (abc.cps.toList.take l).map fun c => two c (dgs.cps.toList.getD j 0)).map .str) ?_
  simp only [↓wE_var, ↓wE_cst, ↓wE_glb, ↓wE_tup, ↓wE_lst, ↓wE_dnew, ↓wE_bin, ↓wE_cmp, ↓wE_not, ↓wE_or, ↓wE_and, ↓wE_idx, ↓wE_slc, ↓wE_omit, ↓wE_call, ↓wE_blt, ↓wE_isi, ↓wE_mth, ↓wL_nil, ↓wL_cons, ↓wB_nil, ↓wB_cons, ↓wS_asg, ↓wS_sub, ↓wS_expr, ↓wS_ret, ↓wS_ite, ↓wI_ex, ↓wI_rng, ↓wI_zip, wV, wW]
  show wO (itOf (.str dgs) _) _
  rw [it_s zd, wO_some]
  refine ⟨⟨Pre.app _, by simp⟩, ?_, ?_⟩
  · rintro j acc H hj ⟨ph, rfl⟩ en
    have hj : j < (dgs.cps.toList.map one).length := by simpa [It.len] using hj
    have hj2 : j < dgs.cps.toList.length := by simpa using hj
    refine ⟨_, seq_nx hj, ?_⟩
    rw [← wW_eq]
    simp only [wipeD, List.set, ↓wE_var, ↓wE_cst, ↓wE_glb, ↓wE_tup, ↓wE_lst, ↓wE_dnew, ↓wE_bin, ↓wE_cmp, ↓wE_not, ↓wE_or, ↓wE_and, ↓wE_idx, ↓wE_slc, ↓wE_omit, ↓wE_call, ↓wE_blt, ↓wE_isi, ↓wE_mth, ↓wL_nil, ↓wL_cons, ↓wB_nil, ↓wB_cons, ↓wS_asg, ↓wS_sub, ↓wS_expr, ↓wS_ret, ↓wS_ite, ↓wI_ex, ↓wI_rng, ↓wI_zip, wV, wW, wO_some, o_int, i_add, i_sub, m_48271, m_69621, m_16807, m_2, m_7, r_1000, r_m31, r_26, f_1000, f_997, f_26, p_18, c_lt, c_gt, c_ge, c_str, t_bl, b_int, true_and]
    show wO (itOf (.str abc) _) _
    rw [it_s za, wO_some]
    refine ⟨en, ⟨ph, by simp⟩, ?_, ?_⟩
    · rintro l acc H hl ⟨ph, rfl⟩ en
      have hl : l < (abc.cps.toList.map one).length := by simpa [It.len] using hl
      have hl2 : l < abc.cps.toList.length := by simpa using hl
      refine ⟨_, seq_nx hl, ?_⟩
      rw [← wW_eq]
      simp only [wipeD, List.set, ↓wE_var, ↓wE_cst, ↓wE_glb, ↓wE_tup, ↓wE_lst, ↓wE_dnew, ↓wE_bin, ↓wE_cmp, ↓wE_not, ↓wE_or, ↓wE_and, ↓wE_idx, ↓wE_slc, ↓wE_omit, ↓wE_call, ↓wE_blt, ↓wE_isi, ↓wE_mth, ↓wL_nil, ↓wL_cons, ↓wB_nil, ↓wB_cons, ↓wS_asg, ↓wS_sub, ↓wS_expr, ↓wS_ret, ↓wS_ite, ↓wI_ex, ↓wI_rng, ↓wI_zip, wV, wW, wO_some, o_int, i_add, i_sub, m_48271, m_69621, m_16807, m_2, m_7, r_1000, r_m31, r_26, f_1000, f_997, f_26, p_18, c_lt, c_gt, c_ge, c_str, t_bl, b_int, true_and]
      rw [add_s (by simp [one, big]), wO_some]
      refine ⟨en, ?_, ph.set (by simp), ?_⟩
      · have h1 : ((dgs.cps.toList.take j).flatMap fun d => abc.cps.toList.map fun l => two l d).length ≤ 260 := by
          have : ∀ k, k ≤ 10 → ((dgs.cps.toList.take k).flatMap fun d => abc.cps.toList.map fun l => two l d).length ≤ 260 := by decide +kernel
          have h10 : dgs.cps.toList.length = 10 := by decide
          exact this j (by omega)
        have h2 := List.length_take_le l abc.cps.toList
        have h26 : abc.cps.toList.length = 26 := by decide
        simp only [List.length_map, List.length_append, big]
        have h3 : (abc.cps.toList.take l).length ≤ 26 := by rw [List.length_take]; omega
        omega
      · have e0 : dgs.cps.toList.getD j 0 = dgs.cps.toList[j] := by simp [List.getD, List.getElem?_eq_getElem hj2]
        rw [List.take_add_one, List.getElem?_eq_getElem hl2, Option.toList_some, e0]
        simp only [List.map_append, List.append_assoc, List.map_cons, List.map_nil, List.getElem_map]
        rfl
    · rintro acc H ⟨ph, rfl⟩ en
      refine ⟨rfl, ph, ?_⟩
      rw [flat_succ hj2]
      have : dgs.cps.toList.getD j 0 = dgs.cps.toList[j] := by simp [List.getD, List.getElem?_eq_getElem hj2]
      rw [this]
      congr 2
  · rintro acc H ⟨ph, rfl⟩ en
    refine ⟨rfl, ?_⟩
    have hl : (It.seq ((dgs.cps.toList.map one).map D.str)).len = dgs.cps.toList.length := by simp [It.len]
    rw [hl, List.take_length] at en
    have hL : NL.length = 286 := NL_len
    have e2 := ph _ _ ga
    have hs : ((abc.cps.toList.map one).map D.str).length + ((dgs.cps.toList.flatMap fun d => abc.cps.toList.map fun l => two l d).map D.str).length = 286 := by
      rw [← hL]; simp [NL]
    show wO (binD .add (.ref h.length) (.ref _) H) _
    rw [add_l e2 en (by rw [hs]; decide), wO_some]
    simp only [↓wE_var, ↓wE_cst, ↓wE_glb, ↓wE_tup, ↓wE_lst, ↓wE_dnew, ↓wE_bin, ↓wE_cmp, ↓wE_not, ↓wE_or, ↓wE_and, ↓wE_idx, ↓wE_slc, ↓wE_omit, ↓wE_call, ↓wE_blt, ↓wE_isi, ↓wE_mth, ↓wL_nil, ↓wL_cons, ↓wB_nil, ↓wB_cons, ↓wS_asg, ↓wS_sub, ↓wS_expr, ↓wS_ret, ↓wS_ite, ↓wI_ex, ↓wI_rng, ↓wI_zip, wV, wW, om_o, om_v, po_i, po_o, wO_some]
    rw [slc_l get_last, wO_some]
    refine q _ _ (((Pre.app _).trans ph).trans ((Pre.app _).trans (Pre.app _))) ?_
    rw [get_last, ← List.map_append, ← List.map_take]
    rfl
def mkT (l : List (Str × Str)) : List (D × D) := l.foldl (fun kvs p => kPut kvs (.str p.1) (letD p.2)) []
theorem mkT_snoc (l : List (Str × Str)) (p : Str × Str) : mkT (l ++ [p]) = kPut (mkT l) (.str p.1) (letD p.2) := by
  unfold mkT
  rw [List.foldl_append]
  rfl
theorem mkT_let (l : List (Str × Str)) : LetTab (mkT l) ∧ (mkT l).length ≤ l.length := by
  have : ∀ (l : List (Str × Str)) (kvs : List (D × D)), LetTab kvs → LetTab (l.foldl (fun kvs p => kPut kvs (.str p.1) (letD p.2)) kvs) ∧ (l.foldl (fun kvs p => kPut kvs (.str p.1) (letD p.2)) kvs).length ≤ kvs.length + l.length := by
    intro l
    induction l with
    | nil => intro kvs a; exact ⟨a, by simp⟩
    | cons p r ih =>
      intro kvs a
      obtain ⟨h1, h2⟩ := ih _ (a.put (.str p.1) p.2)
      have := kPut_len kvs (.str p.1) (letD p.2)
      refine ⟨h1, ?_⟩
      simp only [List.foldl_cons, List.length_cons]
      omega
  have := this l [] (fun _ z => nomatch z)
  exact ⟨this.1, by simpa [mkT] using this.2⟩
theorem zip_take {α β : Type} {a : List α} {b : List β} {j : Nat} (ha : j < a.length) (hb : j < b.length) : (a.zip b).take (j + 1) = (a.zip b).take j ++ [(a[j], b[j])] := by
  have hj : j < (a.zip b).length := by rw [List.length_zip]; omega
  rw [List.take_add_one, List.getElem?_eq_getElem hj, Option.toList_some, List.getElem_zip]
theorem zip_of {h : HI} {m n : Nat} {a b : List D} (e1 : LA h m a) (e2 : LA h n b) : zipOf (.ref m) (.ref n) h = some (.zip (.live m a.length) (.live n b.length)) := by
  simp only [zipOf, e1.of, e2.of]
theorem zip_nx {h : HI} {m n j : Nat} {a b : List D} (e1 : LA h m a) (e2 : LA h n b) (ha : j < a.length) (hb : j < b.length) : (It.zip (.live m a.length) (.live n b.length)).nx j h = some (.tup [a[j], b[j]]) := by
  have f1 := live_nx (k := a.length) e1 ha
  have f2 := live_nx (k := b.length) e2 hb
  simp only [It.nx] at f1 f2 ⊢
  simp only [f1, f2]
def bRenamed (ip io iN : Nat) : MSs := (.cons (.asg (.nm 1) (.call io (.cons (.var 0) .nil))) (.cons (.ret (.call ip (.cons (.var 0) (.cons (.comp .dct [2, 3] (.one (.tp (.cons (.nm 2) (.cons (.nm 3) .nil))) (.zip (.var 1) (.call iN (.cons (.blt .len (.cons (.var 1) .nil)) .nil))) (.cst (.bl true)) (.var 2) (.tup (.cons (.cst (.str "letter")) (.cons (.var 3) .nil))))) .nil)))) .nil))
theorem bind_tp {x y : D} {σ : St} {Q : St → Prop} : wO (bind1 (.tp (.cons (.nm 2) (.cons (.nm 3) .nil))) (.tup [x, y]) σ) Q = wW σ 2 x fun σ1 => wW σ1 3 y Q := by
  simp only [bind1, binds, wO_bind, wO_some, wW_eq]
theorem run_renamed {ip io iN ir j : Nat} (hPu : P[ip]? = some ⟨2, 3, bPut ip⟩) (hO : P[io]? = some ⟨1, 4, bOrd io⟩) (hN : P[iN]? = some ⟨1, 4, bNew⟩) (hP : P[ir]? = some ⟨1, 4, bRenamed ip io iN⟩) (f : Fm) (hl : f.lvs ≤ 286) (hd : f.dep ≤ j) {h : HI} {Q : D × HI → Prop}
    (q : ∀ h', Pre h h' → Q (putD (mkT ((ordL f).zip NL)) f, h')) : wO (callI P wf (j + 2) ir [f.d] h) Q := by
  refine wC hP rfl ?_
  simp only [bRenamed, startD, List.map_cons, List.map_nil, List.length_cons, List.length_nil, List.replicate, List.cons_append, List.nil_append, ↓wE_var, ↓wE_cst, ↓wE_glb, ↓wE_tup, ↓wE_lst, ↓wE_dnew, ↓wE_bin, ↓wE_cmp, ↓wE_not, ↓wE_or, ↓wE_and, ↓wE_idx, ↓wE_slc, ↓wE_omit, ↓wE_call, ↓wE_blt, ↓wE_isi, ↓wE_mth, ↓wL_nil, ↓wL_cons, ↓wB_nil, ↓wB_cons, ↓wS_asg, ↓wS_sub, ↓wS_expr, ↓wS_ret, ↓wS_ite, ↓wI_ex, ↓wI_rng, ↓wI_zip, wV, wW]
  refine run_ord hO (j + 1) f (by omega) (by omega) fun n1 h1 p1 e1 => ?_
  have hol := ordL_len f
  have hNL := NL_len
  obtain ⟨_, eN, n2, h2, rfl, p2, e2⟩ := run_names (wf := wf) (j := j) (m := (ordL f).length) (h := h1) (Q := fun r => ∃ n2 h2, r = (.ref n2, h2) ∧ Pre h1 h2 ∧ h2[n2]? = some (.lst ((NL.take (ordL f).length).map .str))) hN fun n h' a b => ⟨n, h', rfl, a, b⟩
  have z1 : LA h2 n1 ((ordL f).map .str) := .inl (p2 _ _ e1)
  have z2 : LA h2 n2 ((NL.take (ordL f).length).map .str) := .inl e2
  have la1 : LA h1 n1 ((ordL f).map .str) := .inl e1
  have hl1 : ((ordL f).map D.str).length = (ordL f).length := List.length_map ..
  have hl2 : ((NL.take (ordL f).length).map D.str).length = (ordL f).length := by
    rw [List.length_map, List.length_take]
    omega
  simp only [↓wE_var, ↓wE_cst, ↓wE_glb, ↓wE_tup, ↓wE_lst, ↓wE_dnew, ↓wE_bin, ↓wE_cmp, ↓wE_not, ↓wE_or, ↓wE_and, ↓wE_idx, ↓wE_slc, ↓wE_omit, ↓wE_call, ↓wE_blt, ↓wE_isi, ↓wE_mth, ↓wL_nil, ↓wL_cons, ↓wB_nil, ↓wB_cons, ↓wS_asg, ↓wS_sub, ↓wS_expr, ↓wS_ret, ↓wS_ite, ↓wI_ex, ↓wI_rng, ↓wI_zip, wV, wW]
  refine wE_dc (fun n i kvs H => Pre h2 H ∧ kvs = mkT (((ordL f).zip NL).take i)) ?_
  simp only [↓wE_var, ↓wE_cst, ↓wE_glb, ↓wE_tup, ↓wE_lst, ↓wE_dnew, ↓wE_bin, ↓wE_cmp, ↓wE_not, ↓wE_or, ↓wE_and, ↓wE_idx, ↓wE_slc, ↓wE_omit, ↓wE_call, ↓wE_blt, ↓wE_isi, ↓wE_mth, ↓wL_nil, ↓wL_cons, ↓wB_nil, ↓wB_cons, ↓wS_asg, ↓wS_sub, ↓wS_expr, ↓wS_ret, ↓wS_ite, ↓wI_ex, ↓wI_rng, ↓wI_zip, wV, wW]
  rw [la1.len, wO_some]
  simp only [hl1]
  rw [eN, wO_some]
  show wO (zipOf (.ref n1) (.ref n2) h2) _
  rw [zip_of z1 z2, wO_some]
  have hlen : (It.zip (.live n1 ((ordL f).map D.str).length) (.live n2 ((NL.take (ordL f).length).map D.str).length)).len = (ordL f).length := by
    simp only [It.len, hl1, hl2, Nat.min_self]
  refine ⟨⟨Pre.app _, rfl⟩, ?_, ?_⟩
  · rintro i kvs H hi ⟨ph, rfl⟩ en
    rw [hlen] at hi
    have y1 : LA H n1 ((ordL f).map .str) := .inl (ph _ _ (p2 _ _ e1))
    have y2 : LA H n2 ((NL.take (ordL f).length).map .str) := .inl (ph _ _ e2)
    refine ⟨_, zip_nx y1 y2 (by omega) (by omega), ?_⟩
    rw [bind_tp]
    simp only [wipeD, List.set, ↓wE_var, ↓wE_cst, ↓wE_glb, ↓wE_tup, ↓wE_lst, ↓wE_dnew, ↓wE_bin, ↓wE_cmp, ↓wE_not, ↓wE_or, ↓wE_and, ↓wE_idx, ↓wE_slc, ↓wE_omit, ↓wE_call, ↓wE_blt, ↓wE_isi, ↓wE_mth, ↓wL_nil, ↓wL_cons, ↓wB_nil, ↓wB_cons, ↓wS_asg, ↓wS_sub, ↓wS_expr, ↓wS_ret, ↓wS_ite, ↓wI_ex, ↓wI_rng, ↓wI_zip, wV, wW, wO_some, o_int, i_add, i_sub, m_48271, m_69621, m_16807, m_2, m_7, r_1000, r_m31, r_26, f_1000, f_997, f_26, p_18, c_lt, c_gt, c_ge, c_str, t_bl, b_int, List.getElem_map, List.getElem_take, true_and]
    have hm := (mkT_let (((ordL f).zip NL).take i)).2
    have hm2 : (((ordL f).zip NL).take i).length ≤ 286 := by rw [List.length_take, List.length_zip]; omega
    refine ⟨by simp [big], en, rfl, by simp only [big]; omega, ph.set (Nat.le_refl _), ?_⟩
    rw [zip_take hi (by omega), mkT_snoc]
    rfl
  · rintro kvs H ⟨ph, rfl⟩ en
    have y1 : LA H n1 ((ordL f).map .str) := .inl (ph _ _ (p2 _ _ e1))
    have y2 : LA H n2 ((NL.take (ordL f).length).map .str) := .inl (ph _ _ e2)
    refine ⟨?_, ?_⟩
    · have f1 := live_fin y1
      have f2 := live_fin y2
      show ((It.live _ _).fin H && (It.live _ _).fin H) = true
      rw [f1, f2]
      rfl
    · try simp only [↓wE_var, ↓wE_cst, ↓wE_glb, ↓wE_tup, ↓wE_lst, ↓wE_dnew, ↓wE_bin, ↓wE_cmp, ↓wE_not, ↓wE_or, ↓wE_and, ↓wE_idx, ↓wE_slc, ↓wE_omit, ↓wE_call, ↓wE_blt, ↓wE_isi, ↓wE_mth, ↓wL_nil, ↓wL_cons, ↓wB_nil, ↓wB_cons, ↓wS_asg, ↓wS_sub, ↓wS_expr, ↓wS_ret, ↓wS_ite, ↓wI_ex, ↓wI_rng, ↓wI_zip, wV, wW]
      refine run_put hPu en (j + 1) f (by omega) ?_
      have : ((ordL f).zip NL).take (It.zip (.live n1 ((ordL f).map D.str).length) (.live n2 ((NL.take (ordL f).length).map D.str).length)).len = (ordL f).zip NL := List.take_of_length_le (by rw [hlen, List.length_zip]; omega)
      rw [this]
      exact q H (p1.trans (p2.trans ph))
def idxS (k : Nat) : Option Str := ((ixAt 26 ((k : Int).fmod 26)).bind fun j => abc.cps[j]?).map one
theorem name_lo : ∀ k, k < 26 → idxS k = NL[k]? ∧ (NL[k]?).isSome = true := by decide +kernel
theorem name_hi : ∀ k, k < 286 → 26 ≤ k → (idxS k).map (fun a => (⟨a.cps ++ (Str.ofString (toString ((k : Int).fdiv 26 - 1))).cps⟩ : Str)) = NL[k]? ∧ ((k : Int).fdiv 26 - 1).natAbs.log2 < 1920 ∧ (Str.ofString (toString ((k : Int).fdiv 26 - 1))).cps.size ≤ 100 ∧ (NL[k]?).isSome = true := by decide +kernel
theorem idx_abc {k : Nat} {a : Str} {h : HI} (e : idxS k = some a) : idxD (.str abc) (.int ((k : Int).fmod 26)) h = some (.str a, h) := by
  unfold idxS at e
  have hz : abc.cps.size = 26 := by decide
  have hb : abc.cps.size ≤ big := by decide
  simp only [idxD, hb, if_true, hz]
  obtain ⟨c, e1, rfl⟩ := Option.map_eq_some_iff.mp e
  rw [e1]
  rfl
def bLrenamed (ip io : Nat) : MSs := (.cons (.asg (.nm 1) (.cst (.str "abcdefghijklmnopqrstuvwxyz"))) (.cons (.asg (.nm 2) .dnew) (.cons (.asg (.nm 3) (.call io (.cons (.var 0) .nil))) (.cons (.fr (.nm 4) (.rng (.cons (.blt .len (.cons (.var 3) .nil)) .nil)) (.cons (.asg (.nm 5) (.idx (.var 1) (.bin .mod (.blt .int (.cons (.var 4) .nil)) (.cst (.int 26))))) (.cons (.ite (.cmp .gt (.var 4) (.cst (.int 25))) (.cons (.asg (.nm 5) (.bin .add (.var 5) (.blt .str (.cons (.bin .sub (.bin .fdv (.var 4) (.cst (.int 26))) (.cst (.int 1))) .nil)))) .nil) .nil) (.cons (.sub (.var 2) (.idx (.var 3) (.var 4)) (.tup (.cons (.cst (.str "letter")) (.cons (.var 5) .nil)))) .nil)))) (.cons (.ret (.call ip (.cons (.var 0) (.cons (.var 2) .nil)))) .nil)))))
theorem st_i {i : Int} {h : HI} (hl : i.natAbs.log2 < 1920) : bltD .str [.int i] h = some (.str (Str.ofString (toString i)), h) := by simp only [bltD, hl, if_true]
theorem run_lrenamed {ip io ir j : Nat} (hPu : P[ip]? = some ⟨2, 3, bLput ip⟩) (hO : P[io]? = some ⟨1, 4, bLord io⟩) (hP : P[ir]? = some ⟨1, 6, bLrenamed ip io⟩) (f : Fm) (hl : f.lvs ≤ 286) (hd : f.dep ≤ j) {h : HI} {Q : D × HI → Prop}
    (q : ∀ h', Pre h h' → Q (putD (mkT ((ordL f).zip NL)) f, h')) : wO (callI P wf (j + 1) ir [f.d] h) Q := by
  refine wC hP rfl ?_
  simp only [bLrenamed, startD, List.map_cons, List.map_nil, List.length_cons, List.length_nil, List.replicate, List.cons_append, List.nil_append, ↓wE_var, ↓wE_cst, ↓wE_glb, ↓wE_tup, ↓wE_lst, ↓wE_dnew, ↓wE_bin, ↓wE_cmp, ↓wE_not, ↓wE_or, ↓wE_and, ↓wE_idx, ↓wE_slc, ↓wE_omit, ↓wE_call, ↓wE_blt, ↓wE_isi, ↓wE_mth, ↓wL_nil, ↓wL_cons, ↓wB_nil, ↓wB_cons, ↓wS_asg, ↓wS_sub, ↓wS_expr, ↓wS_ret, ↓wS_ite, ↓wI_ex, ↓wI_rng, ↓wI_zip, wV, wW]
  refine run_lord hO j f (by omega) hd fun n1 h1 p1 e1 => ?_
  have hol := ordL_len f
  have hNL := NL_len
  simp only [↓wE_var, ↓wE_cst, ↓wE_glb, ↓wE_tup, ↓wE_lst, ↓wE_dnew, ↓wE_bin, ↓wE_cmp, ↓wE_not, ↓wE_or, ↓wE_and, ↓wE_idx, ↓wE_slc, ↓wE_omit, ↓wE_call, ↓wE_blt, ↓wE_isi, ↓wE_mth, ↓wL_nil, ↓wL_cons, ↓wB_nil, ↓wB_cons, ↓wS_asg, ↓wS_sub, ↓wS_expr, ↓wS_ret, ↓wS_ite, ↓wI_ex, ↓wI_rng, ↓wI_zip, wV, wW]
  have gt := p1 _ _ (get_last (h := h) (o := .dic []))
  have hl1 : ((ordL f).map D.str).length = (ordL f).length := List.length_map ..
  refine wS_for (fun i σ H => ∃ kk nm, σ = [some f.d, some (.str abc), some (.ref h.length), some (.ref n1), kk, nm] ∧ Pre h H ∧ H[h.length]? = some (.dic (mkT (((ordL f).zip NL).take i))) ∧ H[n1]? = some (.lst ((ordL f).map .str))) ?_
  simp only [↓wE_var, ↓wE_cst, ↓wE_glb, ↓wE_tup, ↓wE_lst, ↓wE_dnew, ↓wE_bin, ↓wE_cmp, ↓wE_not, ↓wE_or, ↓wE_and, ↓wE_idx, ↓wE_slc, ↓wE_omit, ↓wE_call, ↓wE_blt, ↓wE_isi, ↓wE_mth, ↓wL_nil, ↓wL_cons, ↓wB_nil, ↓wB_cons, ↓wS_asg, ↓wS_sub, ↓wS_expr, ↓wS_ret, ↓wS_ite, ↓wI_ex, ↓wI_rng, ↓wI_zip, wV, wW]
  have la1 : LA h1 n1 ((ordL f).map .str) := .inl e1
  rw [la1.len, wO_some]
  simp only [hl1]
  rw [rng1 (by omega), wO_some]
  refine ⟨⟨none, none, rfl, (Pre.app _).trans p1, gt, e1⟩, ?_, ?_⟩
  · rintro i σ H hi ⟨kk, nm, rfl, ph, et, eo⟩
    refine ⟨_, rng_nx hi, ?_⟩
    simp only [It.len, List.length_map, List.length_range] at hi
    rw [← wW_eq]
    have lo : LA H n1 ((ordL f).map .str) := .inl eo
    have io' : idxD (.ref n1) (.int (i : Nat)) H = some (.str (ordL f)[i], H) := by
      rw [lo.idx, at_nat (List.getElem?_eq_getElem (by rw [hl1]; exact hi)), Option.map_some, List.getElem_map]
    have hm := (mkT_let (((ordL f).zip NL).take i)).2
    have hm2 : (((ordL f).zip NL).take i).length ≤ 286 := by rw [List.length_take, List.length_zip]; omega
    have hn : n1 ≠ h.length := fun z => by rw [z, et] at eo; cases eo
    have fin : ∀ s : Str, NL[i]? = some s → ∀ k0 : D, (∃ (kk nm : Option D), ([some f.d, some (.str abc), some (.ref h.length), some (.ref n1), some k0, some (.str s)] : St) = [some f.d, some (.str abc), some (.ref h.length), some (.ref n1), kk, nm] ∧ Pre h (H.set h.length (.dic (kPut (mkT (((ordL f).zip NL).take i)) (.str (ordL f)[i]) (letD s)))) ∧
        (H.set h.length (.dic (kPut (mkT (((ordL f).zip NL).take i)) (.str (ordL f)[i]) (letD s))))[h.length]? = some (.dic (mkT (((ordL f).zip NL).take (i + 1)))) ∧ (H.set h.length (.dic (kPut (mkT (((ordL f).zip NL).take i)) (.str (ordL f)[i]) (letD s))))[n1]? = some (.lst ((ordL f).map .str))) := by
      intro s es k0
      have hs : NL[i]'(by omega) = s := by
        rw [List.getElem?_eq_getElem (by omega)] at es
        exact Option.some.inj es
      refine ⟨_, _, rfl, ph.set (Nat.le_refl _), ?_, ?_⟩
      · rw [List.getElem?_set_self (lt_of et), zip_take hi (by omega), mkT_snoc, hs]
      · rw [List.getElem?_set_ne (Ne.symm hn)]
        exact eo
    simp only [↓wE_var, ↓wE_cst, ↓wE_glb, ↓wE_tup, ↓wE_lst, ↓wE_dnew, ↓wE_bin, ↓wE_cmp, ↓wE_not, ↓wE_or, ↓wE_and, ↓wE_idx, ↓wE_slc, ↓wE_omit, ↓wE_call, ↓wE_blt, ↓wE_isi, ↓wE_mth, ↓wL_nil, ↓wL_cons, ↓wB_nil, ↓wB_cons, ↓wS_asg, ↓wS_sub, ↓wS_expr, ↓wS_ret, ↓wS_ite, ↓wI_ex, ↓wI_rng, ↓wI_zip, wV, wW, wO_some, o_int, i_add, i_sub, m_48271, m_69621, m_16807, m_2, m_7, r_1000, r_m31, r_26, f_1000, f_997, f_26, p_18, c_lt, c_gt, c_ge, c_str, t_bl, b_int]
    by_cases c : i < 26
    · obtain ⟨n1', n2'⟩ := name_lo i c
      obtain ⟨s, es⟩ := Option.isSome_iff_exists.mp n2'
      rw [es] at n1'
      have hx : decide ((25 : Int) < (i : Nat)) = false := by simp; omega
      show wO (idxD (.str abc) (.int ((i : Int).fmod 26)) H) _
      rw [idx_abc n1', wO_some]
      simp only [↓wE_var, ↓wE_cst, ↓wE_glb, ↓wE_tup, ↓wE_lst, ↓wE_dnew, ↓wE_bin, ↓wE_cmp, ↓wE_not, ↓wE_or, ↓wE_and, ↓wE_idx, ↓wE_slc, ↓wE_omit, ↓wE_call, ↓wE_blt, ↓wE_isi, ↓wE_mth, ↓wL_nil, ↓wL_cons, ↓wB_nil, ↓wB_cons, ↓wS_asg, ↓wS_sub, ↓wS_expr, ↓wS_ret, ↓wS_ite, ↓wI_ex, ↓wI_rng, ↓wI_zip, wV, wW, hx, Bool.false_eq_true, if_false, io', wO_some]
      refine ⟨by simp [big], ?_⟩
      show wO (setIx (.ref h.length) (.str (ordL f)[i]) (letD s) H) _
      rw [set_d et (by simp only [big]; omega), wO_some]
      exact fin s es _
    · obtain ⟨m1, m2, m3, m4⟩ := name_hi i (by omega) (by omega)
      obtain ⟨s, es⟩ := Option.isSome_iff_exists.mp m4
      rw [es] at m1
      obtain ⟨a, ea, hs⟩ := Option.map_eq_some_iff.mp m1
      have hx : decide ((25 : Int) < (i : Nat)) = true := by simp; omega
      have ha : a.cps.size = 1 := by
        unfold idxS at ea
        obtain ⟨c, _, rfl⟩ := Option.map_eq_some_iff.mp ea
        rfl
      show wO (idxD (.str abc) (.int ((i : Int).fmod 26)) H) _
      rw [idx_abc ea, wO_some]
      simp only [↓wE_var, ↓wE_cst, ↓wE_glb, ↓wE_tup, ↓wE_lst, ↓wE_dnew, ↓wE_bin, ↓wE_cmp, ↓wE_not, ↓wE_or, ↓wE_and, ↓wE_idx, ↓wE_slc, ↓wE_omit, ↓wE_call, ↓wE_blt, ↓wE_isi, ↓wE_mth, ↓wL_nil, ↓wL_cons, ↓wB_nil, ↓wB_cons, ↓wS_asg, ↓wS_sub, ↓wS_expr, ↓wS_ret, ↓wS_ite, ↓wI_ex, ↓wI_rng, ↓wI_zip, wV, wW, hx, if_true, wO_some, o_int, i_add, i_sub, m_48271, m_69621, m_16807, m_2, m_7, r_1000, r_m31, r_26, f_1000, f_997, f_26, p_18, c_lt, c_gt, c_ge, c_str, t_bl, b_int, st_i m2, add_s (show a.cps.size + (Str.ofString (toString ((i : Int).fdiv 26 - 1))).cps.size ≤ big by simp only [big]; omega), hs, io']
      refine ⟨by simp [big], ?_⟩
      show wO (setIx (.ref h.length) (.str (ordL f)[i]) (letD s) H) _
      rw [set_d et (by simp only [big]; omega), wO_some]
      exact fin s es _
  · rintro σ H ⟨kk, nm, rfl, ph, et, eo⟩
    refine ⟨rfl, ?_⟩
    try simp only [↓wE_var, ↓wE_cst, ↓wE_glb, ↓wE_tup, ↓wE_lst, ↓wE_dnew, ↓wE_bin, ↓wE_cmp, ↓wE_not, ↓wE_or, ↓wE_and, ↓wE_idx, ↓wE_slc, ↓wE_omit, ↓wE_call, ↓wE_blt, ↓wE_isi, ↓wE_mth, ↓wL_nil, ↓wL_cons, ↓wB_nil, ↓wB_cons, ↓wS_asg, ↓wS_sub, ↓wS_expr, ↓wS_ret, ↓wS_ite, ↓wI_ex, ↓wI_rng, ↓wI_zip, wV, wW]
    refine run_lput hPu j f et hd fun h' p' => ?_
    have : ((ordL f).zip NL).take (It.seq ((List.range (ordL f).length).map fun k => D.int (k : Nat))).len = (ordL f).zip NL := List.take_of_length_le (by simp [It.len, List.length_zip]; omega)
    rw [this]
    exact q h' (ph.trans p')
def bLaw81 (ib il is ir iq iw : Nat) : MSs := (.cons (.asg (.nm 1) (.call ib (.cons (.var 0) (.cons (.cst (.int 0)) (.cons (.cst (.int 63)) .nil))))) (.cons (.fr (.nm 2) (.rng (.cons (.cst (.int 4)) .nil)) (.cons (.asg (.nm 3) (.call il (.cons (.var 1) (.cons (.cst (.int 40)) (.cons (.cst (.int 8)) .nil))))) (.cons (.ite (.not (.call is (.cons (.call ir (.cons (.var 3) .nil)) (.cons (.call iq (.cons (.var 3) .nil)) .nil)))) (.cons (.ret (.cst (.bl false))) .nil) .nil) .nil))) (.cons (.asg (.nm 4) (.tup (.cons (.cst (.str "letter")) (.cons (.cst (.str "z9")) .nil)))) (.cons (.fr (.nm 2) (.rng (.cons (.call iw (.cons (.var 1) (.cons (.cst (.int 36)) .nil))) .nil)) (.cons (.asg (.nm 5) (.idx (.cst (.str "zyxwvutsrqponmlkjihgfedcba")) (.bin .mod (.blt .int (.cons (.var 2) .nil)) (.cst (.int 26))))) (.cons (.asg (.nm 4) (.tup (.cons (.cst (.str "if")) (.cons (.tup (.cons (.cst (.str "not")) (.cons (.tup (.cons (.cst (.str "letter")) (.cons (.bin .add (.var 5) (.blt .str (.cons (.bin .fdv (.var 2) (.cst (.int 26))) .nil))) .nil))) .nil))) (.cons (.var 4) .nil))))) .nil))) (.cons (.ret (.call is (.cons (.call ir (.cons (.var 4) .nil)) (.cons (.call iq (.cons (.var 4) .nil)) .nil)))) .nil)))))
theorem fmod_nn (k : Nat) : (0 : Int) ≤ (k : Int).fmod 26 ∧ (k : Int).fmod 26 < 26 := ⟨Int.fmod_nonneg_of_pos _ (by omega), Int.fmod_lt_of_pos _ (by omega)⟩
theorem idx_1 {z : Str} {v : Int} {h : HI} (hz : z.cps.size ≤ big) (h0 : 0 ≤ v) (h1 : v < z.cps.size) : ∃ c, idxD (.str z) (.int v) h = some (.str (one c), h) := by
  have hv : v.toNat < z.cps.size := by omega
  refine ⟨z.cps[v.toNat], ?_⟩
  simp [idxD, hz, ixAt, h0, h1, hv, one]
theorem str_small : ∀ k : Nat, k < 36 → ((k : Int).fdiv 26).natAbs.log2 < 1920 ∧ (Str.ofString (toString ((k : Int).fdiv 26))).cps.size ≤ 100 := by decide +kernel
theorem run_both {ib il is ir iq iw ip io iN il2 io2 j : Nat} (hS : P[is]? = some ⟨2, 3, bSame is⟩)
    (hPu : P[ip]? = some ⟨2, 3, bPut ip⟩) (hO : P[io]? = some ⟨1, 4, bOrd io⟩) (hN : P[iN]? = some ⟨1, 4, bNew⟩) (hR : P[ir]? = some ⟨1, 4, bRenamed ip io iN⟩)
    (hPu2 : P[il2]? = some ⟨2, 3, bLput il2⟩) (hO2 : P[io2]? = some ⟨1, 4, bLord io2⟩) (hR2 : P[iq]? = some ⟨1, 6, bLrenamed il2 io2⟩) (f : Fm) (hl : f.lvs ≤ 286) (hd : f.dep ≤ 50) {h : HI} {Q : D × HI → Prop} (q : ∀ h', Pre h h' → Q (.bl true, h')) :
    wO (callI P wf (j + 60) ir [f.d] h) fun r1 => wO (callI P wf (j + 60) iq [f.d] r1.2) fun r2 => wO (callI P wf (j + 60) is [r1.1, r2.1] r2.2) Q := by
  refine run_renamed (j := j + 58) hPu hO hN hR f hl (by omega) fun h1 p1 => ?_
  refine run_lrenamed (j := j + 59) hPu2 hO2 hR2 f hl (by omega) fun h2 p2 => ?_
  obtain ⟨g, hg⟩ := (mkT_let ((ordL f).zip NL)).1.map
  show wO (callI P wf (j + 60) is [putD _ f, putD _ f] h2) Q
  rw [hg]
  refine (run_same hS (j + 60)).2 (f.map g) (by rw [Fm.map_dep]; omega) ?_
  exact q h2 (p1.trans p2)
theorem run_law81 {ib il is ir iq iw ip io iN il2 io2 ic id ia il0 : Nat} (hS : P[is]? = some ⟨2, 3, bSame is⟩)
    (hPu : P[ip]? = some ⟨2, 3, bPut ip⟩) (hO : P[io]? = some ⟨1, 4, bOrd io⟩) (hN : P[iN]? = some ⟨1, 4, bNew⟩) (hR : P[ir]? = some ⟨1, 4, bRenamed ip io iN⟩)
    (hPu2 : P[il2]? = some ⟨2, 3, bLput il2⟩) (hO2 : P[io2]? = some ⟨1, 4, bLord io2⟩) (hR2 : P[iq]? = some ⟨1, 6, bLrenamed il2 io2⟩)
    (hC : P[ic]? = some ⟨2, 2, bCell⟩) (hD : P[id]? = some ⟨3, 8, bDigits ic⟩) (hB : P[ib]? = some ⟨3, 3, bBox id⟩) (hW : P[iw]? = some ⟨2, 3, bDraw⟩) (hA : P[ia]? = some ⟨3, 6, bAny iw ia⟩) (hL : P[il]? = some ⟨3, 6, bLettered iw il2 ia⟩)
    (hP : P[il0]? = some ⟨1, 6, bLaw81 ib il is ir iq iw⟩) {h : HI} {s : Nat} {ns : List Int} (hs : LA h s (ns.map .int)) : wO (callI P wf 109 il0 [.ref s] h) fun r => r.1 = .bl true := by
  refine wC hP rfl ?_
  simp only [bLaw81, startD, List.map_cons, List.map_nil, List.length_cons, List.length_nil, List.replicate, List.cons_append, List.nil_append, ↓wE_var, ↓wE_cst, ↓wE_glb, ↓wE_tup, ↓wE_lst, ↓wE_dnew, ↓wE_bin, ↓wE_cmp, ↓wE_not, ↓wE_or, ↓wE_and, ↓wE_idx, ↓wE_slc, ↓wE_omit, ↓wE_call, ↓wE_blt, ↓wE_isi, ↓wE_mth, ↓wL_nil, ↓wL_cons, ↓wB_nil, ↓wB_cons, ↓wS_asg, ↓wS_sub, ↓wS_expr, ↓wS_ret, ↓wS_ite, ↓wI_ex, ↓wI_rng, ↓wI_zip, wV, wW]
  refine run_box (j := 105) hC hD hB hs fun b h1 p1 b1 => ?_
  simp only [↓wE_var, ↓wE_cst, ↓wE_glb, ↓wE_tup, ↓wE_lst, ↓wE_dnew, ↓wE_bin, ↓wE_cmp, ↓wE_not, ↓wE_or, ↓wE_and, ↓wE_idx, ↓wE_slc, ↓wE_omit, ↓wE_call, ↓wE_blt, ↓wE_isi, ↓wE_mth, ↓wL_nil, ↓wL_cons, ↓wB_nil, ↓wB_cons, ↓wS_asg, ↓wS_sub, ↓wS_expr, ↓wS_ret, ↓wS_ite, ↓wI_ex, ↓wI_rng, ↓wI_zip, wV, wW]
  refine wS_for (fun i σ H => ∃ k f, σ = [some (.ref s), some (.ref b), k, f, none, none] ∧ BoxOk H b) ?_
  simp only [↓wE_var, ↓wE_cst, ↓wE_glb, ↓wE_tup, ↓wE_lst, ↓wE_dnew, ↓wE_bin, ↓wE_cmp, ↓wE_not, ↓wE_or, ↓wE_and, ↓wE_idx, ↓wE_slc, ↓wE_omit, ↓wE_call, ↓wE_blt, ↓wE_isi, ↓wE_mth, ↓wL_nil, ↓wL_cons, ↓wB_nil, ↓wB_cons, ↓wS_asg, ↓wS_sub, ↓wS_expr, ↓wS_ret, ↓wS_ite, ↓wI_ex, ↓wI_rng, ↓wI_zip, wV, wW]
  rw [rng4, wO_some]
  refine ⟨⟨none, none, rfl, b1⟩, ?_, ?_⟩
  · rintro i σ H hi ⟨k, f, rfl, hb⟩
    refine ⟨_, rng_nx hi, ?_⟩
    rw [← wW_eq]
    simp only [↓wE_var, ↓wE_cst, ↓wE_glb, ↓wE_tup, ↓wE_lst, ↓wE_dnew, ↓wE_bin, ↓wE_cmp, ↓wE_not, ↓wE_or, ↓wE_and, ↓wE_idx, ↓wE_slc, ↓wE_omit, ↓wE_call, ↓wE_blt, ↓wE_isi, ↓wE_mth, ↓wL_nil, ↓wL_cons, ↓wB_nil, ↓wB_cons, ↓wS_asg, ↓wS_sub, ↓wS_expr, ↓wS_ret, ↓wS_ite, ↓wI_ex, ↓wI_rng, ↓wI_zip, wV, wW]
    refine run_lettered (j := 58) hW hA hPu2 hL hb fun f H1 l1 d1 b1 kp1 => ?_
    simp only [↓wE_var, ↓wE_cst, ↓wE_glb, ↓wE_tup, ↓wE_lst, ↓wE_dnew, ↓wE_bin, ↓wE_cmp, ↓wE_not, ↓wE_or, ↓wE_and, ↓wE_idx, ↓wE_slc, ↓wE_omit, ↓wE_call, ↓wE_blt, ↓wE_isi, ↓wE_mth, ↓wL_nil, ↓wL_cons, ↓wB_nil, ↓wB_cons, ↓wS_asg, ↓wS_sub, ↓wS_expr, ↓wS_ret, ↓wS_ite, ↓wI_ex, ↓wI_rng, ↓wI_zip, wV, wW]
    refine wO_imp (run_both (ib := ib) (il := il) (iw := iw) (j := 48) (Q := fun r => ∃ h', r = (.bl true, h') ∧ BoxOk h' b) hS hPu hO hN hR hPu2 hO2 hR2 f (by omega) (by omega) fun h' p' => ⟨h', rfl, b1.pre p'⟩) fun r z => wO_imp z fun r z => wO_imp z ?_
    rintro _ ⟨h', rfl, hb'⟩
    simp only [↓wE_var, ↓wE_cst, ↓wE_glb, ↓wE_tup, ↓wE_lst, ↓wE_dnew, ↓wE_bin, ↓wE_cmp, ↓wE_not, ↓wE_or, ↓wE_and, ↓wE_idx, ↓wE_slc, ↓wE_omit, ↓wE_call, ↓wE_blt, ↓wE_isi, ↓wE_mth, ↓wL_nil, ↓wL_cons, ↓wB_nil, ↓wB_cons, ↓wS_asg, ↓wS_sub, ↓wS_expr, ↓wS_ret, ↓wS_ite, ↓wI_ex, ↓wI_rng, ↓wI_zip, wV, wW, wO_some, o_int, i_add, i_sub, m_48271, m_69621, m_16807, m_2, m_7, r_1000, r_m31, r_26, f_1000, f_997, f_26, p_18, c_lt, c_gt, c_ge, c_str, t_bl, b_int, Bool.not_true, Bool.false_eq_true, if_false]
    exact ⟨_, _, rfl, hb'⟩
  · rintro σ H ⟨k, f, rfl, hb⟩
    refine ⟨rfl, ?_⟩
    simp only [↓wE_var, ↓wE_cst, ↓wE_glb, ↓wE_tup, ↓wE_lst, ↓wE_dnew, ↓wE_bin, ↓wE_cmp, ↓wE_not, ↓wE_or, ↓wE_and, ↓wE_idx, ↓wE_slc, ↓wE_omit, ↓wE_call, ↓wE_blt, ↓wE_isi, ↓wE_mth, ↓wL_nil, ↓wL_cons, ↓wB_nil, ↓wB_cons, ↓wS_asg, ↓wS_sub, ↓wS_expr, ↓wS_ret, ↓wS_ite, ↓wI_ex, ↓wI_rng, ↓wI_zip, wV, wW]
    refine ⟨by decide, ?_⟩
    refine wS_for (fun i σ H => ∃ k l, ∃ w : Fm, σ = [some (.ref s), some (.ref b), k, f, some w.d, l] ∧ w.lvs ≤ i + 1 ∧ w.dep ≤ i + 2 ∧ i ≤ 36) ?_
    simp only [↓wE_var, ↓wE_cst, ↓wE_glb, ↓wE_tup, ↓wE_lst, ↓wE_dnew, ↓wE_bin, ↓wE_cmp, ↓wE_not, ↓wE_or, ↓wE_and, ↓wE_idx, ↓wE_slc, ↓wE_omit, ↓wE_call, ↓wE_blt, ↓wE_isi, ↓wE_mth, ↓wL_nil, ↓wL_cons, ↓wB_nil, ↓wB_cons, ↓wS_asg, ↓wS_sub, ↓wS_expr, ↓wS_ret, ↓wS_ite, ↓wI_ex, ↓wI_rng, ↓wI_zip, wV, wW]
    refine run_draw hW hb (by omega) fun v H1 v0 v1 b1 kp1 => ?_
    simp only [↓wE_var, ↓wE_cst, ↓wE_glb, ↓wE_tup, ↓wE_lst, ↓wE_dnew, ↓wE_bin, ↓wE_cmp, ↓wE_not, ↓wE_or, ↓wE_and, ↓wE_idx, ↓wE_slc, ↓wE_omit, ↓wE_call, ↓wE_blt, ↓wE_isi, ↓wE_mth, ↓wL_nil, ↓wL_cons, ↓wB_nil, ↓wB_cons, ↓wS_asg, ↓wS_sub, ↓wS_expr, ↓wS_ret, ↓wS_ite, ↓wI_ex, ↓wI_rng, ↓wI_zip, wV, wW]
    obtain ⟨m, rfl⟩ : ∃ m : Nat, v = m := ⟨v.toNat, by omega⟩
    show wO (rngIt [.int (m : Nat)]) _
    rw [rng1 (by omega), wO_some]
    refine ⟨⟨k, none, .ltr "z9", rfl, by simp [Fm.lvs], by simp [Fm.dep], by omega⟩, ?_, ?_⟩
    · rintro i σ H hi ⟨k, l, w, rfl, hl, hd, _⟩
      refine ⟨_, rng_nx hi, ?_⟩
      simp only [It.len, List.length_map, List.length_range] at hi
      rw [← wW_eq]
      simp only [↓wE_var, ↓wE_cst, ↓wE_glb, ↓wE_tup, ↓wE_lst, ↓wE_dnew, ↓wE_bin, ↓wE_cmp, ↓wE_not, ↓wE_or, ↓wE_and, ↓wE_idx, ↓wE_slc, ↓wE_omit, ↓wE_call, ↓wE_blt, ↓wE_isi, ↓wE_mth, ↓wL_nil, ↓wL_cons, ↓wB_nil, ↓wB_cons, ↓wS_asg, ↓wS_sub, ↓wS_expr, ↓wS_ret, ↓wS_ite, ↓wI_ex, ↓wI_rng, ↓wI_zip, wV, wW, wO_some, o_int, i_add, i_sub, m_48271, m_69621, m_16807, m_2, m_7, r_1000, r_m31, r_26, f_1000, f_997, f_26, p_18, c_lt, c_gt, c_ge, c_str, t_bl, b_int]
      obtain ⟨f0, f1⟩ := fmod_nn i
      have hz : ((("zyxwvutsrqponmlkjihgfedcba" : Str).cps.size : Nat) : Int) = 26 := by decide
      obtain ⟨c, e⟩ := idx_1 (z := "zyxwvutsrqponmlkjihgfedcba") (v := (i : Int).fmod 26) (h := H) (by decide) f0 (by rw [hz]; exact f1)
      obtain ⟨g1, g2⟩ := str_small i (by omega)
      rw [e, wO_some]
      simp only [↓wE_var, ↓wE_cst, ↓wE_glb, ↓wE_tup, ↓wE_lst, ↓wE_dnew, ↓wE_bin, ↓wE_cmp, ↓wE_not, ↓wE_or, ↓wE_and, ↓wE_idx, ↓wE_slc, ↓wE_omit, ↓wE_call, ↓wE_blt, ↓wE_isi, ↓wE_mth, ↓wL_nil, ↓wL_cons, ↓wB_nil, ↓wB_cons, ↓wS_asg, ↓wS_sub, ↓wS_expr, ↓wS_ret, ↓wS_ite, ↓wI_ex, ↓wI_rng, ↓wI_zip, wV, wW, wO_some, o_int, i_add, i_sub, m_48271, m_69621, m_16807, m_2, m_7, r_1000, r_m31, r_26, f_1000, f_997, f_26, p_18, c_lt, c_gt, c_ge, c_str, t_bl, b_int, st_i g1]
      rw [add_s (by rw [show (one c).cps.size = 1 from rfl]; simp only [big]; omega), wO_some]
      refine ⟨by simp [big], by simp [big], by simp [big], ?_⟩
      exact ⟨_, _, .imp (.neg (.ltr _)) w, rfl, by simp only [Fm.lvs]; omega, by simp only [Fm.dep]; omega, by omega⟩
    · rintro σ H ⟨k, l, w, rfl, hl, hd, hi⟩
      refine ⟨rfl, ?_⟩
      simp only [↓wE_var, ↓wE_cst, ↓wE_glb, ↓wE_tup, ↓wE_lst, ↓wE_dnew, ↓wE_bin, ↓wE_cmp, ↓wE_not, ↓wE_or, ↓wE_and, ↓wE_idx, ↓wE_slc, ↓wE_omit, ↓wE_call, ↓wE_blt, ↓wE_isi, ↓wE_mth, ↓wL_nil, ↓wL_cons, ↓wB_nil, ↓wB_cons, ↓wS_asg, ↓wS_sub, ↓wS_expr, ↓wS_ret, ↓wS_ite, ↓wI_ex, ↓wI_rng, ↓wI_zip, wV, wW]
      refine wO_imp (run_both (ib := ib) (il := il) (iw := iw) (j := 48) (Q := fun r => r.1 = .bl true) hS hPu hO hN hR hPu2 hO2 hR2 w (by omega) (by omega) fun h' p' => rfl) fun r z => z
end
end MP
namespace K81
open PySem MP
def topS (i : Nat) : Stmt := PySem.Challenge.pw_proofabode_k81_letters_in_order.main.body.getD i (.Pass ⟨0, 0, 0, 0⟩)
def b0 : MSs := (.cons (.ite (.cmp .eq (.idx (.var 0) (.cst (.int 0))) (.cst (.str "letter"))) (.cons (.ret (.mth .get (.var 1) (.cons (.idx (.var 0) (.cst (.int 1))) (.cons (.var 0) .nil)))) .nil) .nil) (.cons (.ret (.bin .add (.tup (.cons (.idx (.var 0) (.cst (.int 0))) .nil)) (.comp .gtup [2] (.one (.nm 2) (.ex (.slc (.var 0) (.cst (.int 1)) .omit)) (.cst (.bl true)) (.call 0 (.cons (.var 2) (.cons (.var 1) .nil))) .omit)))) .nil))
def x0 : DefX := ⟨"put", topS 3, ["formula", "table", "part"], ["formula", "table"], ⟨2, 3, b0⟩⟩
def b1 : MSs := (.cons (.ite (.cmp .eq (.idx (.var 0) (.cst (.int 0))) (.cst (.str "letter"))) (.cons (.ret (.lst (.cons (.idx (.var 0) (.cst (.int 1))) .nil))) .nil) .nil) (.cons (.asg (.nm 1) (.lst .nil)) (.cons (.fr (.nm 2) (.ex (.slc (.var 0) (.cst (.int 1)) .omit)) (.cons (.expr (.mth .extend (.var 1) (.cons (.comp .lst [3] (.one (.nm 3) (.ex (.call 1 (.cons (.var 2) .nil))) (.cmp .nin (.var 3) (.var 1)) (.var 3) .omit)) .nil))) .nil)) (.cons (.ret (.var 1)) .nil))))
def x1 : DefX := ⟨"in_order", topS 5, ["formula", "found", "part", "name"], ["formula"], ⟨1, 4, b1⟩⟩
def b2 : MSs := (.cons (.asg (.nm 1) (.bin .add (.blt .list (.cons (.glb (.str "abcdefghijklmnopqrstuvwxyz")) .nil)) (.comp .lst [2, 3] (.more (.nm 2) (.ex (.glb (.str "0123456789"))) (.cst (.bl true)) [3] (.one (.nm 3) (.ex (.glb (.str "abcdefghijklmnopqrstuvwxyz"))) (.cst (.bl true)) (.bin .add (.var 3) (.var 2)) .omit))))) (.cons (.ret (.slc (.var 1) .omit (.var 0))) .nil))
def x2 : DefX := ⟨"new_names", topS 6, ["many", "names", "digit", "letter"], ["many"], ⟨1, 4, b2⟩⟩
def b3 : MSs := (.cons (.asg (.nm 1) (.call 1 (.cons (.var 0) .nil))) (.cons (.ret (.call 0 (.cons (.var 0) (.cons (.comp .dct [2, 3] (.one (.tp (.cons (.nm 2) (.cons (.nm 3) .nil))) (.zip (.var 1) (.call 2 (.cons (.blt .len (.cons (.var 1) .nil)) .nil))) (.cst (.bl true)) (.var 2) (.tup (.cons (.cst (.str "letter")) (.cons (.var 3) .nil))))) .nil)))) .nil))
def x3 : DefX := ⟨"renamed", topS 7, ["formula", "old", "name", "new"], ["formula"], ⟨1, 4, b3⟩⟩
def b4 : MSs := (.cons (.ite (.cmp .lt (.var 1) (.blt .len (.cons (.var 0) .nil))) (.cons (.ret (.idx (.var 0) (.var 1))) .nil) .nil) (.cons (.ret (.cst (.int 0))) .nil))
def x4 : DefX := ⟨"_law_cell", topS 9, ["script", "k"], ["script", "k"], ⟨2, 2, b4⟩⟩
def b5 : MSs := (.cons (.asg (.nm 3) (.lst .nil)) (.cons (.fr (.nm 4) (.rng (.cons (.var 1) (.cons (.var 2) .nil))) (.cons (.asg (.nm 5) (.call 4 (.cons (.var 0) (.cons (.var 4) .nil)))) (.cons (.ite (.cmp .lt (.var 5) (.cst (.int 0))) (.cons (.asg (.nm 5) (.bin .sub (.cst (.int 1)) (.bin .mul (.cst (.int 2)) (.var 5)))) .nil) .nil) (.cons (.ite (.cmp .ge (.var 5) (.bin .pow (.cst (.int 10)) (.cst (.int 18)))) (.cons (.fr (.nm 6) (.rng (.cons (.cst (.int 60)) .nil)) (.cons (.ite (.cmp .gt (.var 5) (.cst (.int 0))) (.cons (.expr (.mth .append (.var 3) (.cons (.bin .mod (.blt .int (.cons (.var 5) .nil)) (.cst (.int 1000))) .nil))) (.cons (.asg (.nm 5) (.bin .fdv (.var 5) (.cst (.int 1000)))) .nil)) .nil) .nil)) .nil) (.cons (.asg (.nm 7) (.bin .mod (.blt .int (.cons (.bin .add (.bin .add (.bin .mul (.var 5) (.cst (.int 48271))) (.bin .mul (.var 4) (.cst (.int 69621)))) (.cst (.int 11))) .nil)) (.cst (.int 2147483647)))) (.cons (.fr (.nm 6) (.rng (.cons (.cst (.int 12)) .nil)) (.cons (.asg (.nm 7) (.bin .mod (.blt .int (.cons (.bin .add (.bin .add (.bin .mul (.var 7) (.cst (.int 16807))) (.bin .mul (.cst (.int 7)) (.var 6))) (.cst (.int 1))) .nil)) (.cst (.int 2147483647)))) (.cons (.expr (.mth .append (.var 3) (.cons (.bin .mod (.blt .int (.cons (.bin .fdv (.var 7) (.cst (.int 997))) .nil)) (.cst (.int 1000))) .nil))) .nil))) .nil))) .nil)))) (.cons (.ret (.var 3)) .nil)))
def x5 : DefX := ⟨"_law_digits", topS 10, ["script", "first", "last", "digits", "k", "cell", "turn", "seed"], ["script", "first", "last"], ⟨3, 8, b5⟩⟩
def b6 : MSs := (.cons (.ret (.lst (.cons (.call 5 (.cons (.var 0) (.cons (.var 1) (.cons (.var 2) .nil)))) (.cons (.cst (.int 0)) .nil)))) .nil)
def x6 : DefX := ⟨"_law_box", topS 11, ["script", "first", "last"], ["script", "first", "last"], ⟨3, 3, b6⟩⟩
def b7 : MSs := (.cons (.asg (.nm 2) (.idx (.var 0) (.cst (.int 1)))) (.cons (.sub (.var 0) (.cst (.int 1)) (.bin .add (.var 2) (.cst (.int 1)))) (.cons (.ite (.cmp .lt (.var 2) (.blt .len (.cons (.idx (.var 0) (.cst (.int 0))) .nil))) (.cons (.ret (.bin .mod (.blt .int (.cons (.idx (.idx (.var 0) (.cst (.int 0))) (.var 2)) .nil)) (.var 1))) .nil) .nil) (.cons (.ret (.cst (.int 0))) .nil))))
def x7 : DefX := ⟨"_law_draw", topS 12, ["box", "many", "at"], ["box", "many"], ⟨2, 3, b7⟩⟩
def b8 : MSs := (.cons (.ite (.cmp .eq (.idx (.var 0) (.cst (.int 0))) (.cst (.str "letter"))) (.cons (.ret (.mth .get (.var 1) (.cons (.idx (.var 0) (.cst (.int 1))) (.cons (.var 0) .nil)))) .nil) .nil) (.cons (.ret (.bin .add (.tup (.cons (.idx (.var 0) (.cst (.int 0))) .nil)) (.blt .tuple (.cons (.comp .lst [2] (.one (.nm 2) (.ex (.slc (.var 0) (.cst (.int 1)) .omit)) (.cst (.bl true)) (.call 8 (.cons (.var 2) (.cons (.var 1) .nil))) .omit)) .nil)))) .nil))
def x8 : DefX := ⟨"_law_put", topS 13, ["formula", "table", "part"], ["formula", "table"], ⟨2, 3, b8⟩⟩
def b9 : MSs := (.cons (.asg (.nm 3) (.call 7 (.cons (.var 0) (.cons (.cst (.int 8)) .nil)))) (.cons (.ite (.or (.cmp .lt (.var 1) (.cst (.int 2))) (.cmp .lt (.var 3) (.cst (.int 2)))) (.cons (.ret (.tup (.cons (.cst (.str "letter")) (.cons (.idx (.cst (.str "abcdefgh")) (.call 7 (.cons (.var 0) (.cons (.var 2) .nil)))) .nil)))) .nil) .nil) (.cons (.ite (.or (.cmp .lt (.var 1) (.cst (.int 3))) (.cmp .lt (.var 3) (.cst (.int 4)))) (.cons (.ret (.tup (.cons (.cst (.str "not")) (.cons (.call 9 (.cons (.var 0) (.cons (.bin .sub (.var 1) (.cst (.int 1))) (.cons (.var 2) .nil)))) .nil)))) .nil) .nil) (.cons (.asg (.nm 4) (.bin .add (.cst (.int 1)) (.call 7 (.cons (.var 0) (.cons (.bin .sub (.var 1) (.cst (.int 2))) .nil))))) (.cons (.asg (.nm 5) (.call 9 (.cons (.var 0) (.cons (.var 4) (.cons (.var 2) .nil))))) (.cons (.ret (.tup (.cons (.cst (.str "if")) (.cons (.var 5) (.cons (.call 9 (.cons (.var 0) (.cons (.bin .sub (.bin .sub (.var 1) (.cst (.int 1))) (.var 4)) (.cons (.var 2) .nil)))) .nil))))) .nil))))))
def x9 : DefX := ⟨"_law_any", topS 14, ["box", "room", "many", "kind", "left", "first"], ["box", "room", "many"], ⟨3, 6, b9⟩⟩
def b10 : MSs := (.cons (.asg (.nm 3) (.lst (.cons (.cst (.str "a")) (.cons (.cst (.str "b")) (.cons (.cst (.str "z")) (.cons (.cst (.str "c7")) (.cons (.cst (.str "a0")) (.cons (.cst (.str "m9")) .nil)))))))) (.cons (.asg (.nm 4) .dnew) (.cons (.fr (.nm 5) (.ex (.lst (.cons (.cst (.str "a")) (.cons (.cst (.str "b")) (.cons (.cst (.str "c")) (.cons (.cst (.str "d")) (.cons (.cst (.str "e")) (.cons (.cst (.str "f")) (.cons (.cst (.str "g")) (.cons (.cst (.str "h")) .nil)))))))))) (.cons (.sub (.var 4) (.var 5) (.tup (.cons (.cst (.str "letter")) (.cons (.idx (.var 3) (.call 7 (.cons (.var 0) (.cons (.cst (.int 6)) .nil)))) .nil)))) .nil)) (.cons (.ret (.call 8 (.cons (.call 9 (.cons (.var 0) (.cons (.var 1) (.cons (.var 2) .nil)))) (.cons (.var 4) .nil)))) .nil))))
def x10 : DefX := ⟨"_law_lettered", topS 15, ["box", "room", "many", "names", "table", "name"], ["box", "room", "many"], ⟨3, 6, b10⟩⟩
def b11 : MSs := (.cons (.ite (.isi .tup (.var 1)) (.cons (.ite (.or (.not (.isi .tup (.var 0))) (.cmp .ne (.blt .len (.cons (.var 0) .nil)) (.blt .len (.cons (.var 1) .nil)))) (.cons (.ret (.cst (.bl false))) .nil) .nil) (.cons (.fr (.nm 2) (.rng (.cons (.blt .len (.cons (.var 1) .nil)) .nil)) (.cons (.ite (.not (.call 11 (.cons (.idx (.var 0) (.var 2)) (.cons (.idx (.var 1) (.var 2)) .nil)))) (.cons (.ret (.cst (.bl false))) .nil) .nil) .nil)) (.cons (.ret (.cst (.bl true))) .nil))) .nil) (.cons (.ite (.cmp .isN (.var 1) (.cst .non)) (.cons (.ret (.cmp .isN (.var 0) (.cst .non))) .nil) .nil) (.cons (.ite (.isi .bool (.var 1)) (.cons (.ret (.and (.isi .bool (.var 0)) (.cmp .eq (.var 0) (.var 1)))) .nil) .nil) (.cons (.ite (.isi .int (.var 1)) (.cons (.ret (.and (.isi .int (.var 0)) (.and (.not (.isi .bool (.var 0))) (.cmp .eq (.var 0) (.var 1))))) .nil) .nil) (.cons (.ret (.and (.isi .str (.var 0)) (.cmp .eq (.var 0) (.var 1)))) .nil)))))
def x11 : DefX := ⟨"_law_same", topS 16, ["actual", "expected", "k"], ["actual", "expected"], ⟨2, 3, b11⟩⟩
def b12 : MSs := (.cons (.ite (.cmp .eq (.idx (.var 0) (.cst (.int 0))) (.cst (.str "letter"))) (.cons (.ret (.lst (.cons (.idx (.var 0) (.cst (.int 1))) .nil))) .nil) .nil) (.cons (.asg (.nm 1) (.lst .nil)) (.cons (.fr (.nm 2) (.ex (.slc (.var 0) (.cst (.int 1)) .omit)) (.cons (.asg (.nm 1) (.bin .add (.var 1) (.comp .lst [3] (.one (.nm 3) (.ex (.call 12 (.cons (.var 2) .nil))) (.cmp .nin (.var 3) (.var 1)) (.var 3) .omit)))) .nil)) (.cons (.ret (.var 1)) .nil))))
def x12 : DefX := ⟨"_law_in_order", topS 17, ["formula", "found", "part", "name"], ["formula"], ⟨1, 4, b12⟩⟩
def b13 : MSs := (.cons (.asg (.nm 1) (.cst (.str "abcdefghijklmnopqrstuvwxyz"))) (.cons (.asg (.nm 2) .dnew) (.cons (.asg (.nm 3) (.call 12 (.cons (.var 0) .nil))) (.cons (.fr (.nm 4) (.rng (.cons (.blt .len (.cons (.var 3) .nil)) .nil)) (.cons (.asg (.nm 5) (.idx (.var 1) (.bin .mod (.blt .int (.cons (.var 4) .nil)) (.cst (.int 26))))) (.cons (.ite (.cmp .gt (.var 4) (.cst (.int 25))) (.cons (.asg (.nm 5) (.bin .add (.var 5) (.blt .str (.cons (.bin .sub (.bin .fdv (.var 4) (.cst (.int 26))) (.cst (.int 1))) .nil)))) .nil) .nil) (.cons (.sub (.var 2) (.idx (.var 3) (.var 4)) (.tup (.cons (.cst (.str "letter")) (.cons (.var 5) .nil)))) .nil)))) (.cons (.ret (.call 8 (.cons (.var 0) (.cons (.var 2) .nil)))) .nil)))))
def x13 : DefX := ⟨"_law_renamed", topS 18, ["formula", "letters", "table", "old", "k", "name"], ["formula"], ⟨1, 6, b13⟩⟩
def b14 : MSs := (.cons (.asg (.nm 1) (.call 6 (.cons (.var 0) (.cons (.cst (.int 0)) (.cons (.cst (.int 63)) .nil))))) (.cons (.fr (.nm 2) (.rng (.cons (.cst (.int 4)) .nil)) (.cons (.asg (.nm 3) (.call 10 (.cons (.var 1) (.cons (.cst (.int 40)) (.cons (.cst (.int 8)) .nil))))) (.cons (.ite (.not (.call 11 (.cons (.call 3 (.cons (.var 3) .nil)) (.cons (.call 13 (.cons (.var 3) .nil)) .nil)))) (.cons (.ret (.cst (.bl false))) .nil) .nil) .nil))) (.cons (.asg (.nm 4) (.tup (.cons (.cst (.str "letter")) (.cons (.cst (.str "z9")) .nil)))) (.cons (.fr (.nm 2) (.rng (.cons (.call 7 (.cons (.var 1) (.cons (.cst (.int 36)) .nil))) .nil)) (.cons (.asg (.nm 5) (.idx (.cst (.str "zyxwvutsrqponmlkjihgfedcba")) (.bin .mod (.blt .int (.cons (.var 2) .nil)) (.cst (.int 26))))) (.cons (.asg (.nm 4) (.tup (.cons (.cst (.str "if")) (.cons (.tup (.cons (.cst (.str "not")) (.cons (.tup (.cons (.cst (.str "letter")) (.cons (.bin .add (.var 5) (.blt .str (.cons (.bin .fdv (.var 2) (.cst (.int 26))) .nil))) .nil))) .nil))) (.cons (.var 4) .nil))))) .nil))) (.cons (.ret (.call 11 (.cons (.call 3 (.cons (.var 4) .nil)) (.cons (.call 13 (.cons (.var 4) .nil)) .nil)))) .nil)))))
def x14 : DefX := ⟨"law", topS 19, ["script", "box", "k", "formula", "wide", "letter"], ["script"], ⟨1, 6, b14⟩⟩
def ds : List DefX := [x0, x1, x2, x3, x4, x5, x6, x7, x8, x9, x10, x11, x12, x13, x14]
def gi : GI := ⟨[("SMALL", (.str "abcdefghijklmnopqrstuvwxyz")), ("DIGITS", (.str "0123456789"))], [("put", 2), ("in_order", 1), ("new_names", 1), ("renamed", 1), ("_law_cell", 2), ("_law_digits", 3), ("_law_box", 3), ("_law_draw", 2), ("_law_put", 2), ("_law_any", 3), ("_law_lettered", 3), ("_law_same", 2), ("_law_in_order", 1), ("_law_renamed", 1), ("law", 1)], ["bool", "int", "isinstance", "len", "list", "range", "str", "tuple", "zip"]⟩
end K81
namespace K81
open PySem MP
theorem law_true (ns : List Int) (o : HB) (_ : ns.length ≤ 63) (_ : ∀ z ∈ ns, PySem.Builtin.Int.intBits z ≤ 1048576) (ho : o = .lst (ns.map .int) ∨ o = .rol (ns.map .int)) : ∃ h', callI (ds.map (·.d)) 5000 109 14 [.ref 0] [o] = some (.bl true, h') := by
  have hs : LA [o] 0 (ns.map .int) := by
    rcases ho with e | e
    · exact .inl (by rw [e]; rfl)
    · exact .inr (by rw [e]; rfl)
  obtain ⟨⟨r, h'⟩, e, er⟩ := run_law81 (P := ds.map (·.d)) (wf := 5000) (is := 11) (ip := 0) (io := 1) (iN := 2) (ir := 3) (il2 := 8) (io2 := 12) (iq := 13) (ic := 4) (id := 5) (ib := 6) (iw := 7) (ia := 9) (il := 10) (il0 := 14) (s := 0) (h := [o]) rfl rfl rfl rfl rfl rfl rfl rfl rfl rfl rfl rfl rfl rfl rfl hs
  have er : r = .bl true := er
  subst er
  exact ⟨h', e⟩
end K81
namespace K81
open PySem MP
theorem checked : ∀ x ∈ ds, chkD gi x = true := by
  have : ds.all (chkD gi) = true := by decide +kernel
  exact List.all_eq_true.mp this
theorem bound : ∀ y ∈ ds, ∀ (kV doc pm : Value) (an : Option Addr) (cdv ct : Value) (us : List Value), us.length = y.ps.length →
    bindArgs (PySem.W.fnOf y.nm y.nm (L2.defArgs y.st) (L2.defBody y.st) (L2.defScope y.st) .none kV doc pm an cdv ct) ⟨us, []⟩ = pure (y.ps.zip us) := by
  intro y hy kV doc pm an cdv ct us hl
  simp only [ds, List.mem_cons, List.not_mem_nil, or_false] at hy
  rcases hy with rfl | rfl | rfl | rfl | rfl | rfl | rfl | rfl | rfl | rfl | rfl | rfl | rfl | rfl | rfl
  · exact (match us, hl with | [_, _], _ => rfl)
  · exact (match us, hl with | [_], _ => rfl)
  · exact (match us, hl with | [_], _ => rfl)
  · exact (match us, hl with | [_], _ => rfl)
  · exact (match us, hl with | [_, _], _ => rfl)
  · exact (match us, hl with | [_, _, _], _ => rfl)
  · exact (match us, hl with | [_, _, _], _ => rfl)
  · exact (match us, hl with | [_, _], _ => rfl)
  · exact (match us, hl with | [_, _], _ => rfl)
  · exact (match us, hl with | [_, _, _], _ => rfl)
  · exact (match us, hl with | [_, _, _], _ => rfl)
  · exact (match us, hl with | [_, _], _ => rfl)
  · exact (match us, hl with | [_], _ => rfl)
  · exact (match us, hl with | [_], _ => rfl)
  · exact (match us, hl with | [_], _ => rfl)
end K81
open PySem PySem.W PyProof.Rows
set_option maxHeartbeats 0 in
theorem PySem.Challenge.cw_proofabode_k81_letters_in_order_holds : PySem.Challenge.rw_proofabode_k81_letters_in_order.Holds := by
  w_on; o_law; k_head; (case hw => w_witness2)
  k_fill
  refine MP.walk_all (l := PySem.Challenge.rw_proofabode_k81_letters_in_order) (n := 63) (k := MP.Lv 109) (x := "script") rfl (by decide) rfl ⟨rfl, by decide, by decide⟩ (fun w h Y => PySem.W.kIn_of Y) ?F
  case F =>
    intro w mg fa h Y KX G hmg TB
    refine MP.law_at (G := K81.gi) (ds := K81.ds) (wf := 5000) (fl := 14) KX G hmg TB rfl K81.checked ?D (MP.gl_ok KX G ?gl ?bn) (by decide +kernel) K81.bound rfl rfl rfl K81.law_true
    case gl =>
      intro p hp
      simp only [K81.gi, List.mem_cons, List.not_mem_nil, or_false] at hp
      rcases hp with rfl | rfl
      · refine' MP.GlD.str ?e
        (case e => k_is)
      · refine' MP.GlD.str ?e
        (case e => k_is)
    case bn =>
      intro x hx
      simp only [K81.gi, List.mem_cons, List.not_mem_nil, or_false] at hx
      rcases hx with rfl | rfl | rfl | rfl | rfl | rfl | rfl | rfl | rfl
      all_goals k_is
    case D =>
      refine MP.kd_cons ?d0 (MP.kd_cons ?d1 (MP.kd_cons ?d2 (MP.kd_cons ?d3 (MP.kd_cons ?d4 (MP.kd_cons ?d5 (MP.kd_cons ?d6 (MP.kd_cons ?d7 (MP.kd_cons ?d8 (MP.kd_cons ?d9 (MP.kd_cons ?d10 (MP.kd_cons ?d11 (MP.kd_cons ?d12 (MP.kd_cons ?d13 (MP.kd_cons ?d14 (MP.kd_nil KX)))))))))))))))
      case d0 =>
        refine' MP.kd_mk KX ?a ?l ?h1 ?k1 ?t1 ?t2 ?n1
        (case a => k_is); (case l => k_is); (case h1 => k_is); (case k1 => k_is); (case t1 => k_is); (case t2 => rfl); (case n1 => rfl)
      case d1 =>
        refine' MP.kd_mk KX ?a ?l ?h1 ?k1 ?t1 ?t2 ?n1
        (case a => k_is); (case l => k_is); (case h1 => k_is); (case k1 => k_is); (case t1 => k_is); (case t2 => rfl); (case n1 => rfl)
      case d2 =>
        refine' MP.kd_mk KX ?a ?l ?h1 ?k1 ?t1 ?t2 ?n1
        (case a => k_is); (case l => k_is); (case h1 => k_is); (case k1 => k_is); (case t1 => k_is); (case t2 => rfl); (case n1 => rfl)
      case d3 =>
        refine' MP.kd_mk KX ?a ?l ?h1 ?k1 ?t1 ?t2 ?n1
        (case a => k_is); (case l => k_is); (case h1 => k_is); (case k1 => k_is); (case t1 => k_is); (case t2 => rfl); (case n1 => rfl)
      case d4 =>
        refine' MP.kd_mk KX ?a ?l ?h1 ?k1 ?t1 ?t2 ?n1
        (case a => k_is); (case l => k_is); (case h1 => k_is); (case k1 => k_is); (case t1 => k_is); (case t2 => rfl); (case n1 => rfl)
      case d5 =>
        refine' MP.kd_mk KX ?a ?l ?h1 ?k1 ?t1 ?t2 ?n1
        (case a => k_is); (case l => k_is); (case h1 => k_is); (case k1 => k_is); (case t1 => k_is); (case t2 => rfl); (case n1 => rfl)
      case d6 =>
        refine' MP.kd_mk KX ?a ?l ?h1 ?k1 ?t1 ?t2 ?n1
        (case a => k_is); (case l => k_is); (case h1 => k_is); (case k1 => k_is); (case t1 => k_is); (case t2 => rfl); (case n1 => rfl)
      case d7 =>
        refine' MP.kd_mk KX ?a ?l ?h1 ?k1 ?t1 ?t2 ?n1
        (case a => k_is); (case l => k_is); (case h1 => k_is); (case k1 => k_is); (case t1 => k_is); (case t2 => rfl); (case n1 => rfl)
      case d8 =>
        refine' MP.kd_mk KX ?a ?l ?h1 ?k1 ?t1 ?t2 ?n1
        (case a => k_is); (case l => k_is); (case h1 => k_is); (case k1 => k_is); (case t1 => k_is); (case t2 => rfl); (case n1 => rfl)
      case d9 =>
        refine' MP.kd_mk KX ?a ?l ?h1 ?k1 ?t1 ?t2 ?n1
        (case a => k_is); (case l => k_is); (case h1 => k_is); (case k1 => k_is); (case t1 => k_is); (case t2 => rfl); (case n1 => rfl)
      case d10 =>
        refine' MP.kd_mk KX ?a ?l ?h1 ?k1 ?t1 ?t2 ?n1
        (case a => k_is); (case l => k_is); (case h1 => k_is); (case k1 => k_is); (case t1 => k_is); (case t2 => rfl); (case n1 => rfl)
      case d11 =>
        refine' MP.kd_mk KX ?a ?l ?h1 ?k1 ?t1 ?t2 ?n1
        (case a => k_is); (case l => k_is); (case h1 => k_is); (case k1 => k_is); (case t1 => k_is); (case t2 => rfl); (case n1 => rfl)
      case d12 =>
        refine' MP.kd_mk KX ?a ?l ?h1 ?k1 ?t1 ?t2 ?n1
        (case a => k_is); (case l => k_is); (case h1 => k_is); (case k1 => k_is); (case t1 => k_is); (case t2 => rfl); (case n1 => rfl)
      case d13 =>
        refine' MP.kd_mk KX ?a ?l ?h1 ?k1 ?t1 ?t2 ?n1
        (case a => k_is); (case l => k_is); (case h1 => k_is); (case k1 => k_is); (case t1 => k_is); (case t2 => rfl); (case n1 => rfl)
      case d14 =>
        refine' MP.kd_mk KX ?a ?l ?h1 ?k1 ?t1 ?t2 ?n1
        (case a => k_is); (case l => k_is); (case h1 => k_is); (case k1 => k_is); (case t1 => k_is); (case t2 => rfl); (case n1 => rfl)
