import PyProof.Rows.All
import PySem.Challenge.RW_proofabode_k63_the_first_table
import HandS.ForMost
import HandS.AnyAll
import HandS.GenOver
import PySem.Str
import HandS.More
import HandS.DictComp
import HandS.Zip
import HandS.Flow
import HandS.IsInst
import HandS.Walk
import KE.DataEq
import HandS.TupAny
import HandS.Small
import HandS.Text
import HandS.WordsDict
import PyProof.ListStr
import HandS.TupSets
import HandS.Set
import HandS.Strs
import HandS.SetFor
import PyProof.DictUpdate
import HandS.SetBool
import HandS.Iter
import HandS.Style
import HandS.Conv
import HandS.Exc
import HandS.EndTab
import HandS.EndOwn
set_option Elab.async false
set_option linter.all false
set_option maxRecDepth 100000
set_option maxHeartbeats 4000000
namespace MP
open PySem PySem.Spec PyProof.Rows L2
structure Eater (κ : Type) where
  SS : List Addr
  shows : κ → List (Addr × Obj) → Prop
  inj : ∀ {a b l}, shows a l → shows b l → a = b
  ad : ∀ {a l}, shows a l → l.map (·.1) = SS
  nc : ∀ {a l}, shows a l → ∀ p ∈ l, ∀ v, p.2.data ≠ .cell v
def Here (l : List (Addr × Obj)) (h : Heap) : Prop := ∀ p ∈ l, h.get? p.1 = some p.2
theorem here_eq {h : Heap} : ∀ {l k : List (Addr × Obj)}, l.map (·.1) = k.map (·.1) → Here l h → Here k h → l = k
  | [], [], _, _, _ => rfl
  | [], _ :: _, e, _, _ => by simp at e
  | _ :: _, [], e, _, _ => by simp at e
  | p :: l, q :: k, e, hl, hk => by
    simp only [List.map_cons, List.cons.injEq] at e
    have e1 := hl p List.mem_cons_self
    have e2 := hk q List.mem_cons_self
    rw [e.1] at e1
    have e3 : p.2 = q.2 := Option.some.inj (e1.symm.trans e2)
    rw [here_eq e.2 (fun r hr => hl r (List.mem_cons_of_mem _ hr)) (fun r hr => hk r (List.mem_cons_of_mem _ hr)), Prod.ext e.1 e3]
abbrev gcx (X : Cx) (A : Around) (s : Shared) (H : Hp) (scope : Scope) (cenv : Env) (fp : List Addr) (a : Addr) (og : Obj) : Cx :=
  { X with A := A, s_0 := s, H_0 := H, env := cenv, outer := X.stack, stack := cenv :: X.stack, ex := fp, fn := fun x => scope.names.lookup x == some .cell, pn := [(a, og)], xe := fun _ _ => False }
structure Slp (SS : List Addr) (l : List (Addr × Obj)) (s s' : Shared) : Prop where
  os : s'.os = s.os
  bare : AllBare s'.gens
  keep : ∀ b o, b ∉ SS → s.heap.get? b = some o → s'.heap.get? b = some o
  here : Here l s'.heap
section
variable {X : Cx} {σ : L2.St} {H : Hp} {s s' : Shared} {SS : List Addr} {l l' ip : List (Addr × Obj)}
structure Aloof (X : Cx) (SS : List Addr) : Prop where
  young : ∀ b ∈ SS, X.s_0.heap.objs.size ≤ b
  loc : ∀ b ∈ SS, b ≠ X.env.locals
  cell : ∀ b ∈ SS, ∀ x c, X.env.cells.lookup x = some c → c ≠ b
  pn : ∀ b ∈ SS, ∀ p ∈ X.pn, p.1 ≠ b
theorem inv_slept (I : Inv X (l ++ ip) σ H s) (e : l.map (·.1) = SS) (e' : l'.map (·.1) = SS) (nc : ∀ p ∈ l', ∀ v, p.2.data ≠ .cell v) (hA : Aloof X SS) (hip : ∀ p ∈ ip, p.1 ∉ SS) (z : Slp SS l' s s') : Inv X (l' ++ ip) σ H s' := by
  have free : ∀ b ∈ SS, H b = none ∧ b ∉ X.fs := fun b hb => by
    rw [← e] at hb
    obtain ⟨p, hp, rfl⟩ := List.mem_map.mp hb
    obtain ⟨_, n, _, nf, _⟩ := I.pin p (List.mem_append_right _ (List.mem_append_left _ hp))
    exact ⟨n, nf⟩
  have I0 : Inv X ip σ H s := I.pins_of fun p hp => I.pin p (List.mem_append_right _ (List.mem_append_right _ hp))
  have nt : ∀ b u, H b = some u → b ∉ SS := fun b u q hb => by
    rw [(free b hb).1] at q
    cases q
  obtain ⟨z1, z2, z3, z4⟩ := z
  obtain ⟨hh, g, d, t, o⟩ := s'
  have ho : o = s.os := z1
  subst ho
  have J : Inv X ip σ H { s with heap := hh, gens := g, drawn := d, toks := t } := by
    refine I0.step (g' := g) (t' := t) (d' := d) (ch := SS) (fun b hb => ⟨.inr (hA.young b hb), hA.loc b hb, hA.cell b hb, fun p hp => ?_⟩) (fun b ob _ _ hc q _ => z3 b ob hc q) (fun b ob _ _ hc q _ => ⟨ob.slots, z3 b ob hc q⟩)
      (fun _ _ _ _ n => n) (fun b ob hc q => ⟨ob, z3 b ob hc q⟩) (fun _ _ q => q) (fun _ _ _ q => q) (fun b ps q => ⟨#[], by rw [q]; simp⟩) (fun m hm => ?_) (fun b u q => ?_) z2
    · rcases List.mem_append.mp hp with hp | hp
      · exact hA.pn b hb p hp
      · exact fun z => hip p hp (z ▸ hb)
    · obtain ⟨ob, es, ep, q, r⟩ := hm
      exact ⟨ob, es, ep, z3 _ ob (fun y => hA.loc _ y rfl) q, r⟩
    · refine (I0.hok b u q).stay (fun c v hc y => z3 c v ?_ y) (fun _ y => y) fun _ _ y => y
      rcases hc with y | y
      · rw [y]; exact nt b u q
      · exact nt c _ y
  refine J.pins_of fun p hp => ?_
  rcases List.mem_append.mp hp with hp | hp
  · have hm : p.1 ∈ SS := by rw [← e']; exact List.mem_map.mpr ⟨p, hp, rfl⟩
    exact ⟨z4 p hp, (free _ hm).1, hA.loc _ hm, (free _ hm).2, nc p hp⟩
  · exact J.pin p (List.mem_append_right _ hp)
theorem inv_more {pins : List (Addr × Obj)} {g' : Array GenState} {h' : Heap} {t' : Nat} (I : Inv X pins σ H s) (k : ∀ b o, s.heap.get? b = some o → h'.get? b = some o) (hg : AllBare g') : Inv X pins σ H { s with heap := h', gens := g', toks := t' } := by
  refine I.step (g' := g') (d' := s.drawn) (ch := []) (fun _ z => nomatch z) (fun b o _ _ _ e _ => k b o e) (fun b o _ _ _ e _ => ⟨o.slots, k b o e⟩) (fun _ _ _ _ n => n) (fun b o _ e => ⟨o, k b o e⟩) (fun _ _ q => q) (fun _ _ _ q => q) (fun b ps q => ⟨#[], by rw [q]; simp⟩)
    (fun m hm => ?_) (I.hok.kept k) hg
  obtain ⟨o, es, ep, ho, r⟩ := hm
  exact ⟨o, es, ep, k _ o ho, r⟩
end
abbrev TEm (κ : Type) := κ → V → Hp → (κ → Hp → Prop) → Prop
section
variable {κ : Type}
def REnd (X : Cx) (ea : Eater κ) (Fin : κ → Hp → Prop) : GenEnd := fun _ s₀ r s1 => r = .ok .next ∧ ∃ k l H ip σ, ea.shows k l ∧ Here l s₀.heap ∧ Inv X (l ++ ip) σ H s1 ∧ Fin k H
def YOut (X : Cx) (ea : Eater κ) (Em : TEm κ) : Protocol := fun _ s₀ v s kap => ∃ y k l H ip σ Nx, ea.shows k l ∧ Here l s₀.heap ∧ Inv X (l ++ ip) σ H s ∧ RelV y v ∧ Em k y H Nx ∧
  ∀ s'' k' l', Slp ea.SS l' s s'' → ea.shows k' l' → Nx k' H → kap (.send .none) s''
def GLoop (J : It) (g : TG) (tt : TT) (te : TE) (vs : List Nat) (σ : L2.St) (Em : TEm κ) (Fin : κ → Hp → Prop) (k0 : κ) (H0 : Hp) : Prop :=
  ∃ W : Nat → Nat → κ → Hp → Prop, (∃ m, W 0 m k0 H0) ∧ ∀ i m k H, W i m k H → (J.stop i H ∧ Fin k H) ∨ (J.go i H ∧ ∃ Nx : κ → Hp → Prop, (∀ k' H', Nx k' H' → ∃ m', m' < m ∧ W (i + 1) m' k' H') ∧
    ∀ x H', J.yld i H x H' → g x (wipe σ vs) H' fun σ2 H2 => wipe σ2 vs = wipe σ vs ∧ tt σ2 H2 fun b H3 => if b = true then te σ2 H3 fun y H4 => Em k y H4 Nx else Nx k H3)
end
theorem seg_false {M : Model} {A : Around} {R : GenEnd} {Y : Protocol} {n : Nat} {s₀ : Shared} {c : Code} {t : Sem PySem.Fin} {fs : List Frame} {s : Shared} (h : False) : Seg M A R Y n s₀ c t fs s := h.elim
section
variable {κ : Type} {X : Cx} {A : Around} {ea : Eater κ} {Em : TEm κ} {Fin : κ → Hp → Prop}
theorem seg_loop {elt tg iter : Expr} {ifs : List Expr} {scope : Scope} {pos : Pos} {it : Addr} {fp vs : List Addr} {tn : Nat → Heap → Prop} {J : It} {g : TG} {tt : TT} {te : TE} {σ : L2.St} {W : Nat → Nat → κ → Hp → Prop}
    (hXA : A.over (.compLoop (.GeneratorExp elt [⟨tg, iter, ifs, 0⟩] scope pos) 0 (.ref it) .none X.env) [] = X.A) (hcalm : X.calm = true) (hxe : X.xe = fun _ _ => False) (hex : X.ex = fp) (hco : X.env.scope.isCoroutine = false)
    (T : Turn X.prog X.w X.K tg J fp it tn) (hal : Aloof X ea.SS) (hfS : ∀ b ∈ fp, b ∉ ea.SS) (hfp : ∀ b ∈ fp, ∀ p ∈ X.pn, p.1 ≠ b) (pg : PG X tg g) (pt : PTs X ifs tt) (pe : PE X elt te)
    (turn : ∀ i m k H, W i m k H → (J.stop i H ∧ Fin k H) ∨ (J.go i H ∧ ∃ Nx : κ → Hp → Prop, (∀ k' H', Nx k' H' → ∃ m', m' < m ∧ W (i + 1) m' k' H') ∧
      ∀ x H', J.yld i H x H' → g x (wipe σ vs) H' fun σ2 H2 => wipe σ2 vs = wipe σ vs ∧ tt σ2 H2 fun b H3 => if b = true then te σ2 H3 fun y H4 => Em k y H4 Nx else Nx k H3)) :
    ∀ (m n i : Nat) (s₀ s : Shared) (k : κ) (l : List (Addr × Obj)) (H : Hp), m < n → ea.shows k l → Here l s₀.heap → Inv X l (wipe σ vs) H s → tn i s.heap → (∀ b ∈ fp, H b = none) → W i m k H →
      Seg (model X.prog X.w) A (REnd X ea Fin) (YOut X ea Em) n s₀ (.compLoop (.GeneratorExp elt [⟨tg, iter, ifs, 0⟩] scope pos) 0 (.ref it) .none X.env)
        ((model X.prog X.w).den (.compLoop (.GeneratorExp elt [⟨tg, iter, ifs, 0⟩] scope pos) 0 (.ref it) .none X.env)) [] s := by
  have stat : ∀ {σ' : L2.St} {H' : Hp} {s' : Shared} {l : List (Addr × Obj)}, l.map (·.1) = ea.SS → Inv X l σ' H' s' → (∀ b ∈ fp, H' b = none) → ∀ b ∈ fp, FpOk X l H' b := fun {σ' H' s' l} el I' hn b hb => by
    have hb' : b ∈ X.ex := by rw [hex]; exact hb
    refine ⟨hn b hb, (I'.ok.exf b hb').1, I'.ok.exfs b hb', .inl hb', fun x c e => (I'.ok.exf b hb').2 x c e, fun p hp z => ?_⟩
    rcases List.mem_append.mp hp with hp | hp
    · exact hfp b hb p hp z
    · exact hfS b hb (by rw [← el, ← z]; exact List.mem_map.mpr ⟨p, hp, rfl⟩)
  intro m
  induction m using Nat.strongRecOn with
  | ind m ih =>
  intro n i s₀ s k l H hmn hsh hl0 I st nf w
  have el := ea.ad hsh
  show Seg _ A _ _ n s₀ _ ((compTurn (.GeneratorExp elt [⟨tg, iter, ifs, 0⟩] scope pos) 0 (.ref it) .none X.env).onRaise (leaving X.env)) [] s
  rw [compTurn_gen, Sem.onRaise_eq_wrap]
  refine seg_bind_wrap (wpAny_standAt ?_)
  rcases turn i m k H w with ⟨stop, fin⟩ | ⟨go, Nx, hNx, step⟩
  · refine seg_bind_wrap ?_
    rw [hXA]
    refine wpAny_mono (T.done X rfl rfl rfl hcalm i l s _ H (fun _ _ => False) I (stat el I nf) st stop) (fun r s1 ⟨hr, I1⟩ => ?_) fun _ _ z => seg_false z
    subst hr
    exact seg_end (.ok .next) ⟨rfl, k, l, H, [], _, hsh, hl0, by rw [List.append_nil]; exact I1, fin⟩
  · refine seg_bind_wrap ?_
    rw [hXA]
    refine wpAny_mono (T.item X rfl rfl rfl hcalm i l s _ H (fun _ _ => False) I (stat el I nf) st go) (fun r s1 ⟨u, hr, h1⟩ => ?_) fun _ _ z => seg_false z
    subst hr
    refine seg_bind_wrap ?_
    rw [hXA]
    refine wpAny_mono h1 (fun _ s2 ⟨x, H2, I2, r2, y2, st2, nf2⟩ => ?_) fun _ _ z => seg_false z
    have I2' := I2.pinned (stat el I2 nf2) (T.obj _ _ st2)
    refine seg_bind_wrap ?_
    rw [hXA]
    have pgr := pg.run _ s2 _ H2 x u _ I2' r2 (step x H2 y2)
    rw [hxe] at pgr
    refine wpAny_mono pgr (fun _ s3 ⟨σ3, H3, I3, hw3, q3⟩ => ?_) fun _ _ z => seg_false z
    refine seg_bind_wrap ?_
    rw [hXA]
    have ptr := pt.run _ s3 σ3 H3 _ I3 q3
    rw [hxe] at ptr
    refine wpAny_mono ptr (fun b s4 ⟨H4, I4, q4⟩ => ?_) fun _ _ z => seg_false z
    have again : ∀ {n' : Nat} {s₀' s' : Shared} {k' : κ} {l' : List (Addr × Obj)} {H' : Hp}, (∀ p ∈ l', ∀ v, p.2.data ≠ .cell v) → ea.shows k' l' → Here l' s₀'.heap → Inv X (l' ++ pinsAt fp s2.heap) σ3 H' s' → Nx k' H' → m ≤ n' →
        Seg (model X.prog X.w) A (REnd X ea Fin) (YOut X ea Em) n' s₀' (.compLoop (.GeneratorExp elt [⟨tg, iter, ifs, 0⟩] scope pos) 0 (.ref it) .none X.env)
          (.pure (.again (.compLoop (.GeneratorExp elt [⟨tg, iter, ifs, 0⟩] scope pos) 0 (.ref it) .none X.env))) [] s' := fun {n' s₀' s' k' l' H'} nc sh' hl' I' nx hn => by
      obtain ⟨m', hm, w'⟩ := hNx k' H' nx
      have pin' : ∀ b ∈ fp, ∀ o, s2.heap.get? b = some o → s'.heap.get? b = some o ∧ H' b = none := fun b hb o e =>
        let z := I'.pin (b, o) (List.mem_append_right _ (List.mem_append_right _ (mem_pinsAt hb e)))
        ⟨z.1, z.2.1⟩
      have hlen : (wipe σ vs).length = σ3.length := by rw [← hw3, wipe_length]
      refine seg_again rfl (ih m' hm n' (i + 1) s₀' s' k' l' H' (by omega) sh' hl' (I'.unpinned.weak hlen fun j v e => ?_) (T.keep _ _ _ st2 fun b hb o e => (pin' b hb o e).1) (fun b hb => ?_) w')
      · rw [← hw3] at e
        exact (wipe_some e).1
      · obtain ⟨o, e, _⟩ := T.obj _ _ st2 b hb
        exact (pin' b hb o e).2
    cases b with
    | false =>
      simp only [Bool.false_eq_true, if_false] at q4 ⊢
      exact again (ea.nc hsh) hsh hl0 I4 q4 (by omega)
    | true =>
      simp only [if_true] at q4 ⊢
      have hy : ∀ v, yieldOut X.env v = yieldValue v := fun v => by simp only [yieldOut, hco, Bool.false_eq_true, if_false]
      simp only [hy]
      rw [Sem.bind_eq_wrap', Sem.bind_eq_wrap', Sem.wrap_wrap, Sem.wrap_wrap]
      have per := pe.run _ s4 σ3 H4 _ I4 q4
      rw [hxe] at per
      refine seg_wrap ?_
      rw [hXA]
      refine wpAny_mono per (fun v s5 ⟨y, H5, I5, r5, em⟩ => ?_) fun _ _ z => seg_false z
      obtain ⟨n, rfl⟩ : ∃ j, n = j + 1 := ⟨n - 1, by omega⟩
      refine seg_at (seg_yield rfl rfl rfl ?_)
      refine ⟨y, k, l, H5, pinsAt fp s2.heap, σ3, Nx, hsh, hl0, I5, r5, em, fun s'' k' l' z sh' nx => ?_⟩
      have I6 := inv_slept I5 el (ea.ad sh') (ea.nc sh') hal (fun p hp => hfS _ (of_pinsAt hp).1) z
      exact again (ea.nc sh') sh' z.here I6 nx (by omega)
end
end MP
namespace MP
open PySem PySem.Spec PyProof.Rows L2
section
variable {κ : Type} {X : Cx} {A : Around} {ea : Eater κ} {Em : TEm κ} {Fin : κ → Hp → Prop}
theorem seg_begin {elt tg iter : Expr} {ifs : List Expr} {rest : List Comprehension} {scope : Scope} {pos : Pos} {it : Addr} {fp : List Addr} {tn : Nat → Heap → Prop} {J : It} {n : Nat} {s₀ s : Shared}
    (T : Turn X.prog X.w X.K tg J fp it tn) (st : tn 0 s.heap)
    (loop : Seg (model X.prog X.w) A (REnd X ea Fin) (YOut X ea Em) n s₀ (.compLoop (.GeneratorExp elt (⟨tg, iter, ifs, 0⟩ :: rest) scope pos) 0 (.ref it) .none X.env)
        ((model X.prog X.w).den (.compLoop (.GeneratorExp elt (⟨tg, iter, ifs, 0⟩ :: rest) scope pos) 0 (.ref it) .none X.env)) [] s) :
    Seg (model X.prog X.w) A (REnd X ea Fin) (YOut X ea Em) n s₀ (.compStart (.GeneratorExp elt (⟨tg, iter, ifs, 0⟩ :: rest) scope pos) 0 (.ref it) .none X.env)
        ((model X.prog X.w).den (.compStart (.GeneratorExp elt (⟨tg, iter, ifs, 0⟩ :: rest) scope pos) 0 (.ref it) .none X.env)) [] s := by
  show Seg _ A _ _ n s₀ _ ((compStart (.GeneratorExp elt (⟨tg, iter, ifs, 0⟩ :: rest) scope pos) 0 (.ref it) .none X.env).onRaise (leaving X.env)) [] s
  unfold compStart
  rw [Sem.onRaise_eq_wrap]
  show Seg _ A _ _ n s₀ _ ((ask >>= _).wrap _ _ _ _) [] s
  refine seg_bind_wrap (wpAny_askSetting ?_)
  split
  · exact seg_again rfl loop
  · refine seg_bind_wrap (wpAny_rule ?_)
    show Seg _ A _ _ n s₀ _ ((standAt iter.pos >>= _).wrap _ _ _ _) [] s
    exact seg_bind_wrap (wpAny_standAt (seg_bind_wrap (T.self _ 0 s _ _ st (seg_again rfl loop))))
structure GReady (X : Cx) (A : Around) (ea : Eater κ) (Em : TEm κ) (Fin : κ → Hp → Prop) (a : Addr) (g n : Nat) (k : κ) (l : List (Addr × Obj)) (s : Shared) : Prop where
  gen : s.heap.IsGen a g
  lim : s.heap.NoLimit
  sh : ea.shows k l
  here : Here l s.heap
  go : ∃ gs, s.gens[g]? = some gs ∧ gs.Goes (model X.prog X.w) A.in1 (REnd X ea Fin) (YOut X ea Em) n (.send .none) (s.setGen g .running)
theorem allBare_set {s : Shared} {g : Nat} {x : GenState} (h : AllBare s.gens) (hx : x.bare = true) : AllBare (s.setGen g x).gens := by
  intro y hy
  have hy' : y ∈ s.gens.setIfInBounds g x := hy
  obtain ⟨i, hi, rfl⟩ := Array.mem_iff_getElem.mp hy'
  rw [Array.getElem_setIfInBounds (by simpa using hi)]
  split
  · exact hx
  · exact h _ (Array.getElem_mem (by simpa using hi))
theorem setGen_at {s : Shared} {g : Nat} {x : GenState} (h : g < s.gens.size) : (s.setGen g x).gens[g]? = some x := by simp [Shared.setGen, h]
theorem setGen_sz (s : Shared) (g : Nat) (x : GenState) : (s.setGen g x).gens.size = s.gens.size := by simp [Shared.setGen]
theorem lim_slept {s s' : Shared} {SS : List Addr} {l : List (Addr × Obj)} (h : s.heap.NoLimit) (hS : cStatics ∉ SS) (z : Slp SS l s s') : s'.heap.NoLimit := by
  obtain ⟨mc, hns, hnn⟩ := h
  exact ⟨mc, hns.at' fun o e => z.keep _ o hS e, hnn⟩
theorem next_gen {a : Addr} {g n : Nat} {k : κ} {l : List (Addr × Obj)} {s : Shared} {og : Obj} {Q : Option Value → Shared → Prop} {E : Value → Shared → Prop} (hh : A.handled = none) (hroom : A.depth < recursionLimit)
    (hpn : X.pn = [(a, og)]) (hog : ∃ nm qn, og.cls = .type "generator" ∧ og.data = .fields #[.int g 0, nm, qn] ∧ og.slots = #[]) (hal : Aloof X ea.SS) (R : GReady X A ea Em Fin a g n k l s)
    (hd : ∀ H ip σ s', Inv X (l ++ ip) σ H s' → Fin k H → Q none s')
    (hy : ∀ y v H ip σ Nx s', Inv X (l ++ ip) σ H s' → RelV y v → Em k y H Nx → (∀ s'' k' l', Slp ea.SS l' s' s'' → s''.gens = s'.gens → ea.shows k' l' → Nx k' H → ∃ n', n' < n ∧ GReady X A ea Em Fin a g n' k' l' s'') → Q (some v) s') :
    wpAny (model X.prog X.w) A (pyNext (.ref a)) Q E s := by
  obtain ⟨gs, hgs, hgo⟩ := R.go
  have hlt : g < s.gens.size := by
    rcases Nat.lt_or_ge g s.gens.size with h | h
    · exact h
    · rw [Array.getElem?_eq_none h] at hgs; cases hgs
  have keyEq : ∀ {k1 : κ} {l1 : List (Addr × Obj)}, ea.shows k1 l1 → Here l1 (s.setGen g .running).heap → k1 = k ∧ l1 = l := fun {k1 l1} h1 h2 => by
    have e : l1 = l := here_eq ((ea.ad h1).trans (ea.ad R.sh).symm) h2 R.here
    subst e
    exact ⟨ea.inj h1 R.sh, rfl⟩
  refine GenW.wpAny_gsz (n := g + 1) hlt ?_
  refine wpAny_mono (wpAny_pyNext_genexpQ (P := fun _ s₀ s1 => ∃ k l H ip σ, ea.shows k l ∧ Here l s₀.heap ∧ Inv X (l ++ ip) σ H s1 ∧ Fin k H) (Y := YOut X ea Em) (Q := fun r s' => g + 1 ≤ s'.gens.size → Q r s') (E := fun _ _ => False) hh R.lim hroom R.gen hgs hgo (fun v s1 gs' hb hv => ?_) (fun s1 hp h' hk => ?_)) (fun _ _ z => z) fun _ _ z => z.elim
  · obtain ⟨y, k1, l1, H, ip, σ, Nx, h1, h2, I, rv, em, wake⟩ := hv
    obtain ⟨rfl, rfl⟩ := keyEq h1 h2
    intro hsz
    rw [setGen_sz] at hsz
    have I' : Inv X (l1 ++ ip) σ H (s1.setGen g gs') := inv_more (h' := s1.heap) (t' := s1.toks) I (fun _ _ e => e) (allBare_set I.bare hb)
    refine hy y v H ip σ Nx _ I' rv em fun s'' k' l' z hg' sh' nx => ?_
    have hcs : cStatics ∉ ea.SS := fun hb => by
      obtain ⟨mc, hns, _⟩ := I.ok.mod.nolimit
      have h1 := hns.lt
      have h2 := hal.young _ hb
      have h3 := I.ok.bsz
      exact absurd (Nat.lt_of_lt_of_le h1 (Nat.le_trans h3 h2)) (Nat.lt_irrefl _)
    have pa : (a, og) ∈ X.pn := by rw [hpn]; exact List.mem_cons_self
    have ga := (I'.pin (a, og) (List.mem_append_left _ pa)).1
    have haS : a ∉ ea.SS := fun hb => hal.pn a hb _ pa rfl
    have w1 : ∀ m, n = m + 1 → gs'.Goes (model X.prog X.w) A.in1 (REnd X ea Fin) (YOut X ea Em) m (.send .none) (s''.setGen g .running) := fun m hm => by
      subst hm
      exact wake (s''.setGen g .running) k' l' ⟨z.os, allBare_set z.bare rfl, fun b o hb e => z.keep b o hb e, z.here⟩ sh' nx
    cases n with
    | zero =>
      have w0 := wake (s''.setGen g .running) k' l' ⟨z.os, allBare_set z.bare rfl, fun b o hb e => z.keep b o hb e, z.here⟩ sh' nx
      exact w0.elim
    | succ m =>
      refine ⟨m, Nat.lt_succ_self m, ?_, lim_slept I'.nolimit hcs z, sh', z.here, gs', ?_, w1 m rfl⟩
      · obtain ⟨nm, qn, r1, r2, r3⟩ := hog
        exact ⟨og, nm, qn, z.keep a og haS ga, r1, r2, r3⟩
      · rw [hg']
        exact setGen_at (by omega)
  · obtain ⟨k1, l1, H, ip, σ, h1, h2, I, fin⟩ := hp
    obtain ⟨rfl, rfl⟩ := keyEq h1 h2
    intro _
    have I2 := inv_more (s := s1) (h' := h') (g' := (s1.setGen g .finished).gens) (t' := s1.toks) I hk (allBare_set I.bare rfl)
    exact hd H ip σ _ I2 fin
end
end MP
namespace MP
open PySem PySem.Spec PyProof.Rows L2
structure GenSc (N : List Str) (sc scope : Scope) (own : List (Str × Nat)) : Prop where
  kind : scope.kind = .function
  co : scope.isCoroutine = false
  cell : ∀ y ∈ scope.names, y.2 ≠ .cell
  dot : scope.names.lookup (".0" : Str) = some NameKind.local
  uniq : ∀ y ∈ scope.names, scope.names.lookup y.1 = some y.2
  ix : ∀ p ∈ own, N[p.2]? = some p.1
  free : ∀ y ∈ scope.names, y.2 = .free → sc.names.lookup y.1 = some .cell ∨ sc.names.lookup y.1 = some .free
  own : ∀ y ∈ scope.names, y.2 = .local → y.1 ∈ own.map (·.1) ∨ y.1 ∉ N
theorem cloFrom_val {cells : List (Str × Addr)} {names : List (Str × NameKind)} {y : Str} {c : Addr} (hf : ∀ y ∈ names, y.2 = .free → ∃ c, cells.lookup y.1 = some c) (e : (cloFrom cells names []).lookup y = some c) : cells.lookup y = some c ∧ (y, NameKind.free) ∈ names := by
  rcases cloFrom_mem (PySem.mem_of_lookup e) with h | ⟨h, rfl⟩
  · cases h
  · obtain ⟨c, hc⟩ := hf _ h rfl
    rw [hc]
    exact ⟨rfl, h⟩
theorem cloFrom_look {cells : List (Str × Addr)} {names : List (Str × NameKind)} {y : Str} (hf : ∀ y ∈ names, y.2 = .free → ∃ c, cells.lookup y.1 = some c) (h : (y, NameKind.free) ∈ names) : ∃ c, (cloFrom cells names []).lookup y = some c ∧ cells.lookup y = some c := by
  obtain ⟨c, e⟩ := mem_lookup (cloFrom_has (cells := cells) (acc := []) h)
  exact ⟨c, e, (cloFrom_val hf e).1⟩
section
variable {X : Cx} {pins : List (Addr × Obj)} {σ : L2.St} {H : Hp} {s : Shared}
theorem fresh_stk (I : Inv X pins σ H s) {b : Addr} (h : s.heap.objs.size ≤ b) : b ∉ frs X.stack := fun hb => by
  rcases List.mem_cons.mp (I.stkSub b hb) with z | z
  · have := I.lt
    rw [← z] at this
    exact absurd (Nat.lt_of_lt_of_le this h) (Nat.lt_irrefl _)
  · exact I.nofs h z
theorem gen_inv {scope : Scope} {own : List (Str × Nat)} {fp : List Addr} {A : Around} {code : Value} {a : Addr} {og : Obj} {l : List (Addr × Obj)} {s6 : Shared} {it : Value} (I : Inv X pins σ H s) (ok : GenSc X.N X.env.scope scope own) (hN : X.N.Nodup)
    (hfp : ∀ b ∈ fp, FpOk X pins H b ∧ b < s.heap.objs.size) (hA : A.handled = none) (hfr : A.frames = some (genEnv scope (cloFrom X.env.cells scope.names []) s.heap.objs.size code builtinsNs X.env :: X.stack))
    (os : s6.os = s.os) (bare : AllBare s6.gens) (kp : ∀ b o, s.heap.get? b = some o → s6.heap.get? b = some o) (ns : s6.heap.Ns s.heap.objs.size (fun y => if y = ".0" then some it else none))
    (hpin : ∀ p ∈ (a, og) :: l, s6.heap.get? p.1 = some p.2 ∧ s.heap.objs.size < p.1 ∧ ∀ v, p.2.data ≠ .cell v) :
    Inv (gcx X A s H scope (genEnv scope (cloFrom X.env.cells scope.names []) s.heap.objs.size code builtinsNs X.env) fp a og) l (wipe σ (own.map (·.2))) H s6 := by
  have hfree : ∀ y ∈ scope.names, y.2 = .free → ∃ c, X.env.cells.lookup y.1 = some c := fun y hy e => by
    rcases ok.free y hy e with k | k
    · exact I.ok.has _ (.inl k)
    · exact I.ok.has _ (.inr k)
  generalize hcenv : genEnv scope (cloFrom X.env.cells scope.names []) s.heap.objs.size code builtinsNs X.env = cenv at hfr
  have hL : cenv.locals = s.heap.objs.size := by rw [← hcenv]; rfl
  have hcl : cenv.cells = cloFrom X.env.cells scope.names [] := by rw [← hcenv]; rfl
  have hsc : cenv.scope = scope := by rw [← hcenv]; rfl
  have cm : ∀ {y c}, cenv.cells.lookup y = some c → X.env.cells.lookup y = some c ∧ (y, NameKind.free) ∈ scope.names := fun {y c} e => by
    rw [hcl] at e
    exact cloFrom_val hfree e
  have clt : ∀ {y c}, cenv.cells.lookup y = some c → c < s.heap.objs.size := fun {y c} e => by
    obtain ⟨w, z⟩ := I.cell _ _ (cm e).1
    exact z.lt
  have look : ∀ {y}, (y, NameKind.free) ∈ scope.names → ∃ c, cenv.cells.lookup y = some c ∧ X.env.cells.lookup y = some c := fun {y} hl => by
    rw [hcl]
    exact cloFrom_look hfree hl
  have noCell : ∀ {y}, scope.names.lookup y = some .cell → False := fun {y} h => ok.cell _ (PySem.mem_of_lookup h) rfl
  have okB : (gcx X A s H scope cenv fp a og).Ok := by
    refine ⟨I.ok.mod, by show cenv.scope.kind = _; rw [hsc]; exact ok.kind, by show cenv.globals = _; rw [← hcenv]; exact I.ok.glob, by show cenv.builtins = _; rw [← hcenv]; rfl, by show s.heap.objs.size ≤ cenv.locals; rw [hL]; exact Nat.le_refl _,
      fun y z c e1 e2 => I.ok.inj y z c (cm e1).1 (cm e2).1, fun y hy => ?_, fun y c z e => ?_, fun _ => hA, hfr, .inr ⟨rfl, by rw [← hcenv]; rfl⟩, fun b hb => ⟨?_, fun y c e z => ?_⟩, I.bs, Nat.le_trans I.ok.bsz I.sz, fun b o e hb => ?_, fun b hb z => ?_, I.stack, I.stkFree⟩
    · rcases hy with hy | hy
      · have hy : cenv.scope.names.lookup y = some .cell := hy
        rw [hsc] at hy
        exact (noCell hy).elim
      · have hy : cenv.scope.names.lookup y = some .free := hy
        rw [hsc] at hy
        obtain ⟨c, e, _⟩ := look (PySem.mem_of_lookup hy)
        exact ⟨c, e⟩
    · have z : (scope.names.lookup y == some NameKind.cell) = true := z
      exact (noCell (by simpa using z)).elim
    · show b ≠ cenv.locals
      rw [hL]; exact Nat.ne_of_lt (hfp b hb).2
    · exact (hfp b hb).1.2.2.2.2.1 y c (cm e).1 z
    · rcases (hfp b hb).1.2.2.2.1 with z | z
      · exact I.ok.noex b o e z
      · exact absurd (Nat.lt_of_lt_of_le (Heap.lt_size e) (Nat.le_trans I.ok.bsz z)) (Nat.lt_irrefl _)
    · rcases List.mem_cons.mp (I.stkSub b z) with z | z
      · exact (hfp b hb).1.2.1 z
      · exact (hfp b hb).1.2.2.1 z
  refine ⟨okB, os, bare, Un.kept kp, ⟨fun y => if y = ".0" then some it else none, ?_, fun i y av e1 e2 e3 => ?_⟩, fun y c e => ?_, ?_, fun y c e => ?_, fun p hp => ?_, I.hok.kept kp, by rw [wipe_length]; exact I.len⟩
  · show Heap.Ns _ cenv.locals _
    rw [hL]
    exact ns
  · obtain ⟨e2, hne⟩ := wipe_some e2
    have hfr' : (y, NameKind.free) ∈ scope.names := by
      have e3 : Vis cenv.scope y := e3
      rw [hsc] at e3
      rcases e3 with e3 | e3 | e3
      · rcases ok.own _ (PySem.mem_of_lookup e3) rfl with e' | e'
        · obtain ⟨p, hp, hpy⟩ := List.mem_map.mp e'
          have e4 := ok.ix p hp
          have e5 : p.1 = y := hpy
          rw [e5] at e4
          exact absurd (List.mem_map.mpr ⟨p, hp, nodup_ix hN e4 e1⟩) hne
        · exact absurd (List.mem_of_getElem? e1) e'
      · exact (noCell e3).elim
      · exact PySem.mem_of_lookup e3
    obtain ⟨m, hn, hl⟩ := I.loc
    have hvis : Vis X.env.scope y := (ok.free _ hfr' rfl).elim (fun k => .inr (.inl k)) (fun k => .inr (.inr k))
    obtain ⟨w, r, q⟩ := hl i y av e1 e2 hvis
    obtain ⟨c, h1, h2⟩ := look hfr'
    have kf : cenv.kindOf y = some .free := by
      show cenv.scope.names.lookup y = _
      rw [hsc]
      exact ok.uniq _ hfr'
    refine ⟨w, r, .inr ⟨.inr kf, c, h1, ?_⟩⟩
    rcases q with ⟨k, _⟩ | ⟨_, c', e', z⟩
    · have k : X.env.scope.names.lookup y = some .local := k
      rcases ok.free _ hfr' rfl with k' | k' <;> rw [show X.env.scope.names.lookup y = _ from k'] at k <;> cases k
    · rw [h2] at e'; cases e'
      exact z.keeps kp
  · obtain ⟨w, z⟩ := I.cell y c (cm e).1
    exact ⟨w, z.keeps kp⟩
  · show H cenv.locals = none
    rw [hL]; exact I.hok.fresh (Nat.le_refl _)
  · exact I.freeC y c (cm e).1
  · obtain ⟨h1, h2, h3⟩ := hpin p (by simpa using hp)
    have h4 := Nat.le_of_lt h2
    refine ⟨h1, I.hok.fresh h4, ?_, fresh_stk I h4, h3⟩
    show p.1 ≠ cenv.locals
    rw [hL]
    exact Nat.ne_of_gt h2
end
abbrev GLp := (κ : Type) → TEm κ → (κ → Hp → Prop) → κ → Hp → Prop
structure GMadeX (X : Cx) (pins : List (Addr × Obj)) (σ : L2.St) (Lp : GLp) (H : Hp) (a : Addr) (s : Shared) : Prop where
  os : ∃ s4, Inv X pins σ H s4 ∧ s.os = s4.os ∧ AllBare s.gens ∧ (∀ b o, s4.heap.get? b = some o → s.heap.get? b = some o) ∧ s4.heap.objs.size ≤ a
  lim : s.heap.NoLimit
  gen : ∃ gi, s.heap.IsGen a gi
  lt : a < s.heap.objs.size
  ready : ∀ {κ : Type} (ea : Eater κ) (Em : TEm κ) (Fin : κ → Hp → Prop) (k0 : κ) (l0 : List (Addr × Obj)) (s6 : Shared) (A1 : Around), A1.handled = none → A1.frames = X.A.frames → A1.depth = X.A.depth → A1.units ≤ X.A.units + 8 →
    (∀ b o, s.heap.get? b = some o → s6.heap.get? b = some o) → s6.gens = s.gens → s6.os = s.os → (∀ b ∈ ea.SS, s.heap.objs.size ≤ b) → ea.shows k0 l0 → Here l0 s6.heap → Lp κ Em Fin k0 H →
    ∃ XG og gi n, XG.prog = X.prog ∧ XG.w = X.w ∧ XG.pn = [(a, og)] ∧ (∃ nm qn, og.cls = .type "generator" ∧ og.data = .fields #[.int gi 0, nm, qn] ∧ og.slots = #[]) ∧ Aloof XG ea.SS ∧ GReady XG A1 ea Em Fin a gi n k0 l0 s6 ∧
      ∀ pins' σ' H' s', Inv XG pins' σ' H' s' → Inv X pins σ H' s'
theorem eta_sh (s s' : Shared) (h : s'.os = s.os) : ({ s with heap := s'.heap, gens := s'.gens, drawn := s'.drawn, toks := s'.toks } : Shared) = s' := by
  cases s'
  cases h
  rfl
section
variable {X : Cx} {pins : List (Addr × Obj)} {σ : L2.St} {H : Hp} {s : Shared}
abbrev GSegs (X : Cx) (E : Expr) (tg : Expr) (scope : Scope) (vs : List Nat) (LpJ : L2.St → It → GLp) : Prop :=
  ∀ {κ : Type} (ea : Eater κ) (Em : TEm κ) (Fin : κ → Hp → Prop) (k0 : κ) (l0 : List (Addr × Obj)) (A1 AG : Around) (s4 s7 : Shared) (H4 : Hp) (C : Addr) (cl : List (Str × Addr)) (code : Value) (fp : List Addr) (a : Addr) (og : Obj) (it : Addr) (tn : Nat → Heap → Prop) (J : It) (σ : L2.St),
    A1.in1.over (.compLoop E 0 (.ref it) .none (genEnv scope cl C code builtinsNs X.env)) [] = AG → AG.handled = none → AG.depth ≤ X.A.depth + 1 → AG.units ≤ X.A.units + 12 → A1.handled = none → Turn X.prog X.w X.K tg J fp it tn →
    Aloof (gcx X AG s4 H4 scope (genEnv scope cl C code builtinsNs X.env) fp a og) ea.SS → (∀ b ∈ fp, b ∉ ea.SS) → (∀ b ∈ fp, ∀ p ∈ (gcx X AG s4 H4 scope (genEnv scope cl C code builtinsNs X.env) fp a og).pn, p.1 ≠ b) →
    ea.shows k0 l0 → Here l0 s7.heap → Inv (gcx X AG s4 H4 scope (genEnv scope cl C code builtinsNs X.env) fp a og) l0 (wipe σ vs) H4 s7 → tn 0 s7.heap → (∀ b ∈ fp, H4 b = none) → LpJ σ J κ Em Fin k0 H4 →
    ∃ n, Seg (model X.prog X.w) A1.in1 (REnd (gcx X AG s4 H4 scope (genEnv scope cl C code builtinsNs X.env) fp a og) ea Fin) (YOut (gcx X AG s4 H4 scope (genEnv scope cl C code builtinsNs X.env) fp a og) ea Em) n s7 (.compLoop E 0 (.ref it) .none (genEnv scope cl C code builtinsNs X.env))
      ((model X.prog X.w).den (.compLoop E 0 (.ref it) .none (genEnv scope cl C code builtinsNs X.env))) [] s7
abbrev GMakes (X : Cx) (E iter : Expr) (gpos : Pos) (scope : Scope) : Prop :=
  ∀ (cl : List (Str × Addr)) (Q : Value → Shared → Prop) (s : Shared), closureFor scope X.env = pure cl → X.A.depth < recursionLimit →
    wpAny (model X.prog X.w) X.A (eval iter X.env) (fun xv s1 => wpAny (model X.prog X.w) X.A (pyIter xv) (fun it s2 => s2.heap.NoLimit ∧
      wpAny (model X.prog X.w) X.A (genexprCode X.env gpos (X.env.qual ++ "<genexpr>") scope) (fun code s3 => wpAny (model X.prog X.w) X.A (builtinsFor X.env.globals X.env.builtins) (fun bi s4 =>
        ∀ h', h'.Ns s4.heap.objs.size (fun y => if y = ".0" then some it else none) → Heap.SameBut s4.heap.objs.size (s4.heap.push { cls := .type "frame", data := .dict #[] }) h' →
          Q (.ref h'.objs.size) { s4 with
            gens := s4.gens.push (.fresh (.compStart E 0 it .none (genEnv scope cl s4.heap.objs.size code bi X.env))),
            toks := s4.toks + 1 + 1 + 1,
            heap := h'.push { cls := .type "generator", data := .fields #[.int s4.gens.size 0, .str "<genexpr>" (s4.toks + 1), .str (X.env.qual ++ "<genexpr>") (s4.toks + 1 + 1)] } }) X.xe s3) X.xe s2) X.xe s1) X.xe s →
    wpAny (model X.prog X.w) X.A (eval E X.env) Q X.xe s
theorem gen_make {c P : Addr} {elt tg iter : Expr} {ifs : List Expr} {rest : List Comprehension} {gpos : Pos} {scope : Scope} {own : List (Str × Nat)} {wi : TI} {LpJ : L2.St → It → GLp} {Q' : Value → Shared → Prop} {R : It → Hp → Prop}
    (hd0 : X.A.depth + 1 < recursionLimit) (TB : GxR.TabB X.base X.mg c P) (hcode : X.env.code = .ref c) (S : GenSc X.N X.env.scope scope own) (hN : X.N.Nodup) (hi : PI X tg iter wi)
    (hmk : GMakes X (.GeneratorExp elt (⟨tg, iter, ifs, 0⟩ :: rest) scope gpos) iter gpos scope) (hsg : GSegs X (.GeneratorExp elt (⟨tg, iter, ifs, 0⟩ :: rest) scope gpos) tg scope (own.map (·.2)) LpJ)
    (I : Inv X pins σ H s) (h : wi σ H fun J H1 => GxR.TabG H1 P ∧ ∀ H2, GxR.Tabbed P H1 H2 → R J H2)
    (hQ : ∀ J H2 a s5, R J H2 → GMadeX X pins σ (LpJ σ J) H2 a s5 → Q' (.ref a) s5) :
    wpAny (model X.prog X.w) X.A (eval (.GeneratorExp elt (⟨tg, iter, ifs, 0⟩ :: rest) scope gpos) X.env) Q' X.xe s := by
  have hfree : ∀ y ∈ scope.names, y.2 = .free → ∃ c, X.env.cells.lookup y.1 = some c := fun y hy e => by
    rcases S.free y hy e with k | k
    · exact I.ok.has _ (.inl k)
    · exact I.ok.has _ (.inr k)
  refine hmk _ _ _ (closure_ok hfree) (by omega) ?_
  refine thn (hi.run pins s σ H _ I h) fun xv s1 hx => thn hx fun itv s2 h2 => ?_
  obtain ⟨it, fp, tn, J, H1, rfl, I2, T, st2, f2, ⟨ps, hP, htr⟩, hR⟩ := h2
  have hPs : s2.heap.get? P = some { cls := .none, data := .fields ps } := I2.hok P _ hP
  have cd : PySem.W.CodeHd s2.heap c P := TB.code.keeps fun b u e => I2.bk b u e
  refine ⟨I2.nolimit, ?_⟩
  have cont : ∀ (code : Value) (h3 : Heap) (tk : Nat) (ps' : Array Value), Heap.ExtBut P s2.heap h3 → s2.heap.objs.size ≤ h3.objs.size → h3.get? P = some { cls := .none, data := .fields ps' } → (∃ more, ps' = ps ++ more) → TriplesOk ps'.toList →
      wpAny (model X.prog X.w) X.A (builtinsFor X.env.globals X.env.builtins) (fun bi s4 =>
        ∀ h', h'.Ns s4.heap.objs.size (fun y => if y = ".0" then some (Value.ref it) else none) → Heap.SameBut s4.heap.objs.size (s4.heap.push { cls := .type "frame", data := .dict #[] }) h' →
          Q' (.ref h'.objs.size) { s4 with
            gens := s4.gens.push (.fresh (.compStart (.GeneratorExp elt (⟨tg, iter, ifs, 0⟩ :: rest) scope gpos) 0 (.ref it) .none (genEnv scope (cloFrom X.env.cells scope.names []) s4.heap.objs.size code bi X.env))),
            toks := s4.toks + 1 + 1 + 1,
            heap := h'.push { cls := .type "generator", data := .fields #[.int s4.gens.size 0, .str "<genexpr>" (s4.toks + 1), .str (X.env.qual ++ "<genexpr>") (s4.toks + 1 + 1)] } }) X.xe { s2 with heap := h3, toks := tk } := by
    intro code h3 tk ps' hx hsz hP3 hmore ht3
    obtain ⟨bm, ob, e1, e2, e3, e4, e5, e6, e7, e8⟩ := TB.bm
    have keep3 : ∀ b u, b ≠ P → s2.heap.get? b = some u → h3.get? b = some u := fun b u hb e => hx b u hb e
    refine wpAny_builtinsFor (m := X.mg) (by rw [I2.ok.glob]; exact (I2.mod.glob.keeps I2.bk).extBut hx TB.gP) e1 e2 (keep3 _ _ e4 (I2.bk _ _ e5)) e6 e7 e8 ?_
    obtain ⟨more, em⟩ := hmore
    have J4 := GxR.inv_tab (more := more) (h' := h3) (g' := s2.gens) (d' := s2.drawn) (t' := tk) I2 hP keep3 (by rw [← em]; exact hP3) I2.bare
    generalize hH4 : upd H1 P (.tbl (ps ++ more)) = H4 at J4
    have hT4 : GxR.Tabbed P H1 H4 := by
      subst hH4
      exact ⟨⟨ps ++ more, upd_same, by rw [← em]; exact ht3⟩, fun b hb => upd_ne hb⟩
    have r4 := hR H4 hT4
    intro h5 hn5 hs5
    generalize hs4 : ({ s2 with heap := h3, toks := tk } : Shared) = s4 at hn5 hs5
    have J4 : Inv X pins σ H4 s4 := by rw [← hs4]; exact J4
    have g4 : s4.gens = s2.gens := by rw [← hs4]
    have st4 : tn 0 s4.heap := T.keep _ _ _ st2 fun b hb o e => by
      rw [← hs4]
      refine keep3 b o (fun z => ?_) e
      have q := (f2 b hb).1
      rw [z, hP] at q
      cases q
    have sz5 : h5.objs.size = s4.heap.objs.size + 1 := by rw [hs5.1, Heap.size_push]
    have k5 : ∀ b o, s4.heap.get? b = some o → h5.get? b = some o := fun b o e => hs5.extBut b o (Nat.ne_of_lt (Heap.lt_size e)) (Heap.get?_push_of_some _ e)
    have f4 : ∀ b ∈ fp, FpOk X pins H4 b ∧ b < s4.heap.objs.size := fun b hb => by
      obtain ⟨o, e, _⟩ := T.obj _ _ st4 b hb
      refine ⟨⟨?_, (f2 b hb).2⟩, Heap.lt_size e⟩
      rw [← hH4, upd_ne (fun z => ?_)]
      · exact (f2 b hb).1
      · have q := (f2 b hb).1
        rw [z, hP] at q
        cases q
    have et : s4.toks = tk := by rw [← hs4]
    have eo : s4.os = s2.os := by rw [← hs4]
    generalize hog : ({ cls := .type "generator", data := .fields #[.int s4.gens.size 0, .str "<genexpr>" (s4.toks + 1), .str (X.env.qual ++ "<genexpr>") (s4.toks + 1 + 1)] } : Obj) = og
    have hog3 : og.cls = .type "generator" ∧ og.data = .fields #[.int s4.gens.size 0, .str "<genexpr>" (s4.toks + 1), .str (X.env.qual ++ "<genexpr>") (s4.toks + 1 + 1)] ∧ og.slots = #[] := by
      subst hog
      exact ⟨rfl, rfl, rfl⟩
    generalize hce : genEnv scope (cloFrom X.env.cells scope.names []) s4.heap.objs.size code builtinsNs X.env = ce
    have ga : (h5.push og).get? h5.objs.size = some og := Heap.get?_push_size _ (Obj.isFreed_of_fields hog3.2.1)
    have k6 : ∀ b o, s4.heap.get? b = some o → (h5.push og).get? b = some o := fun b o e => Heap.get?_push_of_some _ (k5 b o e)
    refine hQ J H4 h5.objs.size _ r4 ⟨⟨s4, J4, by rw [← hs4], ?_, k6, by omega⟩, ?_, ⟨s4.gens.size, og, _, _, ga, hog3.1, hog3.2.1, hog3.2.2⟩, by show h5.objs.size < (h5.push og).objs.size; rw [Heap.size_push]; exact Nat.lt_succ_self _, ?_⟩
    · intro y hy
      have hy' : y ∈ s4.gens.push (.fresh (.compStart (.GeneratorExp elt (⟨tg, iter, ifs, 0⟩ :: rest) scope gpos) 0 (.ref it) .none ce)) := by
        rw [← hs4]
        simpa [← hs4, ← hce] using hy
      rcases Array.mem_push.mp hy' with z | z
      · exact J4.bare y z
      · rw [z]; rfl
    · exact J4.nolimit.keeps k6
    · intro κ ea Em Fin k0 l0 s6 A1 hA1 hfrA hdA huA kk hg6 ho6 hSS hsh hl0 hloop
      have k7 : ∀ b o, s4.heap.get? b = some o → s6.heap.get? b = some o := fun b o e => kk b o (k6 b o e)
      have hfr : (A1.in1.over (.compLoop (.GeneratorExp elt (⟨tg, iter, ifs, 0⟩ :: rest) scope gpos) 0 (.ref it) .none ce) []).frames = some (ce :: X.stack) := by
        have q : A1.frames = some X.stack := hfrA.trans J4.ok.frames
        unfold Around.over
        simp only []
        rw [show A1.in1.frames = some X.stack from q]
        rfl
      have bare6 : AllBare s6.gens := by
        rw [hg6]
        intro y hy
        have hy' : y ∈ s4.gens.push (.fresh (.compStart (.GeneratorExp elt (⟨tg, iter, ifs, 0⟩ :: rest) scope gpos) 0 (.ref it) .none ce)) := by
          rw [← hs4]
          simpa [← hs4, ← hce] using hy
        rcases Array.mem_push.mp hy' with z | z
        · exact J4.bare y z
        · rw [z]; rfl
      have os6 : s6.os = s4.os := by rw [ho6, ← hs4]
      have ga6 : s6.heap.get? h5.objs.size = some og := kk _ _ ga
      have hpin : ∀ p ∈ (h5.objs.size, og) :: l0, s6.heap.get? p.1 = some p.2 ∧ s4.heap.objs.size < p.1 ∧ ∀ v, p.2.data ≠ .cell v := fun p hp => by
        rcases List.mem_cons.mp hp with z | z
        · rw [z]
          exact ⟨ga6, by show s4.heap.objs.size < h5.objs.size; omega, fun v q => by rw [hog3.2.1] at q; cases q⟩
        · have hm : p.1 ∈ ea.SS := by rw [← ea.ad hsh]; exact List.mem_map.mpr ⟨p, z, rfl⟩
          refine ⟨hl0 p z, ?_, ea.nc hsh p z⟩
          have q := hSS _ hm
          have q' : (h5.push og).objs.size ≤ p.1 := q
          rw [Heap.size_push] at q'
          omega
      have ns6 : s6.heap.Ns s4.heap.objs.size (fun y => if y = ".0" then some (Value.ref it) else none) := (hn5.push og).keeps kk
      have GI0 := gen_inv (A := A1.in1.over (.compLoop (.GeneratorExp elt (⟨tg, iter, ifs, 0⟩ :: rest) scope gpos) 0 (.ref it) .none ce) []) (code := code) (a := h5.objs.size) (og := og) (l := l0) (s6 := { s6 with gens := (s6.setGen s4.gens.size .running).gens }) (it := .ref it) J4 S hN f4 hA1 (by rw [hce]; exact hfr) os6 (allBare_set bare6 rfl) k7 ns6 hpin
      rw [hce] at GI0
      generalize hAG : A1.in1.over (.compLoop (.GeneratorExp elt (⟨tg, iter, ifs, 0⟩ :: rest) scope gpos) 0 (.ref it) .none ce) [] = AG at GI0
      have hAd : AG.depth = A1.depth + 1 := by rw [← hAG]; rfl
      have hAu : AG.units = A1.units + 1 + 3 := by rw [← hAG]; rfl
      have hAh : AG.handled = none := by rw [← hAG]; exact hA1
      have xe : ∀ b ∈ ea.SS, s4.heap.objs.size < b := fun b hb => by
        have q := hSS _ hb
        have q' : (h5.push og).objs.size ≤ b := q
        rw [Heap.size_push] at q'
        omega
      have hal : Aloof (gcx X AG s4 H4 scope ce fp h5.objs.size og) ea.SS := by
        refine ⟨fun b hb => Nat.le_of_lt (xe b hb), fun b hb z => ?_, fun b hb y cc e z => ?_, fun b hb p hp z => ?_⟩
        · have z' : b = ce.locals := z
          rw [← hce] at z'
          exact absurd (xe b hb) (by rw [show b = s4.heap.objs.size from z']; exact Nat.lt_irrefl _)
        · obtain ⟨v, q⟩ := GI0.cell y cc e
          have e' : ce.cells.lookup y = some cc := e
          rw [← hce] at e'
          obtain ⟨v', q'⟩ := J4.cell y cc (cloFrom_val hfree e').1
          have l1 := q'.lt
          rw [z] at l1
          exact absurd (Nat.lt_trans (xe b hb) l1) (Nat.lt_irrefl _)
        · have hp' : p = (h5.objs.size, og) := by simpa using hp
          rw [hp'] at z
          have z' : h5.objs.size = b := z
          have q := hSS _ hb
          have q' : (h5.push og).objs.size ≤ b := q
          rw [Heap.size_push] at q'
          omega
      have hfS : ∀ b ∈ fp, b ∉ ea.SS := fun b hb z => absurd (Nat.lt_trans (f4 b hb).2 (xe b z)) (Nat.lt_irrefl _)
      have hfp' : ∀ b ∈ fp, ∀ p ∈ (gcx X AG s4 H4 scope ce fp h5.objs.size og).pn, p.1 ≠ b := fun b hb p hp z => by
        have hp' : p = (h5.objs.size, og) := by simpa using hp
        rw [hp'] at z
        have z' : h5.objs.size = b := z
        have l1 := (f4 b hb).2
        rw [← z'] at l1
        exact absurd (Nat.lt_of_lt_of_le l1 (show s4.heap.objs.size ≤ h5.objs.size by omega)) (Nat.lt_irrefl _)
      have st6 : tn 0 s6.heap := T.keep _ _ _ st4 fun b hb o e => k7 b o e
      have nf6 : ∀ b ∈ fp, H4 b = none := fun b hb => (f4 b hb).1.1
      have sg := hsg ea Em Fin k0 l0 A1 AG s4 { s6 with gens := (s6.setGen s4.gens.size .running).gens } H4 s4.heap.objs.size (cloFrom X.env.cells scope.names []) code fp h5.objs.size og it tn J σ
      rw [hce] at sg
      obtain ⟨n0, loop⟩ := sg hAG hAh (by omega) (by omega) hA1 T hal hfS hfp' hsh hl0 GI0 st6 nf6 hloop
      refine ⟨gcx X AG s4 H4 scope ce fp h5.objs.size og, og, s4.gens.size, n0, rfl, rfl, rfl, ⟨_, _, hog3.1, hog3.2.1, hog3.2.2⟩, hal, ⟨⟨og, _, _, ga6, hog3.1, hog3.2.1, hog3.2.2⟩, J4.nolimit.keeps k7, hsh, hl0, ?_⟩, fun pins' σ' H' s' I6 => ?_⟩
      · refine ⟨.fresh (.compStart (.GeneratorExp elt (⟨tg, iter, ifs, 0⟩ :: rest) scope gpos) 0 (.ref it) .none ce), ?_, rfl, seg_begin (X := gcx X AG s4 H4 scope ce fp h5.objs.size og) T st6 loop⟩
        rw [hg6, ← hs4]
        simp [← hs4, ← hce]
      · exact J4.call' (ch := fp) I6.os I6.base I6.hok I6.bare fun b hb => ⟨(f4 b hb).1.2.2.2.1, (f4 b hb).1.2.1, (f4 b hb).1.2.2.2.2.1, (f4 b hb).1.2.2.2.2.2⟩
  cases hf : codeAmong gpos ps.toList with
  | none =>
    refine wpAny_genexprCodeX hcode (cd.code hPs htr) (cd.tab hPs) hf fun c' h' tk hx hge hlt hco' _ htab' _ => ?_
    obtain ⟨o1, v1, f1, tf, fl, tgg, inF, tx, tt1, op, _, _, _, _, _, _, _, _, _, htr', _⟩ := hco'
    exact cont _ h' tk _ hx (Nat.le_trans hge (Nat.le_of_lt hlt)) htab'.2 ⟨_, rfl⟩ htr'
  | some cv =>
    refine wpAny_genexprCode_hit hcode (cd.code hPs htr) hf ?_
    exact cont cv s2.heap s2.toks ps (Heap.ExtBut.refl _ _) (Nat.le_refl _) hPs ⟨#[], by simp⟩ htr
abbrev lp1 (g : TG) (tt : TT) (te : TE) (vs : List Nat) : L2.St → It → GLp := fun σ J κ Em Fin k0 H => GLoop J g tt te vs σ Em Fin k0 H
theorem segs1 {elt tg iter : Expr} {ifs : List Expr} {gpos : Pos} {scope : Scope} {vs : List Nat} {g : TG} {tt : TT} {te : TE} (hcalm : X.calm = true) (hco : scope.isCoroutine = false)
    (hg : ∀ (A : Around) (s : Shared) (H : Hp) (C : Addr) (cl : List (Str × Addr)) (code : Value) (fp : List Addr) (a : Addr) (og : Obj), PG (gcx X A s H scope (genEnv scope cl C code builtinsNs X.env) fp a og) tg g)
    (ht : ∀ (A : Around) (s : Shared) (H : Hp) (C : Addr) (cl : List (Str × Addr)) (code : Value) (fp : List Addr) (a : Addr) (og : Obj), A.handled = none → A.depth ≤ X.A.depth + 1 → A.units ≤ X.A.units + 12 → PTs (gcx X A s H scope (genEnv scope cl C code builtinsNs X.env) fp a og) ifs tt)
    (he : ∀ (A : Around) (s : Shared) (H : Hp) (C : Addr) (cl : List (Str × Addr)) (code : Value) (fp : List Addr) (a : Addr) (og : Obj), A.handled = none → A.depth ≤ X.A.depth + 1 → A.units ≤ X.A.units + 12 → PE (gcx X A s H scope (genEnv scope cl C code builtinsNs X.env) fp a og) elt te) :
    GSegs X (.GeneratorExp elt [⟨tg, iter, ifs, 0⟩] scope gpos) tg scope vs (lp1 g tt te vs) := by
  intro κ ea Em Fin k0 l0 A1 AG s4 s7 H4 C cl code fp a og it tn J σ hAG hAh hd hu _ T hal hfS hfp hsh hl0 I st nf hl
  obtain ⟨W, ⟨m0, w0⟩, turn⟩ := hl
  exact ⟨m0 + 1, seg_loop (X := gcx X AG s4 H4 scope (genEnv scope cl C code builtinsNs X.env) fp a og) (A := A1.in1) (ea := ea) (Em := Em) (Fin := Fin) (elt := elt) (tg := tg) (iter := iter) (ifs := ifs) (scope := scope) (pos := gpos) (it := it) (fp := fp) (vs := vs) (J := J) (σ := σ) (W := W)
    hAG hcalm rfl rfl hco T hal hfS hfp (hg AG s4 H4 C cl code fp a og) (ht AG s4 H4 C cl code fp a og hAh hd hu) (he AG s4 H4 C cl code fp a og hAh hd hu) turn m0 (m0 + 1) 0 s7 s7 k0 l0 H4 (Nat.lt_succ_self _) hsh hl0 I st nf w0⟩
theorem makes1 {elt tg iter : Expr} {ifs : List Expr} {gpos : Pos} {scope : Scope} {own : List (Str × Nat)} (S : GenSc X.N X.env.scope scope own) (hs : ∀ v, genFold iter X.env v = pure v) : GMakes X (.GeneratorExp elt [⟨tg, iter, ifs, 0⟩] scope gpos) iter gpos scope := by
  intro cl Q s hc hd h
  exact wpAny_GeneratorExp_make S.co hc S.cell S.dot S.kind hd h hs
end
end MP
namespace MP
open PySem PySem.Spec PyProof.Rows L2
def eat0 : Eater Unit := ⟨[], fun _ l => l = [], fun _ _ => rfl, fun h => by subst h; rfl, fun h p hp => by subst h; cases hp⟩
section
variable {X XG : Cx} {A : Around} {R : Result → Shared → Prop} {Em : TEm Unit} {Fin : Unit → Hp → Prop} {a : Addr} {g : Nat} {og : Obj}
theorem slp0 {s : Shared} (h : AllBare s.gens) : Slp eat0.SS [] s s := ⟨rfl, h, fun _ _ _ e => e, fun p hp => by cases hp⟩
theorem all_loop (hh : A.handled = none) (hroom : A.in1.depth < recursionLimit) (hpn : XG.pn = [(a, og)]) (hog : ∃ nm qn, og.cls = .type "generator" ∧ og.data = .fields #[.int g 0, nm, qn] ∧ og.slots = #[]) (hal : Aloof XG eat0.SS)
    (hend : ∀ pins σ H s', Inv XG pins σ H s' → Fin () H → R (.ok (.ret (.bool true))) s')
    (hem : ∀ y H Nx, Em () y H Nx → ∃ b, y = V.bl b ∧ ((b = true ∧ Nx () H) ∨ (b = false ∧ ∀ pins σ s', Inv XG pins σ H s' → R (.ok (.ret (.bool false))) s'))) :
    ∀ (n : Nat) (s : Shared), GReady XG A.in1 eat0 Em Fin a g n () [] s → codeAny (model XG.prog XG.w) A (.builtin "all.loop" ⟨[.ref a], []⟩) R s := by
  intro n
  induction n using Nat.strongRecOn with
  | ind n ih =>
  intro s G
  refine codeAny_builtin F.entry_all_loop ?_
  rw [Around.under_plainId F.plain_all_loop _]
  show wpAny _ A.in1 (pyNext (.ref a) >>= _) _ _ s
  refine wpAny_bind (next_gen hh hroom hpn hog hal G (fun H ip σ s' I fin => ?_) (fun y v H ip σ Nx s' I rv em wake => ?_))
  · exact wpAny_bind (wpAny_rule (wpAny_pure (hend _ _ _ _ I fin)))
  · obtain ⟨b, rfl, hb⟩ := hem y H Nx em
    obtain rfl : v = Value.bool b := rv
    refine wpAny_bind (wpAny_holding (wpAny_truthy_bool ?_))
    refine wpAny_bind (wpAny_letGo ?_)
    rcases hb with ⟨rfl, nx⟩ | ⟨rfl, hR⟩
    · simp only [if_true]
      obtain ⟨n', hn, G'⟩ := wake s' () [] (slp0 I.bare) rfl rfl nx
      exact wpAny_pure ⟨plainId_quiet F.plain_all_loop _, ih n' hn s' G'⟩
    · simp only [Bool.false_eq_true, if_false]
      exact wpAny_bind (wpAny_rule (wpAny_pure (hR _ _ _ I)))
theorem any_loop (hh : A.handled = none) (hroom : A.in1.depth < recursionLimit) (hpn : XG.pn = [(a, og)]) (hog : ∃ nm qn, og.cls = .type "generator" ∧ og.data = .fields #[.int g 0, nm, qn] ∧ og.slots = #[]) (hal : Aloof XG eat0.SS)
    (hend : ∀ pins σ H s', Inv XG pins σ H s' → Fin () H → R (.ok (.ret (.bool false))) s')
    (hem : ∀ y H Nx, Em () y H Nx → ∃ b, y = V.bl b ∧ ((b = false ∧ Nx () H) ∨ (b = true ∧ ∀ pins σ s', Inv XG pins σ H s' → R (.ok (.ret (.bool true))) s'))) :
    ∀ (n : Nat) (s : Shared), GReady XG A.in1 eat0 Em Fin a g n () [] s → codeAny (model XG.prog XG.w) A (.builtin "any.loop" ⟨[.ref a], []⟩) R s := by
  intro n
  induction n using Nat.strongRecOn with
  | ind n ih =>
  intro s G
  refine codeAny_builtin F.entry_any_loop ?_
  rw [Around.under_plainId F.plain_any_loop _]
  show wpAny _ A.in1 (pyNext (.ref a) >>= _) _ _ s
  refine wpAny_bind (next_gen hh hroom hpn hog hal G (fun H ip σ s' I fin => ?_) (fun y v H ip σ Nx s' I rv em wake => ?_))
  · exact wpAny_bind (wpAny_rule (wpAny_pure (hend _ _ _ _ I fin)))
  · obtain ⟨b, rfl, hb⟩ := hem y H Nx em
    obtain rfl : v = Value.bool b := rv
    refine wpAny_bind (wpAny_holding (wpAny_truthy_bool ?_))
    refine wpAny_bind (wpAny_letGo ?_)
    rcases hb with ⟨rfl, nx⟩ | ⟨rfl, hR⟩
    · simp only [Bool.false_eq_true, if_false]
      obtain ⟨n', hn, G'⟩ := wake s' () [] (slp0 I.bare) rfl rfl nx
      exact wpAny_pure ⟨plainId_quiet F.plain_any_loop _, ih n' hn s' G'⟩
    · simp only [if_true]
      exact wpAny_bind (wpAny_rule (wpAny_pure (hR _ _ _ I)))
abbrev lobj (acc : Array Value) (c : Nat) : Obj := { cls := .type "list", dict := none, data := .seq acc c, slots := #[] }
def eatL (S : Addr) : Eater (List V) where
  SS := [S]
  shows := fun ys l => ∃ acc c, Vals ys acc.toList ∧ l = [(S, lobj acc c)]
  inj := fun {a b l} ⟨acc, c, r, e⟩ ⟨acc', c', r', e'⟩ => by
    rw [e] at e'
    simp only [List.cons.injEq, Prod.mk.injEq, Obj.mk.injEq, Data.seq.injEq] at e'
    have q : acc = acc' := e'.1.2.2.2.1.1
    subst q
    exact Vals.inj r r'
  ad := fun ⟨acc, c, r, e⟩ => by subst e; rfl
  nc := fun ⟨acc, c, r, e⟩ p hp v q => by
    subst e
    have hp' : p = (S, lobj acc c) := by simpa using hp
    subst hp'
    cases q
end
section
variable {XG : Cx} {A : Around} {R : Result → Shared → Prop} {Em : TEm (List V)} {Fin : List V → Hp → Prop} {a S : Addr} {g : Nat} {og : Obj}
theorem ext_loop (hh : A.handled = none) (hroom : A.in1.depth < recursionLimit) (hpn : XG.pn = [(a, og)]) (hog : ∃ nm qn, og.cls = .type "generator" ∧ og.data = .fields #[.int g 0, nm, qn] ∧ og.slots = #[]) (hal : Aloof XG (eatL S).SS) (res : Value)
    (hend : ∀ ys acc c pins σ H s', Inv XG pins σ H s' → Vals ys acc.toList → s'.heap.get? S = some (lobj acc c) → ys.length ≤ sizeLine → Fin ys H → R (.ok (.ret res)) s')
    (hem : ∀ ys y H Nx, Em ys y H Nx → ys.length < sizeLine ∧ Nx (ys ++ [y]) H) :
    ∀ (n : Nat) (s : Shared) (ys : List V) (acc : Array Value) (c : Nat), Vals ys acc.toList → ys.length ≤ sizeLine → GReady XG A.in1 (eatL S) Em Fin a g n ys [(S, lobj acc c)] s → codeAny (model XG.prog XG.w) A (.builtin "list.extend.loop" ⟨[.ref S, .ref a, res], []⟩) R s := by
  intro n
  induction n using Nat.strongRecOn with
  | ind n ih =>
  intro s ys acc c rv0 hz G
  refine codeAny_builtin F.entry_extend_loop ?_
  rw [Around.under_plainId F.plain_extend_loop _]
  show wpAny _ A.in1 (pyNext (.ref a) >>= _) _ _ s
  have inS : ∀ {pins : List (Addr × Obj)} {σ : L2.St} {H : Hp} {s' : Shared}, Inv XG ([(S, lobj acc c)] ++ pins) σ H s' → s'.heap.get? S = some (lobj acc c) := fun I =>
    (I.pin (S, lobj acc c) (List.mem_append_right _ (List.mem_append_left _ List.mem_cons_self))).1
  refine wpAny_bind (next_gen hh hroom hpn hog hal G (fun H ip σ s' I fin => ?_) (fun y v H ip σ Nx s' I rv em wake => ?_))
  · exact wpAny_pure (hend ys acc c _ _ _ _ I rv0 (inS I) hz fin)
  · obtain ⟨hlt, nx⟩ := hem ys y H Nx em
    have hS := inS I
    have hlen : acc.size = ys.length := by rw [rv0.length]; simp
    show wpAny _ A.in1 (updateSeq S (·.push v) >>= _) _ _ _
    refine wpAny_bind ?_
    have rv1 : Vals (ys ++ [y]) (acc.push v).toList := by
      rw [Array.toList_push]
      exact rv0.append (.cons rv .nil)
    obtain ⟨c', hS'⟩ : ∃ c', (s'.heap.update S (Obj.mapSeq (·.push v))).get? S = some (lobj (acc.push v) c') := ⟨_, Heap.get?_update_self _ hS rfl⟩
    refine wpAny_updateSeq hS rfl (wpAny_pure ⟨plainId_quiet F.plain_extend_loop _, ?_⟩) (by omega) (by show (acc.push v).size ≤ sizeLine + 1; rw [Array.size_push]; omega)
    have z : Slp (eatL S).SS [(S, lobj (acc.push v) c')] s' { s' with heap := s'.heap.update S (Obj.mapSeq (·.push v)) } := by
      refine ⟨rfl, I.bare, fun b o hb e => ?_, fun p hp => ?_⟩
      · exact (Heap.get?_update_other _ _ (fun z : S = b => hb (by rw [← z]; exact List.mem_cons_self))).trans e
      · have hp' : p = (S, lobj (acc.push v) c') := by simpa using hp
        rw [hp']
        exact hS'
    obtain ⟨n', hn, G'⟩ := wake _ (ys ++ [y]) _ z rfl ⟨_, _, rv1, rfl⟩ nx
    exact ih n' hn _ _ _ _ rv1 (by rw [List.length_append, List.length_singleton]; omega) G'
end
section
variable {X : Cx} {A : Around} {pins : List (Addr × Obj)} {σ : L2.St} {Lp : GLp} {H0 : Hp} {a : Addr} {s : Shared} {Q : List Value → Shared → Prop} {E : Value → Shared → Prop}
theorem collect_gen (G : GMadeX X pins σ Lp H0 a s) (hh : A.handled = none) (hfr : A.frames = X.A.frames) (hd : A.depth = X.A.depth) (hu : A.units + 1 ≤ X.A.units + 8) (hroom : A.depth < recursionLimit)
    {Em : TEm (List V)} {Fin : List V → Hp → Prop} (hem : ∀ ys y H Nx, Em ys y H Nx → ys.length < sizeLine ∧ Nx (ys ++ [y]) H) (hl : Lp (List V) Em Fin [] H0)
    (hQ : ∀ ys acc H s', Inv X pins σ H s' → Vals ys acc → ys.length ≤ sizeLine → Fin ys H → Q acc s') : wpAny (model X.prog X.w) A (collect (.ref a)) Q E s := by
  obtain ⟨gi, hg⟩ := G.gen
  have hla := G.lt
  have hSa : s.heap.objs.size ≠ a := Nat.ne_of_gt hla
  unfold collect
  refine wpAny_bind (wpAny_runValue (codeAny_builtin F.entry_proto_collect ?_))
  rw [Around.under_plainId F.plain_proto_collect _]
  show wpAny _ A.in1 (newList [] >>= fun l => again (.builtin "list.__iadd__" ⟨[l, .ref a], []⟩)) _ _ s
  refine wpAny_bind (wpAny_newObj_type ?_)
  refine wpAny_pure ⟨plainId_quiet F.plain_list_iadd _, codeAny_builtin F.entry_list_iadd ?_⟩
  rw [Around.under_plainId F.plain_list_iadd _]
  show wpAny _ A.in1 (Builtin.List.listExtendWith (.ref s.heap.objs.size) (.ref a) (.ref s.heap.objs.size)) _ _ _
  unfold Builtin.List.listExtendWith
  have up : ∀ (h : Heap) (f : Obj → Obj), (∀ b o, s.heap.get? b = some o → h.get? b = some o) → ∀ b o, s.heap.get? b = some o → (h.update s.heap.objs.size f).get? b = some o := fun h f q b o e =>
    (Heap.get?_update_other _ _ (Ne.symm (Nat.ne_of_lt (Heap.lt_size e)))).trans (q b o e)
  have k1 : ∀ b o, s.heap.get? b = some o → (s.heap.push { cls := .type "list", data := .seq ([] : List Value).toArray }).get? b = some o := fun b o e => Heap.get?_push_of_some _ e
  have gty : ∀ {h : Heap}, (∀ b o, s.heap.get? b = some o → h.get? b = some o) → h.IsGen a gi := fun {h} q => hg.keeps q
  refine wpAny_bind (wpAny_typeOf (Heap.IsGen.typeIs (s := { s with heap := _ }) (gty k1)) ?_)
  have h1 : Builtin.List.listSameRef (.ref s.heap.objs.size) (.ref a) = false := by simp [Builtin.List.listSameRef, hSa]
  have h2 : (Value.type "generator" == Value.type "list") = false := by decide
  have h3 : (Value.type "generator" == Value.type "tuple") = false := by decide
  simp only [h1, h2, h3, Bool.or_false, Bool.false_eq_true, if_false]
  refine wpAny_bind (wpAny_pyIter_gen (s := { s with heap := _ }) (gty k1) ?_)
  refine wpAny_bind (wpAny_holding ?_)
  unfold Builtin.List.listLengthHint
  refine wpAny_bind (wpAny_specialOf (Heap.IsGen.typeIs (s := { s with heap := _ }) (gty k1)) F.gen_no_len ?_)
  show wpAny _ A.in1 (specialOf (Value.ref a) (Str.ofString "__length_hint__") >>= _) _ _ _
  refine wpAny_bind (wpAny_specialOf (Heap.IsGen.typeIs (s := { s with heap := _ }) (gty k1)) F.gen_no_hint ?_)
  refine wpAny_pure ?_
  show wpAny _ A.in1 (rule "list.extend.makes-room" >>= fun _ => Builtin.List.listTouch (.ref s.heap.objs.size) >>= fun _ =>
    again (.builtin "list.extend.loop" ⟨[.ref s.heap.objs.size, .ref a, .ref s.heap.objs.size], []⟩)) _ _ _
  refine wpAny_bind (wpAny_rule ?_)
  have hS1 : (s.heap.push { cls := .type "list", data := .seq ([] : List Value).toArray }).get? s.heap.objs.size = some { cls := .type "list", data := .seq ([] : List Value).toArray } := Heap.get?_push_size _ rfl
  refine wpAny_bind ?_
  show wpAny _ A.in1 (updateSeq s.heap.objs.size (·.push .none) >>= fun _ => updateSeq s.heap.objs.size (·.pop)) _ _ _
  refine wpAny_bind (wpAny_updateSeq hS1 rfl ?_)
  have hS2 := Heap.get?_update_self (Obj.mapSeq (·.push Value.none)) hS1 rfl
  refine wpAny_updateSeq (hz := by seq_fits) hS2 rfl ?_
  have k3 := up _ (Obj.mapSeq (·.pop)) (up _ (Obj.mapSeq (·.push Value.none)) k1)
  obtain ⟨c', hS3⟩ : ∃ c', (((s.heap.push { cls := .type "list", data := .seq ([] : List Value).toArray }).update s.heap.objs.size (Obj.mapSeq (·.push Value.none))).update s.heap.objs.size (Obj.mapSeq (·.pop))).get? s.heap.objs.size = some (lobj #[] c') :=
    ⟨_, Heap.get?_update_self (Obj.mapSeq (·.pop)) hS2 rfl⟩
  refine wpAny_pure ⟨plainId_quiet F.plain_extend_loop _, ?_⟩
  obtain ⟨XG, og, gj, n, eP, eW, hpn, hog, hal, GR, back⟩ := G.ready (eatL s.heap.objs.size) Em Fin [] [(s.heap.objs.size, lobj #[] c')]
    { s with heap := ((s.heap.push { cls := .type "list", data := .seq ([] : List Value).toArray }).update s.heap.objs.size (Obj.mapSeq (·.push Value.none))).update s.heap.objs.size (Obj.mapSeq (·.pop)) } A.in1 hh hfr hd hu k3 rfl rfl
    (fun b hb => by have e : b = s.heap.objs.size := List.mem_singleton.mp hb; exact Nat.le_of_eq e.symm) ⟨#[], c', .nil, rfl⟩ (fun p hp => by have e : p = (s.heap.objs.size, lobj #[] c') := List.mem_singleton.mp hp; rw [e]; exact hS3) hl
  rw [← eP, ← eW]
  refine ext_loop (XG := XG) (Em := Em) (Fin := Fin) hh hroom hpn hog hal (.ref s.heap.objs.size) (fun ys acc c pins' σ' H s' I rv hS hz fin => ?_) hem n _ [] #[] c' .nil (Nat.zero_le _) GR
  show wpAny _ A (load s.heap.objs.size >>= _) _ _ s'
  refine wpAny_bind (wpAny_load hS ?_)
  exact wpAny_pure (hQ ys acc.toList H s' (back _ _ _ _ I) rv hz fin)
end
end MP
namespace MP
open PySem PySem.Spec PyProof.Rows L2
section
variable {X : Cx} {A : Around} {pins : List (Addr × Obj)} {σ : L2.St} {Lp : GLp} {H0 : Hp} {a : Addr} {s : Shared} {E : Value → Shared → Prop}
theorem gm_type (G : GMadeX X pins σ Lp H0 a s) : s.TypeIs (.ref a) "generator" := by
  obtain ⟨gi, hg⟩ := G.gen
  exact hg.typeIs
theorem gm_iter {A' : Around} {Q : Value → Shared → Prop} (G : GMadeX X pins σ Lp H0 a s) (h : Q (.ref a) s) : wpAny (model X.prog X.w) A' (pyIter (.ref a)) Q E s := by
  obtain ⟨gi, hg⟩ := G.gen
  exact wpAny_pyIter_gen hg h
theorem new_tuple_gen {Q₁ : Value → Shared → Prop} (G : GMadeX X pins σ Lp H0 a s) (hh : A.handled = none) (hfr : A.frames = X.A.frames) (hd : A.depth = X.A.depth) (hu : A.units + 2 ≤ X.A.units + 8) (hroom : A.depth < recursionLimit)
    {Em : TEm (List V)} {Fin : List V → Hp → Prop} (hem : ∀ ys y H Nx, Em ys y H Nx → ys.length < sizeLine ∧ Nx (ys ++ [y]) H) (hl : Lp (List V) Em Fin [] H0)
    (h : ∀ ys acc H s', Inv X pins σ H s' → Vals ys acc → ys.length ≤ sizeLine → Fin ys H → Q₁ (.ref s'.heap.objs.size) { s' with heap := s'.heap.push { cls := .type "tuple", data := .seq acc.toArray } }) :
    codeAny (model X.prog X.w) A (.call (.builtin "tuple.__new__") ⟨[.type "tuple", .ref a], []⟩) (wants Q₁ E) s := by
  refine codeAny_of_tree ?_
  show wpAny _ A.in1 (do checkBuiltinCall "tuple.__new__" ⟨[.type "tuple", .ref a], []⟩; again (.builtin "tuple.__new__" ⟨[.type "tuple", .ref a], []⟩)) _ _ s
  refine wpAny_bind (wpAny_of_eq (F.newCall_tuple_1 _) (wpAny_pure ⟨plainId_quiet F.plain_tuple_new _, codeAny_builtin F.entry_tuple_new ?_⟩))
  rw [Around.under_plainId F.plain_tuple_new _]
  have hsub := sub_tuple_self
  have hinit := init_tuple_lookup
  have hmh := madeHere_tuple
  have hTI := gm_type G
  wp_walk using wpAny_typeOf hTI, collect_gen (A := A.in1) G hh hfr hd hu hroom hem hl
  intro ys acc H s' I rv hz fin
  show wpAny _ _ (Builtin.Tuple.tupleExact acc.toArray >>= fun v => ret v) _ _ _
  unfold Builtin.Tuple.tupleExact
  refine wpAny_bind (wpAny_newObj_type ?_ (by show acc.toArray.size ≤ sizeLine; rw [List.size_toArray, ← rv.length]; exact hz))
  exact wpAny_pure (h ys acc H s' I rv hz fin)
theorem tuple_gen {Q : Value → Shared → Prop} (G : GMadeX X pins σ Lp H0 a s) (hh : A.handled = none) (hfr : A.frames = X.A.frames) (hd : A.depth = X.A.depth) (hu : A.units + 3 ≤ X.A.units + 8) (hroom : A.depth < recursionLimit)
    {Em : TEm (List V)} {Fin : List V → Hp → Prop} (hem : ∀ ys y H Nx, Em ys y H Nx → ys.length < sizeLine ∧ Nx (ys ++ [y]) H) (hl : Lp (List V) Em Fin [] H0)
    (h : ∀ ys acc H s', Inv X pins σ H s' → Vals ys acc → ys.length ≤ sizeLine → Fin ys H → Q (.ref s'.heap.objs.size) { s' with heap := s'.heap.push { cls := .type "tuple", data := .seq acc.toArray } }) :
    wpAny (model X.prog X.w) A (call (.type "tuple") [.ref a]) Q E s := by
  refine callType_codes (Q₁ := fun obj s₁ => s₁.TypeIs obj "tuple" ∧ Q obj s₁) F.called_tuple (F.typeCall_tuple_1 _) F.entry_object_init
    (new_tuple_gen (A := A.in1) G hh hfr hd (by show A.units + 1 + 2 ≤ _; omega) hroom hem hl fun ys acc H s' I rv hz fin => ⟨⟨_, Heap.get?_push_size _ rfl, rfl⟩, h ys acc H s' I rv hz fin⟩) fun obj s₁ h₁ => ?_
  exact ⟨h₁.1, F.args_object_init_2 obj _, object_init_meets F.called_tuple.init.lookup F.called_tuple.made (by decide) X.prog X.w A.in1 _ s₁ ⟨h₁.1, rfl, h₁.2⟩⟩
end
def tGen {κ : Type} (P : Addr) (wi : TI) (LpJ : L2.St → It → GLp) (Em : TEm κ) (Fin : κ → Hp → Prop) (k0 : κ) (σ : L2.St) (H : Hp) : Prop :=
  wi σ H fun J H1 => GxR.TabG H1 P ∧ ∀ H2, GxR.Tabbed P H1 H2 → LpJ σ J κ Em Fin k0 H2
def tGTup (P : Addr) (wi : TI) (LpJ : L2.St → It → GLp) : TE := fun σ H Q =>
  tGen P wi LpJ (fun ys y H Nx => ys.length < sizeLine ∧ Nx (ys ++ [y]) H) (fun ys H => ∀ p, H p = none → Q (.ref p) (upd H p (.tup ys))) [] σ H
def tGAll (P : Addr) (wi : TI) (LpJ : L2.St → It → GLp) : TE := fun σ H Q =>
  tGen P wi LpJ (fun _ y H Nx => ∃ b, y = V.bl b ∧ ((b = true ∧ Nx () H) ∨ (b = false ∧ Q (.bl false) H))) (fun _ H => Q (.bl true) H) () σ H
def tGAny (P : Addr) (wi : TI) (LpJ : L2.St → It → GLp) : TE := fun σ H Q =>
  tGen P wi LpJ (fun _ y H Nx => ∃ b, y = V.bl b ∧ ((b = false ∧ Nx () H) ∨ (b = true ∧ Q (.bl true) H))) (fun _ H => Q (.bl false) H) () σ H
structure GenAsk (X : Cx) (P : Addr) (E : Expr) (wi : TI) (LpJ : L2.St → It → GLp) : Prop where
  calm : X.calm = true
  room : X.A.depth + 1 < recursionLimit
  make : ∀ (pins : List (Addr × Obj)) (s : Shared) (σ : L2.St) (H : Hp) (R : It → Hp → Prop) (Q' : Value → Shared → Prop), Inv X pins σ H s → (wi σ H fun J H1 => GxR.TabG H1 P ∧ ∀ H2, GxR.Tabbed P H1 H2 → R J H2) →
    (∀ J H2 a s5, R J H2 → GMadeX X pins σ (LpJ σ J) H2 a s5 → Q' (.ref a) s5) → wpAny (model X.prog X.w) X.A (eval E X.env) Q' X.xe s
section
variable {X : Cx} {P : Addr} {ge : Expr} {wi : TI} {LpJ : L2.St → It → GLp} {p pos : Pos}
theorem pe_gtup (K : GenAsk X P ge wi LpJ) (hg : Gl X "tuple") (hm : X.mg "tuple" = none) (hv : bootBuiltins "tuple" = some (.type "tuple") := by decide +kernel)
    (he : starEach [ge] X.env = (false, eval ge X.env) :: starEach [] X.env) :
    PE X (.Call (.Name "tuple" p) [ge] [] pos) (tGTup P wi LpJ) := by
  refine ⟨fun pins s σ H Q I h => ?_⟩
  refine wpAny_Call_Name_kw (ld_blt I hg hm hv ?_)
  refine PyProof.Rows.callWith_type1 ?_ he (by rfl)
  rw [he]
  show wpAny _ _ (spliced ((false, eval ge X.env) :: backTo pos (starEach [] X.env))) _ _ s
  refine Calls.spliced_cons (K.make pins s σ H _ _ I h fun J H2 a s5 hR G => ?_)
  refine Calls.spliced_nil ?_
  obtain ⟨s4, I4, _⟩ := G.os
  refine tuple_gen (A := X.A) G (I4.ok.hd K.calm) rfl rfl (by omega) (Nat.lt_of_succ_lt K.room) (fun ys y H Nx h => h) hR fun ys acc H3 s' I' rv hz fin => ?_
  have hf : H3 s'.heap.objs.size = none := I'.hok.fresh (Nat.le_refl _)
  refine ⟨.ref s'.heap.objs.size, upd H3 s'.heap.objs.size (.tup ys), I'.laid (t' := s'.toks) (fun b u e => Heap.get?_push_of_some _ e) (Nat.le_refl _) ?_, rfl, fin _ hf⟩
  exact ⟨hz, acc, rv, ⟨_, Heap.get?_push_size _ rfl, rfl, _, rfl⟩⟩
theorem pe_gall (K : GenAsk X P ge wi LpJ) (hg : Gl X "all") (hm : X.mg "all" = none) (hv : bootBuiltins "all" = some (.builtin "all") := by decide +kernel)
    (he : starEach [ge] X.env = (false, eval ge X.env) :: starEach [] X.env) :
    PE X (.Call (.Name "all" p) [ge] [] pos) (tGAll P wi LpJ) := by
  refine ⟨fun pins s σ H Q I h => ?_⟩
  refine wpAny_Call_Name_kw (ld_blt I hg hm hv ?_)
  refine PyProof.Rows.callWith_builtin1 ?_ he (by rfl)
  rw [he]
  show wpAny _ _ (spliced ((false, eval ge X.env) :: backTo pos (starEach [] X.env))) _ _ s
  refine Calls.spliced_cons (K.make pins s σ H _ _ I h fun J H2 a s5 hR G => ?_)
  refine Calls.spliced_nil ?_
  obtain ⟨s4, I4, _⟩ := G.os
  have hh : X.A.handled = none := I4.ok.hd K.calm
  refine call_function_tree F.kind_all F.plain_all F.entry_all (F.args_all1 _) ?_
  unfold Builtin.«all»
  refine wpAny_bind (m := oneArg "all" _) (wpAny_pure ?_)
  refine wpAny_bind (gm_iter G ?_)
  obtain ⟨XG, og, gi, n, eP, eW, hpn, hog, hal, GR, back⟩ := G.ready eat0 _ _ () [] s5 X.A.in1 hh rfl rfl (by show X.A.units + 1 ≤ _; omega) (fun _ _ e => e) rfl rfl (fun b hb => by cases hb) rfl (fun p hp => by cases hp) hR
  rw [← eP, ← eW]
  refine wpAny_pure ⟨plainId_quiet F.plain_all_loop _, all_loop (A := X.A) hh (Nat.lt_of_succ_lt K.room) hpn hog hal (fun pins' σ' H' s' I' fin => ?_) (fun y H' Nx em => ?_) n s5 GR⟩
  · exact ⟨.bl true, H', back _ _ _ _ I', rfl, fin⟩
  · obtain ⟨b, e, h1 | ⟨h1, h2⟩⟩ := em
    · exact ⟨b, e, .inl h1⟩
    · exact ⟨b, e, .inr ⟨h1, fun pins' σ' s' I' => ⟨.bl false, H', back _ _ _ _ I', rfl, h2⟩⟩⟩
theorem pe_gany (K : GenAsk X P ge wi LpJ) (hg : Gl X "any") (hm : X.mg "any" = none) (hv : bootBuiltins "any" = some (.builtin "any") := by decide +kernel)
    (he : starEach [ge] X.env = (false, eval ge X.env) :: starEach [] X.env) :
    PE X (.Call (.Name "any" p) [ge] [] pos) (tGAny P wi LpJ) := by
  refine ⟨fun pins s σ H Q I h => ?_⟩
  refine wpAny_Call_Name_kw (ld_blt I hg hm hv ?_)
  refine PyProof.Rows.callWith_builtin1 ?_ he (by rfl)
  rw [he]
  show wpAny _ _ (spliced ((false, eval ge X.env) :: backTo pos (starEach [] X.env))) _ _ s
  refine Calls.spliced_cons (K.make pins s σ H _ _ I h fun J H2 a s5 hR G => ?_)
  refine Calls.spliced_nil ?_
  obtain ⟨s4, I4, _⟩ := G.os
  have hh : X.A.handled = none := I4.ok.hd K.calm
  refine call_function_tree F.kind_any F.plain_any F.entry_any (F.args_any1 _) ?_
  unfold Builtin.«any»
  refine wpAny_bind (m := oneArg "any" _) (wpAny_pure ?_)
  refine wpAny_bind (gm_iter G ?_)
  obtain ⟨XG, og, gi, n, eP, eW, hpn, hog, hal, GR, back⟩ := G.ready eat0 _ _ () [] s5 X.A.in1 hh rfl rfl (by show X.A.units + 1 ≤ _; omega) (fun _ _ e => e) rfl rfl (fun b hb => by cases hb) rfl (fun p hp => by cases hp) hR
  rw [← eP, ← eW]
  refine wpAny_pure ⟨plainId_quiet F.plain_any_loop _, any_loop (A := X.A) hh (Nat.lt_of_succ_lt K.room) hpn hog hal (fun pins' σ' H' s' I' fin => ?_) (fun y H' Nx em => ?_) n s5 GR⟩
  · exact ⟨.bl false, H', back _ _ _ _ I', rfl, fin⟩
  · obtain ⟨b, e, h1 | ⟨h1, h2⟩⟩ := em
    · exact ⟨b, e, .inl h1⟩
    · exact ⟨b, e, .inr ⟨h1, fun pins' σ' s' I' => ⟨.bl true, H', back _ _ _ _ I', rfl, h2⟩⟩⟩
end
end MP
namespace MP
open PySem PySem.Spec PyProof.Rows L2
section
variable {elt tg iter tg1 iter1 : Expr} {ifs ifs1 : List Expr} {rest : List Comprehension} {scope : Scope} {pos : Pos}
theorem gen_eval {env : Env} (hco : scope.isCoroutine = false) : eval (.GeneratorExp elt (⟨tg, iter, ifs, 0⟩ :: rest) scope pos) env = (eval iter env >>= fun x => standAt iter.pos >>= fun _ => genFold iter env x >>= fun y => holding [y] (pyIter y) >>= fun it => enterFrame >>= fun _ =>
    closureFor scope env >>= fun cl => genexprCode env pos (env.qual ++ "<genexpr>") scope >>= fun cd => builtinsFor env.globals env.builtins >>= fun bi =>
      newFunctionEnv scope env.globals cl [(".0", it)] (env.qual ++ "<genexpr>.") none cd none bi >>= fun ce => newGenerator (.compStart (.GeneratorExp elt (⟨tg, iter, ifs, 0⟩ :: rest) scope pos) 0 it .none ce) "<genexpr>" (env.qual ++ "<genexpr>")) := by
  rw [arm_eval_GeneratorExp]
  simp only [hco, Bool.false_eq_true, if_false]
  cases iter <;> rfl
theorem makes_any {X : Cx} {own : List (Str × Nat)} (S : GenSc X.N X.env.scope scope own) (hs : ∀ v, genFold iter X.env v = pure v) : GMakes X (.GeneratorExp elt (⟨tg, iter, ifs, 0⟩ :: rest) scope pos) iter pos scope := by
  intro cl Q s hcl hdp hw
  rw [gen_eval S.co, hcl]
  refine wpAny_bind (wpAny_mono hw (fun xv s1 w1 => wpAny_bind (wpAny_standAt (wpAny_bind (wpAny_of_eq (hs xv) (wpAny_bind (wpAny_holding (wpAny_mono w1 (fun it s2 w2 => ?_) fun _ _ z => z))))))) fun _ _ z => z)
  refine wpAny_bind (wpAny_enterFrame w2.1 hdp (wpAny_bind (wpAny_pure (wpAny_bind (wpAny_mono w2.2 (fun cd s3 w3 => wpAny_bind (wpAny_mono w3 (fun bi s4 w4 => ?_) fun _ _ z => z)) fun _ _ z => z)))))
  refine wpAny_bind (wpAny_newFunctionEnv S.cell (binds := [((".0" : Str), it)]) (fun y hy => ?_) (fun h' hn hsb => ?_) S.kind)
  · have : y = ((".0" : Str), it) := List.mem_singleton.mp hy
    rw [this]
    exact S.dot
  · have q : (fun y : Str => List.lookup y (List.reverse [((".0" : Str), it)])) = fun y : Str => if y = (".0" : Str) then some it else none := by
      funext y
      by_cases c : y = ".0"
      · simp [c]
      · have c2 : (y == (".0" : Str)) = false := by simpa using c
        simp [List.lookup, c2, c]
    rw [q] at hn
    simp only [newGenerator, newFields]
    exact wpAny_bind (wpAny_newGen (wpAny_bind (wpAny_mkText (wpAny_bind (wpAny_mkText (wpAny_newObj_type (w4 h' hn hsb) (by size_fits)))))))
end
def GLoop2 {κ : Type} (J : It) (g : TG) (tt : TT) (wi1 : TI) (g1 : TG) (tt1 : TT) (te : TE) (vs vs1 : List Nat) (σ : L2.St) (Em : TEm κ) (Fin : κ → Hp → Prop) (k0 : κ) (H0 : Hp) : Prop :=
  ∃ W : Nat → Nat → κ → Hp → Prop, (∃ m, W 0 m k0 H0) ∧ ∀ i m k H, W i m k H → (J.stop i H ∧ Fin k H) ∨ (J.go i H ∧ ∃ Nx : Nat → κ → Hp → Prop, (∀ q k' H', Nx q k' H' → W (i + 1) q k' H') ∧
    ∀ x H', J.yld i H x H' → g x (wipe σ vs) H' fun σ2 H2 => wipe σ2 vs = wipe σ vs ∧ tt σ2 H2 fun b H3 => if b = true then wi1 σ2 H3 fun J1 H4 =>
      ∃ W1 : Nat → Nat → κ → Hp → Prop, (∃ m1, m1 < m ∧ W1 0 m1 k H4) ∧ ∀ j m1 k1 H, W1 j m1 k1 H → (J1.stop j H ∧ Nx m1 k1 H) ∨ (J1.go j H ∧ ∃ Nx1 : κ → Hp → Prop, (∀ k' H', Nx1 k' H' → ∃ m', m' < m1 ∧ W1 (j + 1) m' k' H') ∧
        ∀ x H', J1.yld j H x H' → g1 x (wipe σ2 vs1) H' fun σ3 H5 => wipe σ3 vs1 = wipe σ2 vs1 ∧ tt1 σ3 H5 fun b H6 => if b = true then te σ3 H6 fun y H7 => Em k1 y H7 Nx1 else Nx1 k1 H6)
      else ∃ q, q < m ∧ Nx q k H3)
section
variable {elt tg iter tg1 iter1 : Expr} {ifs ifs1 : List Expr} {scope : Scope} {pos : Pos}
theorem turn_out (it acc : Value) (env : Env) : compTurn (.GeneratorExp elt [⟨tg, iter, ifs, 0⟩, ⟨tg1, iter1, ifs1, 0⟩] scope pos) 0 it acc env = (standAt iter.pos >>= fun _ => pyNext it >>= fun r => match r with
    | none => pure (.done .next)
    | some v => letOwnedTupleGo tg it v >>= fun _ => assign tg env v >>= fun _ => (forIn ifs true fun c r => if r = true then isTrue c env (eval c env) >>= fun b => pure (ForInStep.yield b) else pure (ForInStep.yield r)) >>= fun ok =>
      if ok = true then eval iter1 env >>= fun x => standAt iter1.pos >>= fun _ => foldedSetIterable iter1 env x >>= fun y => holding [y] (pyIter y) >>= fun z => runOwn (.compStart (.GeneratorExp elt [⟨tg, iter, ifs, 0⟩, ⟨tg1, iter1, ifs1, 0⟩] scope pos) 1 z acc env) env >>= fun _ => again (.compLoop (.GeneratorExp elt [⟨tg, iter, ifs, 0⟩, ⟨tg1, iter1, ifs1, 0⟩] scope pos) 0 it acc env)
      else again (.compLoop (.GeneratorExp elt [⟨tg, iter, ifs, 0⟩, ⟨tg1, iter1, ifs1, 0⟩] scope pos) 0 it acc env)) := by rfl
theorem turn_in (it acc : Value) (env : Env) : compTurn (.GeneratorExp elt [⟨tg, iter, ifs, 0⟩, ⟨tg1, iter1, ifs1, 0⟩] scope pos) 1 it acc env = (standAt iter1.pos >>= fun _ => pyNext it >>= fun r => match r with
    | none => pure (.done .next)
    | some v => letOwnedTupleGo tg1 it v >>= fun _ => assign tg1 env v >>= fun _ => (forIn ifs1 true fun c r => if r = true then isTrue c env (eval c env) >>= fun b => pure (ForInStep.yield b) else pure (ForInStep.yield r)) >>= fun ok =>
      if ok = true then (eval elt env >>= fun x => standAt elt.pos >>= fun _ => yieldOut env x >>= fun _ => pure ()) >>= fun _ => again (.compLoop (.GeneratorExp elt [⟨tg, iter, ifs, 0⟩, ⟨tg1, iter1, ifs1, 0⟩] scope pos) 1 it acc env)
      else again (.compLoop (.GeneratorExp elt [⟨tg, iter, ifs, 0⟩, ⟨tg1, iter1, ifs1, 0⟩] scope pos) 1 it acc env)) := by rfl
end
section
variable {A : Around} {E : Expr} {gens : List Comprehension} {elt : Expr} {scope : Scope} {pos p : Pos} {it it1 acc : Value} {env : Env} {k : Result → Sem PySem.Fin} {g : Bool} {l kp : List Value}
theorem over_in : A.over (.compLoop (.GeneratorExp elt gens scope pos) 1 it1 acc env) [.ret k none g l (.compLoop (.GeneratorExp elt gens scope pos) 0 it acc env) p kp] = A.over (.compLoop (.GeneratorExp elt gens scope pos) 0 it acc env) [] := by
  rfl
end
theorem fpok_swap {X : Cx} {l l' ip : List (Addr × Obj)} {H H' : Hp} {b : Addr} (f : FpOk X (l ++ ip) H b) (e : l.map (·.1) = l'.map (·.1)) (hn : H' b = none) : FpOk X (l' ++ ip) H' b := by
  refine ⟨hn, f.2.1, f.2.2.1, f.2.2.2.1, f.2.2.2.2.1, fun p hp z => ?_⟩
  rcases List.mem_append.mp hp with hp | hp
  · exact f.2.2.2.2.2 p (List.mem_append_left _ hp) z
  · rcases List.mem_append.mp hp with hp | hp
    · have hm : p.1 ∈ l.map (·.1) := by rw [e]; exact List.mem_map.mpr ⟨p, hp, rfl⟩
      obtain ⟨q, hq, eq⟩ := List.mem_map.mp hm
      exact f.2.2.2.2.2 q (List.mem_append_right _ (List.mem_append_left _ hq)) (eq.trans z)
    · exact f.2.2.2.2.2 p (List.mem_append_right _ (List.mem_append_right _ hp)) z
section
variable {κ : Type} {X : Cx} {A : Around} {ea : Eater κ} {Em : TEm κ} {Fin : κ → Hp → Prop} {elt tg iter tg1 iter1 : Expr} {ifs ifs1 : List Expr} {scope : Scope} {pos : Pos}
theorem seg_inner {it1 : Addr} {fs : List Frame} {fp1 : List Addr} {vs1 : List Nat} {ip : List (Addr × Obj)} {tn1 : Nat → Heap → Prop} {J1 : It} {g1 : TG} {tt1 : TT} {te : TE} {σ2 : L2.St} {W1 : Nat → Nat → κ → Hp → Prop} {NxQ : Nat → κ → Hp → Prop}
    (hXA : A.over (.compLoop (.GeneratorExp elt [⟨tg, iter, ifs, 0⟩, ⟨tg1, iter1, ifs1, 0⟩] scope pos) 1 (.ref it1) .none X.env) fs = X.A) (hcalm : X.calm = true) (hxe : X.xe = fun _ _ => False) (hco : X.env.scope.isCoroutine = false) (hf1 : splitAtGen fs = none) (hf2 : fs.any Frame.guarded = false)
    (T1 : Turn X.prog X.w X.K tg1 J1 fp1 it1 tn1) (hal : Aloof X ea.SS) (hipS : ∀ p ∈ ip, p.1 ∉ ea.SS) (pg1 : PG X tg1 g1) (pt1 : PTs X ifs1 tt1) (pe : PE X elt te)
    (turn1 : ∀ j m1 k1 H, W1 j m1 k1 H → (J1.stop j H ∧ NxQ m1 k1 H) ∨ (J1.go j H ∧ ∃ Nx1 : κ → Hp → Prop, (∀ k' H', Nx1 k' H' → ∃ m', m' < m1 ∧ W1 (j + 1) m' k' H') ∧
        ∀ x H', J1.yld j H x H' → g1 x (wipe σ2 vs1) H' fun σ3 H5 => wipe σ3 vs1 = wipe σ2 vs1 ∧ tt1 σ3 H5 fun b H6 => if b = true then te σ3 H6 fun y H7 => Em k1 y H7 Nx1 else Nx1 k1 H6))
    {M : Nat} (cont : ∀ (m1 n : Nat) (s₀ s : Shared) (k : κ) (l : List (Addr × Obj)) (H : Hp), m1 ≤ M → m1 < n → ea.shows k l → Here l s₀.heap → Inv X (l ++ ip) (wipe σ2 vs1) H s → NxQ m1 k H →
      Seg (model X.prog X.w) A (REnd X ea Fin) (YOut X ea Em) n s₀ (.compLoop (.GeneratorExp elt [⟨tg, iter, ifs, 0⟩, ⟨tg1, iter1, ifs1, 0⟩] scope pos) 1 (.ref it1) .none X.env) (leafOf (.ok .next)) fs s) :
    ∀ (m n j : Nat) (s₀ s : Shared) (k : κ) (l : List (Addr × Obj)) (H : Hp), m ≤ M → m < n → ea.shows k l → Here l s₀.heap → Inv X (l ++ ip) (wipe σ2 vs1) H s → tn1 j s.heap → (∀ b ∈ fp1, FpOk X (l ++ ip) H b) → W1 j m k H →
      Seg (model X.prog X.w) A (REnd X ea Fin) (YOut X ea Em) n s₀ (.compLoop (.GeneratorExp elt [⟨tg, iter, ifs, 0⟩, ⟨tg1, iter1, ifs1, 0⟩] scope pos) 1 (.ref it1) .none X.env)
        ((model X.prog X.w).den (.compLoop (.GeneratorExp elt [⟨tg, iter, ifs, 0⟩, ⟨tg1, iter1, ifs1, 0⟩] scope pos) 1 (.ref it1) .none X.env)) fs s := by
  intro m
  induction m using Nat.strongRecOn with
  | ind m ih =>
  intro n j s₀ s k l H hmM hmn hsh hl0 I st hfp w
  have el := ea.ad hsh
  show Seg _ A _ _ n s₀ _ ((compTurn (.GeneratorExp elt [⟨tg, iter, ifs, 0⟩, ⟨tg1, iter1, ifs1, 0⟩] scope pos) 1 (.ref it1) .none X.env).onRaise (fun x => noteFrame x X.env >>= fun _ => theTreesLotGoes x)) fs s
  rw [turn_in, Sem.onRaise_eq_wrap]
  refine seg_bind_wrap (wpAny_standAt ?_)
  rcases turn1 j m k H w with ⟨stop, fin⟩ | ⟨go, Nx, hNx, step⟩
  · refine seg_bind_wrap ?_
    rw [hXA]
    refine wpAny_mono (T1.done X rfl rfl rfl hcalm j _ s _ H (fun _ _ => False) I hfp st stop) (fun r s1 ⟨hr, I1⟩ => ?_) fun _ _ z => seg_false z
    subst hr
    exact cont m n s₀ s1 k l H hmM hmn hsh hl0 I1 fin
  · refine seg_bind_wrap ?_
    rw [hXA]
    refine wpAny_mono (T1.item X rfl rfl rfl hcalm j _ s _ H (fun _ _ => False) I hfp st go) (fun r s1 ⟨u, hr, h1⟩ => ?_) fun _ _ z => seg_false z
    subst hr
    refine seg_bind_wrap ?_
    rw [hXA]
    refine wpAny_mono h1 (fun _ s2 ⟨x, H2, I2, r2, y2, st2, nf2⟩ => ?_) fun _ _ z => seg_false z
    have hfp2 : ∀ b ∈ fp1, FpOk X (l ++ ip) H2 b := fun b hb => ⟨nf2 b hb, (hfp b hb).2⟩
    have I2' := I2.pinned hfp2 (T1.obj _ _ st2)
    refine seg_bind_wrap ?_
    rw [hXA]
    have pgr := pg1.run _ s2 _ H2 x u _ I2' r2 (step x H2 y2)
    rw [hxe] at pgr
    refine wpAny_mono pgr (fun _ s3 ⟨σ3, H3, I3, hw3, q3⟩ => ?_) fun _ _ z => seg_false z
    refine seg_bind_wrap ?_
    rw [hXA]
    have ptr := pt1.run _ s3 σ3 H3 _ I3 q3
    rw [hxe] at ptr
    refine wpAny_mono ptr (fun b s4 ⟨H4, I4, q4⟩ => ?_) fun _ _ z => seg_false z
    have again : ∀ {n' : Nat} {s₀' s' : Shared} {k' : κ} {l' : List (Addr × Obj)} {H' : Hp}, ea.shows k' l' → Here l' s₀'.heap → Inv X (l' ++ (ip ++ pinsAt fp1 s2.heap)) σ3 H' s' → Nx k' H' → m ≤ n' →
        Seg (model X.prog X.w) A (REnd X ea Fin) (YOut X ea Em) n' s₀' (.compLoop (.GeneratorExp elt [⟨tg, iter, ifs, 0⟩, ⟨tg1, iter1, ifs1, 0⟩] scope pos) 1 (.ref it1) .none X.env)
          (.pure (.again (.compLoop (.GeneratorExp elt [⟨tg, iter, ifs, 0⟩, ⟨tg1, iter1, ifs1, 0⟩] scope pos) 1 (.ref it1) .none X.env))) fs s' := fun {n' s₀' s' k' l' H'} sh' hl' I' nx hn => by
      obtain ⟨m', hm, w'⟩ := hNx k' H' nx
      rw [← List.append_assoc] at I'
      have pin' : ∀ b ∈ fp1, ∀ o, s2.heap.get? b = some o → s'.heap.get? b = some o ∧ H' b = none := fun b hb o e =>
        let z := I'.pin (b, o) (List.mem_append_right _ (List.mem_append_right _ (mem_pinsAt hb e)))
        ⟨z.1, z.2.1⟩
      have hlen : (wipe σ2 vs1).length = σ3.length := by rw [← hw3, wipe_length]
      have el' := ea.ad sh'
      refine seg_again rfl (ih m' hm n' (j + 1) s₀' s' k' l' H' (by omega) (by omega) sh' hl' (I'.unpinned.weak hlen fun i v e => ?_) (T1.keep _ _ _ st2 fun b hb o e => (pin' b hb o e).1) (fun b hb => ?_) w')
      · rw [← hw3] at e
        exact (wipe_some e).1
      · obtain ⟨o, e, _⟩ := T1.obj _ _ st2 b hb
        exact fpok_swap (hfp b hb) (el.trans el'.symm) (pin' b hb o e).2
    have I4' := I4
    rw [List.append_assoc] at I4'
    cases b with
    | false =>
      simp only [Bool.false_eq_true, if_false] at q4 ⊢
      exact again hsh hl0 I4' q4 (by omega)
    | true =>
      simp only [if_true] at q4 ⊢
      have hy : ∀ v, yieldOut X.env v = yieldValue v := fun v => by simp only [yieldOut, hco, Bool.false_eq_true, if_false]
      simp only [hy]
      rw [Sem.bind_eq_wrap', Sem.bind_eq_wrap', Sem.wrap_wrap, Sem.wrap_wrap]
      have per := pe.run _ s4 σ3 H4 _ I4 q4
      rw [hxe] at per
      refine seg_wrap ?_
      rw [hXA]
      refine wpAny_mono per (fun v s5 ⟨y, H5, I5, r5, em⟩ => ?_) fun _ _ z => seg_false z
      rw [List.append_assoc] at I5
      obtain ⟨n, rfl⟩ : ∃ i, n = i + 1 := ⟨n - 1, by omega⟩
      refine seg_at (seg_yield hf1 rfl hf2 ?_)
      refine ⟨y, k, l, H5, ip ++ pinsAt fp1 s2.heap, σ3, Nx, hsh, hl0, I5, r5, em, fun s'' k' l' z sh' nx => ?_⟩
      have hfS : ∀ b ∈ fp1, b ∉ ea.SS := fun b hb z => by
        rw [← el] at z
        obtain ⟨p, hp, ep⟩ := List.mem_map.mp z
        exact (hfp b hb).2.2.2.2.2 p (List.mem_append_right _ (List.mem_append_left _ hp)) ep
      have I6 := inv_slept I5 el (ea.ad sh') (ea.nc sh') hal (fun p hp => (List.mem_append.mp hp).elim (hipS p) fun hp => hfS _ (of_pinsAt hp).1) z
      exact again sh' z.here I6 nx (by omega)
theorem seg_outer {it : Addr} {fp : List Addr} {vs vs1 : List Nat} {tn : Nat → Heap → Prop} {J : It} {g g1 : TG} {tt tt1 : TT} {wi1 : TI} {te : TE} {σ : L2.St} {W : Nat → Nat → κ → Hp → Prop}
    (hXA : A.over (.compLoop (.GeneratorExp elt [⟨tg, iter, ifs, 0⟩, ⟨tg1, iter1, ifs1, 0⟩] scope pos) 0 (.ref it) .none X.env) [] = X.A) (hcalm : X.calm = true) (hxe : X.xe = fun _ _ => False) (hex : X.ex = fp) (hco : X.env.scope.isCoroutine = false)
    (T : Turn X.prog X.w X.K tg J fp it tn) (hal : Aloof X ea.SS) (hfS : ∀ b ∈ fp, b ∉ ea.SS) (hfp : ∀ b ∈ fp, ∀ p ∈ X.pn, p.1 ≠ b) (pg : PG X tg g) (pt : PTs X ifs tt) (pi1 : PI X tg1 iter1 wi1) (hs1 : ∀ v, foldedSetIterable iter1 X.env v = pure v) (pg1 : PG X tg1 g1) (pt1 : PTs X ifs1 tt1) (pe : PE X elt te) (hsub : ∀ i ∈ vs1, i ∈ vs)
    (turn : ∀ i m k H, W i m k H → (J.stop i H ∧ Fin k H) ∨ (J.go i H ∧ ∃ Nx : Nat → κ → Hp → Prop, (∀ q k' H', Nx q k' H' → W (i + 1) q k' H') ∧
      ∀ x H', J.yld i H x H' → g x (wipe σ vs) H' fun σ2 H2 => wipe σ2 vs = wipe σ vs ∧ tt σ2 H2 fun b H3 => if b = true then wi1 σ2 H3 fun J1 H4 =>
        ∃ W1 : Nat → Nat → κ → Hp → Prop, (∃ m1, m1 < m ∧ W1 0 m1 k H4) ∧ ∀ j m1 k1 H, W1 j m1 k1 H → (J1.stop j H ∧ Nx m1 k1 H) ∨ (J1.go j H ∧ ∃ Nx1 : κ → Hp → Prop, (∀ k' H', Nx1 k' H' → ∃ m', m' < m1 ∧ W1 (j + 1) m' k' H') ∧
          ∀ x H', J1.yld j H x H' → g1 x (wipe σ2 vs1) H' fun σ3 H5 => wipe σ3 vs1 = wipe σ2 vs1 ∧ tt1 σ3 H5 fun b H6 => if b = true then te σ3 H6 fun y H7 => Em k1 y H7 Nx1 else Nx1 k1 H6)
        else ∃ q, q < m ∧ Nx q k H3)) :
    ∀ (n m i : Nat) (s₀ s : Shared) (k : κ) (l : List (Addr × Obj)) (H : Hp), m < n → ea.shows k l → Here l s₀.heap → Inv X l (wipe σ vs) H s → tn i s.heap → (∀ b ∈ fp, H b = none) → W i m k H →
      Seg (model X.prog X.w) A (REnd X ea Fin) (YOut X ea Em) n s₀ (.compLoop (.GeneratorExp elt [⟨tg, iter, ifs, 0⟩, ⟨tg1, iter1, ifs1, 0⟩] scope pos) 0 (.ref it) .none X.env)
        ((model X.prog X.w).den (.compLoop (.GeneratorExp elt [⟨tg, iter, ifs, 0⟩, ⟨tg1, iter1, ifs1, 0⟩] scope pos) 0 (.ref it) .none X.env)) [] s := by
  have stat : ∀ {σ' : L2.St} {H' : Hp} {s' : Shared} {l : List (Addr × Obj)}, l.map (·.1) = ea.SS → Inv X l σ' H' s' → (∀ b ∈ fp, H' b = none) → ∀ b ∈ fp, FpOk X l H' b := fun {σ' H' s' l} el I' hn b hb => by
    have hb' : b ∈ X.ex := by rw [hex]; exact hb
    refine ⟨hn b hb, (I'.ok.exf b hb').1, I'.ok.exfs b hb', .inl hb', fun x c e => (I'.ok.exf b hb').2 x c e, fun p hp z => ?_⟩
    rcases List.mem_append.mp hp with hp | hp
    · exact hfp b hb p hp z
    · exact hfS b hb (by rw [← el, ← z]; exact List.mem_map.mpr ⟨p, hp, rfl⟩)
  suffices hh : ∀ (m n i : Nat) (s₀ s : Shared) (k : κ) (l : List (Addr × Obj)) (H : Hp), m < n → ea.shows k l → Here l s₀.heap → Inv X l (wipe σ vs) H s → tn i s.heap → (∀ b ∈ fp, H b = none) → W i m k H →
      Seg (model X.prog X.w) A (REnd X ea Fin) (YOut X ea Em) n s₀ (.compLoop (.GeneratorExp elt [⟨tg, iter, ifs, 0⟩, ⟨tg1, iter1, ifs1, 0⟩] scope pos) 0 (.ref it) .none X.env)
        ((model X.prog X.w).den (.compLoop (.GeneratorExp elt [⟨tg, iter, ifs, 0⟩, ⟨tg1, iter1, ifs1, 0⟩] scope pos) 0 (.ref it) .none X.env)) [] s from fun n m => hh m n
  intro m
  induction m using Nat.strongRecOn with
  | ind m ih =>
  intro n i s₀ s k l H hmn hsh hl0 I st nf w
  have el := ea.ad hsh
  show Seg _ A _ _ n s₀ _ ((compTurn (.GeneratorExp elt [⟨tg, iter, ifs, 0⟩, ⟨tg1, iter1, ifs1, 0⟩] scope pos) 0 (.ref it) .none X.env).onRaise (leaving X.env)) [] s
  rw [turn_out, Sem.onRaise_eq_wrap]
  refine seg_bind_wrap (wpAny_standAt ?_)
  rcases turn i m k H w with ⟨stop, fin⟩ | ⟨go, Nx, hNx, step⟩
  · refine seg_bind_wrap ?_
    rw [hXA]
    refine wpAny_mono (T.done X rfl rfl rfl hcalm i l s _ H (fun _ _ => False) I (stat el I nf) st stop) (fun r s1 ⟨hr, I1⟩ => ?_) fun _ _ z => seg_false z
    subst hr
    exact seg_end (.ok .next) ⟨rfl, k, l, H, [], _, hsh, hl0, by rw [List.append_nil]; exact I1, fin⟩
  · refine seg_bind_wrap ?_
    rw [hXA]
    refine wpAny_mono (T.item X rfl rfl rfl hcalm i l s _ H (fun _ _ => False) I (stat el I nf) st go) (fun r s1 ⟨u, hr, h1⟩ => ?_) fun _ _ z => seg_false z
    subst hr
    refine seg_bind_wrap ?_
    rw [hXA]
    refine wpAny_mono h1 (fun _ s2 ⟨x, H2, I2, r2, y2, st2, nf2⟩ => ?_) fun _ _ z => seg_false z
    have I2' := I2.pinned (stat el I2 nf2) (T.obj _ _ st2)
    refine seg_bind_wrap ?_
    rw [hXA]
    have pgr := pg.run _ s2 _ H2 x u _ I2' r2 (step x H2 y2)
    rw [hxe] at pgr
    refine wpAny_mono pgr (fun _ s3 ⟨σ3, H3, I3, hw3, q3⟩ => ?_) fun _ _ z => seg_false z
    refine seg_bind_wrap ?_
    rw [hXA]
    have ptr := pt.run _ s3 σ3 H3 _ I3 q3
    rw [hxe] at ptr
    refine wpAny_mono ptr (fun b s4 ⟨H4, I4, q4⟩ => ?_) fun _ _ z => seg_false z
    have again : ∀ {n' q : Nat} {s₀' s' : Shared} {k' : κ} {l' : List (Addr × Obj)} {H' : Hp} {σ9 : L2.St} {c : Code}, ea.shows k' l' → Here l' s₀'.heap → Inv X (l' ++ pinsAt fp s2.heap) σ9 H' s' → (wipe σ vs).length = σ9.length → (∀ (j : Nat) v, (wipe σ vs)[j]? = some (some v) → σ9[j]? = some (some v)) → Nx q k' H' → q < m → q < n' →
        Seg (model X.prog X.w) A (REnd X ea Fin) (YOut X ea Em) n' s₀' c
          (.pure (.again (.compLoop (.GeneratorExp elt [⟨tg, iter, ifs, 0⟩, ⟨tg1, iter1, ifs1, 0⟩] scope pos) 0 (.ref it) .none X.env))) [] s' := fun {n' q s₀' s' k' l' H' σ9 c} sh' hl' I' hlen hk9 nx hq hn => by
      have w' := hNx q k' H' nx
      have pin' : ∀ b ∈ fp, ∀ o, s2.heap.get? b = some o → s'.heap.get? b = some o ∧ H' b = none := fun b hb o e =>
        let z := I'.pin (b, o) (List.mem_append_right _ (List.mem_append_right _ (mem_pinsAt hb e)))
        ⟨z.1, z.2.1⟩
      refine seg_again rfl (ih q hq n' (i + 1) s₀' s' k' l' H' hn sh' hl' (I'.unpinned.weak hlen hk9) (T.keep _ _ _ st2 fun b hb o e => (pin' b hb o e).1) (fun b hb => ?_) w')
      obtain ⟨o, e, _⟩ := T.obj _ _ st2 b hb
      exact (pin' b hb o e).2
    have hl3 : (wipe σ vs).length = σ3.length := by rw [← hw3, wipe_length]
    have hk3 : ∀ (j : Nat) v, (wipe σ vs)[j]? = some (some v) → σ3[j]? = some (some v) := fun j v e => by
      rw [← hw3] at e
      exact (wipe_some e).1
    cases b with
    | false =>
      simp only [Bool.false_eq_true, if_false] at q4 ⊢
      obtain ⟨q, hq, nx⟩ := q4
      exact again hsh hl0 I4 hl3 hk3 nx hq (by omega)
    | true =>
      simp only [if_true] at q4 ⊢
      have pir := pi1.run _ s4 σ3 H4 _ I4 q4
      rw [hxe] at pir
      refine seg_bind_wrap ?_
      rw [hXA]
      refine wpAny_mono pir (fun xv s5 h5 => ?_) fun _ _ z => seg_false z
      refine seg_bind_wrap (wpAny_standAt (seg_bind_wrap (wpAny_of_eq (hs1 xv) (seg_bind_wrap (wpAny_holding ?_)))))
      rw [hXA]
      refine wpAny_mono h5 (fun itv s6 h6 => ?_) fun _ _ z => seg_false z
      obtain ⟨it1, fp1, tn1, J1, H6, e1, I6, T1, st6, f6, W1, ⟨m1, hm1, w1⟩, turn1⟩ := h6
      subst e1
      have hk9 : ∀ (j : Nat) v, (wipe σ vs)[j]? = some (some v) → (wipe σ3 vs1)[j]? = some (some v) := fun j v e => by
        rw [← hw3] at e
        obtain ⟨e1, e2⟩ := wipe_some e
        rw [wipe_out fun z => e2 (hsub j z)]
        exact e1
      show Seg _ A _ _ n s₀ _ (.call _ _ _ _ _) [] s6
      refine seg_call fun p => ?_
      generalize hfr : Frame.ret _ _ _ _ _ p [] = fr
      have hov : A.over (.compLoop (.GeneratorExp elt [⟨tg, iter, ifs, 0⟩, ⟨tg1, iter1, ifs1, 0⟩] scope pos) 1 (.ref it1) .none X.env) [fr] = X.A := by
        rw [← hfr]
        exact over_in.trans hXA
      have loop := seg_inner (ea := ea) (Em := Em) (Fin := Fin) (fs := [fr]) (ip := pinsAt fp s2.heap) (NxQ := Nx) (σ2 := σ3) (vs1 := vs1) hov hcalm hxe hco (by rw [← hfr]; rfl) (by rw [← hfr]; rfl) T1 hal (fun q hq => hfS _ (of_pinsAt hq).1) pg1 pt1 pe turn1 (M := m1) ?_ m1 n 0 s₀ s6 k l H6 (Nat.le_refl _) (by omega) hsh hl0 (I6.weak (wipe_length _ _) fun j v e => (wipe_some e).1) st6 f6 w1
      · show Seg _ A _ _ n s₀ _ ((compStart (.GeneratorExp elt [⟨tg, iter, ifs, 0⟩, ⟨tg1, iter1, ifs1, 0⟩] scope pos) 1 (.ref it1) .none X.env).onRaise (fun x => noteFrame x X.env >>= fun _ => standAt theWindowsPlace)) [fr] s6
        unfold compStart
        rw [Sem.onRaise_eq_wrap]
        show Seg _ A _ _ n s₀ _ ((ask >>= _).wrap _ _ _ _) [fr] s6
        refine seg_bind_wrap (wpAny_askSetting ?_)
        split
        · exact seg_again rfl loop
        · refine seg_bind_wrap (wpAny_rule ?_)
          show Seg _ A _ _ n s₀ _ ((standAt iter1.pos >>= _).wrap _ _ _ _) [fr] s6
          exact seg_bind_wrap (wpAny_standAt (seg_bind_wrap (T1.self _ 0 s6 _ _ st6 (seg_again rfl loop))))
      · intro q n' s₀' s' k' l' H' hqM hq sh' hl' I' nx
        rw [← hfr]
        refine seg_leaf (.ok .next) ?_
        exact again sh' hl' I' (hl3.trans (wipe_length σ3 vs1).symm) hk9 nx (by omega) hq
abbrev lp2 (g : TG) (tt : TT) (wi1 : TI) (g1 : TG) (tt1 : TT) (te : TE) (vs vs1 : List Nat) : L2.St → It → GLp := fun σ J κ Em Fin k0 H => GLoop2 J g tt wi1 g1 tt1 te vs vs1 σ Em Fin k0 H
end
section
variable {X : Cx} {elt tg iter tg1 iter1 : Expr} {ifs ifs1 : List Expr} {scope : Scope} {gpos : Pos} {vs vs1 : List Nat} {g g1 : TG} {tt tt1 : TT} {wi1 : TI} {te : TE}
theorem segs2 (hcalm : X.calm = true) (hco : scope.isCoroutine = false) (hsub : ∀ i ∈ vs1, i ∈ vs) (hs1 : ∀ env v, foldedSetIterable iter1 env v = pure v)
    (hg : ∀ (A : Around) (s : Shared) (H : Hp) (C : Addr) (cl : List (Str × Addr)) (code : Value) (fp : List Addr) (a : Addr) (og : Obj), PG (gcx X A s H scope (genEnv scope cl C code builtinsNs X.env) fp a og) tg g)
    (ht : ∀ (A : Around) (s : Shared) (H : Hp) (C : Addr) (cl : List (Str × Addr)) (code : Value) (fp : List Addr) (a : Addr) (og : Obj), A.handled = none → A.depth ≤ X.A.depth + 1 → A.units ≤ X.A.units + 12 → PTs (gcx X A s H scope (genEnv scope cl C code builtinsNs X.env) fp a og) ifs tt)
    (hi1 : ∀ (A : Around) (s : Shared) (H : Hp) (C : Addr) (cl : List (Str × Addr)) (code : Value) (fp : List Addr) (a : Addr) (og : Obj), A.handled = none → A.depth ≤ X.A.depth + 1 → A.units ≤ X.A.units + 12 → PI (gcx X A s H scope (genEnv scope cl C code builtinsNs X.env) fp a og) tg1 iter1 wi1)
    (hg1 : ∀ (A : Around) (s : Shared) (H : Hp) (C : Addr) (cl : List (Str × Addr)) (code : Value) (fp : List Addr) (a : Addr) (og : Obj), PG (gcx X A s H scope (genEnv scope cl C code builtinsNs X.env) fp a og) tg1 g1)
    (ht1 : ∀ (A : Around) (s : Shared) (H : Hp) (C : Addr) (cl : List (Str × Addr)) (code : Value) (fp : List Addr) (a : Addr) (og : Obj), A.handled = none → A.depth ≤ X.A.depth + 1 → A.units ≤ X.A.units + 12 → PTs (gcx X A s H scope (genEnv scope cl C code builtinsNs X.env) fp a og) ifs1 tt1)
    (he : ∀ (A : Around) (s : Shared) (H : Hp) (C : Addr) (cl : List (Str × Addr)) (code : Value) (fp : List Addr) (a : Addr) (og : Obj), A.handled = none → A.depth ≤ X.A.depth + 1 → A.units ≤ X.A.units + 12 → PE (gcx X A s H scope (genEnv scope cl C code builtinsNs X.env) fp a og) elt te) :
    GSegs X (.GeneratorExp elt [⟨tg, iter, ifs, 0⟩, ⟨tg1, iter1, ifs1, 0⟩] scope gpos) tg scope vs (lp2 g tt wi1 g1 tt1 te vs vs1) := by
  intro κ ea Em Fin k0 l0 A1 AG s4 s7 H4 C cl code fp a og it tn J σ hAG hAh hd hu _ T hal hfS hfp hsh hl0 I st nf hl
  obtain ⟨W, ⟨m0, w0⟩, turn⟩ := hl
  exact ⟨m0 + 1, seg_outer (X := gcx X AG s4 H4 scope (genEnv scope cl C code builtinsNs X.env) fp a og) (A := A1.in1) (ea := ea) (Em := Em) (Fin := Fin) (fp := fp) (vs := vs) (vs1 := vs1) (J := J) (σ := σ) (W := W)
    hAG hcalm rfl rfl hco T hal hfS hfp (hg AG s4 H4 C cl code fp a og) (ht AG s4 H4 C cl code fp a og hAh hd hu) (hi1 AG s4 H4 C cl code fp a og hAh hd hu) (hs1 _) (hg1 AG s4 H4 C cl code fp a og) (ht1 AG s4 H4 C cl code fp a og hAh hd hu) (he AG s4 H4 C cl code fp a og hAh hd hu) hsub turn (m0 + 1) m0 0 s7 s7 k0 l0 H4 (Nat.lt_succ_self _) hsh hl0 I st nf w0⟩
end
end MP
namespace MP
open PySem (Str)
inductive D where
  | non | bl (b : Bool) | int (i : Int) | str (x : Str) | tup (ds : List D) | ref (n : Nat)
  deriving Inhabited
mutual
def D.eqv : D → D → Bool
  | .non, .non => true
  | .bl a, .bl b => a == b
  | .bl a, .int j => (if a then 1 else 0) == j
  | .int i, .bl b => i == (if b then 1 else 0)
  | .int i, .int j => i == j
  | .str x, .str y => x == y
  | .tup xs, .tup ys => D.eqvs xs ys
  | _, _ => false
termination_by structural x => x
def D.eqvs : List D → List D → Bool
  | [], [] => true
  | x :: xs, y :: ys => D.eqv x y && D.eqvs xs ys
  | _, _ => false
termination_by structural x => x
end
mutual
def D.flat : Nat → D → Bool
  | _, .ref _ => false
  | 0, .tup _ => false
  | n + 1, .tup ds => D.flats n ds
  | _, _ => true
def D.flats : Nat → List D → Bool
  | _, [] => true
  | n, d :: r => D.flat n d && D.flats n r
end
def deep : Nat := 300
inductive HB where
  | lst (ds : List D) | rol (ds : List D) | dic (kvs : List (D × D)) | set (ds : List D) | ins (C : Nat) (fs : List (Str × D))
  | frz (kvs : List (D × D))
  deriving Inhabited
abbrev HI := List HB
abbrev St := List (Option D)
abbrev Rz := Option (D × HI)
def big : Nat := 16777216
def hnew (h : HI) (o : HB) : Rz := some (.ref h.length, h ++ [o])
def lstOf (h : HI) : D → Option (List D)
  | .ref n => match h[n]? with
    | some (.lst ds) => some ds
    | some (.rol ds) => some ds
    | _ => none
  | _ => none
def seqOf (h : HI) : D → Option (List D)
  | .tup ds => some ds
  | d => lstOf h d
def D.key : D → Bool
  | .int _ => true
  | .str _ => true
  | _ => false
def kFind (kvs : List (D × D)) (k : D) : Option D := (kvs.find? fun p => D.eqv p.1 k).map (·.2)
def kPut (kvs : List (D × D)) (k v : D) : List (D × D) :=
  if (kvs.any fun p => D.eqv p.1 k) = true then kvs.map (fun p => if D.eqv p.1 k = true then (p.1, v) else p) else kvs ++ [(k, v)]
inductive BOp | add | sub | mul | mod | fdv | pow
  deriving DecidableEq
inductive COp | eq | ne | lt | le | gt | ge | isN | notN | inn | nin
  deriving DecidableEq
def small64 (i : Int) : Bool := decide (-(2 ^ 64) < i) && decide (i < 2 ^ 64)
def intOp : BOp → Int → Int → Option Int
  | .add, i, j => some (i + j)
  | .sub, i, j => some (i - j)
  | .mul, i, j => if small64 i || small64 j then some (i * j) else none
  | .mod, i, j => if j = 0 then none else some (i.fmod j)
  | .fdv, i, j => if j ≠ 0 ∧ j.natAbs < 1073741824 then some (i.fdiv j) else none
  | .pow, i, j => if 0 ≤ j ∧ j ≤ 1000000 ∧ i.natAbs < 2 ^ 64 then some (i ^ j.toNat) else none
def binD (op : BOp) (x y : D) (h : HI) : Rz :=
  match x, y with
  | .int i, .int j => (intOp op i j).map fun k => (.int k, h)
  | .str a, .str b => if op = .add ∧ a.cps.size + b.cps.size ≤ big then some (.str ⟨a.cps ++ b.cps⟩, h) else none
  | .tup a, .tup b => if op = .add ∧ a.length + b.length ≤ big then some (.tup (a ++ b), h) else none
  | .ref m, .ref n => match h[m]?, h[n]? with
    | some (.lst a), some (.lst b) => if op = .add ∧ a.length + b.length ≤ big then hnew h (.lst (a ++ b)) else none
    | _, _ => none
  | _, _ => none
def isNon : D → Bool
  | .non => true
  | _ => false
def anyEq (x : D) (ds : List D) : Bool := ds.any fun y => D.eqv y x
def inD (x y : D) (h : HI) : Option Bool :=
  match y with
  | .tup ds => if D.flat deep x && D.flats deep ds then some (anyEq x ds) else none
  | .ref n => match h[n]? with
    | some (.lst ds) => if D.flat deep x && D.flats deep ds then some (anyEq x ds) else none
    | some (.rol ds) => if D.flat deep x && D.flats deep ds then some (anyEq x ds) else none
    | some (.dic kvs) => if x.key then some (kFind kvs x).isSome else none
    | _ => none
  | _ => none
def cmpB (op : COp) (x y : D) (h : HI) : Option Bool :=
  match op with
  | .eq => if D.flat deep x && D.flat deep y then some (D.eqv x y) else none
  | .ne => if D.flat deep x && D.flat deep y then some (!D.eqv x y) else none
  | .lt => match x, y with | .int i, .int j => some (decide (i < j)) | _, _ => none
  | .le => match x, y with | .int i, .int j => some (decide (i ≤ j)) | _, _ => none
  | .gt => match x, y with | .int i, .int j => some (decide (j < i)) | _, _ => none
  | .ge => match x, y with | .int i, .int j => some (decide (j ≤ i)) | _, _ => none
  | .isN => if isNon y then some (isNon x) else none
  | .notN => if isNon y then some (!isNon x) else none
  | .inn => inD x y h
  | .nin => (inD x y h).map (!·)
def truth (d : D) (h : HI) : Option Bool :=
  match d with
  | .non => some false
  | .bl b => some b
  | .int i => some (i != 0)
  | .str x => if x.cps.size ≤ big then some (x.cps.size != 0) else none
  | .tup ds => some (!ds.isEmpty)
  | .ref n => match h[n]? with
    | some (.lst ds) => some (!ds.isEmpty)
    | some (.rol ds) => some (!ds.isEmpty)
    | some (.dic kvs) => some (!kvs.isEmpty)
    | _ => none
def ixAt (n : Nat) (i : Int) : Option Nat := if 0 ≤ i then (if i < n then some i.toNat else none) else if -(n : Int) ≤ i then some (i + n).toNat else none
def atD (ds : List D) (i : Int) : Option D := (ixAt ds.length i).bind fun j => ds[j]?
def idxD (x i : D) (h : HI) : Rz :=
  match x, i with
  | .tup ds, .int k => (atD ds k).map fun d => (d, h)
  | .str z, .int k => if z.cps.size ≤ big then ((ixAt z.cps.size k).bind fun j => z.cps[j]?).map fun c => (.str ⟨#[c]⟩, h) else none
  | .ref n, i => match h[n]?, i with
    | some (.lst ds), .int k => (atD ds k).map fun d => (d, h)
    | some (.rol ds), .int k => (atD ds k).map fun d => (d, h)
    | some (.dic kvs), i => if i.key then (kFind kvs i).map fun d => (d, h) else none
    | _, _ => none
  | _, _ => none
def clip (n d : Nat) : Option Int → Nat
  | none => d
  | some i => if 0 ≤ i then min i.toNat n else (i + n).toNat
def cut {α : Type} (xs : List α) (lo hi : Option Int) : List α := (xs.drop (clip xs.length 0 lo)).take (clip xs.length xs.length hi - clip xs.length 0 lo)
def slcD (x : D) (lo hi : Option Int) (h : HI) : Rz :=
  match x with
  | .tup ds => some (.tup (cut ds lo hi), h)
  | .str z => if z.cps.size ≤ big then some (.str ⟨(cut z.cps.toList lo hi).toArray⟩, h) else none
  | .ref n => match h[n]? with
    | some (.lst ds) => hnew h (.lst (cut ds lo hi))
    | some (.rol ds) => hnew h (.lst (cut ds lo hi))
    | _ => none
  | _ => none
def setIx (x i v : D) (h : HI) : Option HI :=
  match x, i with
  | .ref n, i => match h[n]?, i with
    | some (.lst ds), .int k => (ixAt ds.length k).map fun j => h.set n (.lst (ds.set j v))
    | some (.dic kvs), i => if i.key && decide (kvs.length < big) then some (h.set n (.dic (kPut kvs i v))) else none
    | _, _ => none
  | _, _ => none
def leS (a b : Str) : Bool := !decide (b.cps.toList < a.cps.toList)
def insS (x : Str) : List Str → List Str
  | [] => [x]
  | y :: r => if leS x y then x :: y :: r else y :: insS x r
def srtS : List Str → List Str
  | [] => []
  | x :: r => insS x (srtS r)
def onceS : List Str → List Str
  | [] => []
  | x :: r => if x ∈ r then onceS r else x :: onceS r
def ltI : List Int → List Int → Bool
  | [], [] => false
  | [], _ :: _ => true
  | _ :: _, [] => false
  | x :: xs, y :: ys => if x = y then ltI xs ys else decide (x < y)
def leL (a b : List Int) : Bool := !ltI b a
def insL (x : List Int) : List (List Int) → List (List Int)
  | [] => [x]
  | y :: r => if leL x y then x :: y :: r else y :: insL x r
def srtL : List (List Int) → List (List Int)
  | [] => []
  | x :: r => insL x (srtL r)
def intsD : List D → Option (List Int)
  | [] => some []
  | .int i :: r => (intsD r).map (i :: ·)
  | _ => none
def tupsD : List D → Option (List (List Int))
  | [] => some []
  | .tup ds :: r => (intsD ds).bind fun l => (tupsD r).map (l :: ·)
  | _ => none
def tupI (l : List Int) : D := .tup (l.map .int)
def strsOf : List D → Option (List Str)
  | [] => some []
  | .str x :: r => (strsOf r).map (x :: ·)
  | _ => none
inductive Ty | int | bool | str | tup | lst | dic
  deriving DecidableEq
inductive Blt | len | int | str | list | tuple | isi (t : Ty) | srt | dict
  deriving DecidableEq
inductive Mth | append | extend | pop | get
  deriving DecidableEq
def hasTy (t : Ty) (d : D) (h : HI) : Option Bool :=
  match d with
  | .non => some false
  | .bl _ => some (t = .bool || t = .int)
  | .int _ => some (t = .int)
  | .str _ => some (t = .str)
  | .tup _ => some (t = .tup)
  | .ref n => match h[n]? with
    | some (.lst _) => some (t = .lst)
    | some (.rol _) => some (t = .lst)
    | some (.dic _) => some (t = .dic)
    | _ => none
def signs (z : Str) : List D := z.cps.toList.map fun c => .str ⟨#[c]⟩
def bltD (b : Blt) (args : List D) (h : HI) : Rz :=
  match b, args with
  | .len, [.str z] => if z.cps.size ≤ big then some (.int z.cps.size, h) else none
  | .len, [.tup ds] => some (.int ds.length, h)
  | .len, [.ref n] => match h[n]? with
    | some (.lst ds) => some (.int ds.length, h)
    | some (.rol ds) => some (.int ds.length, h)
    | some (.dic kvs) => some (.int kvs.length, h)
    | _ => none
  | .int, [.int i] => some (.int i, h)
  | .int, [.bl b] => some (.int (if b then 1 else 0), h)
  | .str, [.int i] => if i.natAbs.log2 < 1920 then some (.str (Str.ofString (toString i)), h) else none
  | .list, [.str z] => if z.cps.size ≤ big then hnew h (.lst (signs z)) else none
  | .list, [.tup ds] => hnew h (.lst ds)
  | .list, [.ref n] => match h[n]? with
    | some (.lst ds) => hnew h (.lst ds)
    | some (.rol ds) => hnew h (.lst ds)
    | _ => none
  | .tuple, [.tup ds] => some (.tup ds, h)
  | .tuple, [.ref n] => match h[n]? with
    | some (.lst ds) => some (.tup ds, h)
    | some (.rol ds) => some (.tup ds, h)
    | _ => none
  | .isi t, [d] => (hasTy t d h).map fun b => (.bl b, h)
  | .srt, [.ref n] => match h[n]? with
    | some (.lst (.tup [] :: ds)) => (tupsD ds).bind fun l => if l.length < 63 then hnew h (.lst ((srtL ([] :: l)).map tupI)) else none
    | some (.lst ds) => (strsOf ds).bind fun l => if l.length < 64 then hnew h (.lst ((srtS l).map .str)) else none
    | some (.rol ds) => (strsOf ds).bind fun l => if l.length < 64 then hnew h (.lst ((srtS l).map .str)) else none
    | some (.dic kvs) => (strsOf (kvs.map (·.1))).bind fun l => if l.length < 64 then hnew h (.lst ((srtS l).map .str)) else none
    | _ => none
  | .dict, [.ref n] => match h[n]? with
    | some (.dic kvs) => hnew h (.dic kvs)
    | _ => none
  | _, _ => none
def revD (d : D) (h : HI) : Rz := (lstOf h d).bind fun ds => hnew h (.lst ds.reverse)
def gixD (kvs : List (D × D)) (d : D) (h : HI) : Rz :=
  match d with
  | .int i => (kFind kvs (.int i)).map fun v => (v, h)
  | _ => none
def ginD (neg : Bool) (kvs : List (D × D)) (d : D) (h : HI) : Rz :=
  match d with
  | .int i => some (.bl (if neg then !(kFind kvs (.int i)).isSome else (kFind kvs (.int i)).isSome), h)
  | _ => none
def sscD (d : D) (h : HI) : Rz :=
  match d with
  | .tup ds => (strsOf ds).bind fun l => if l.length < 63 then hnew h (.lst ((srtS (onceS l)).map .str)) else none
  | _ => none
def sstD (d : D) (h : HI) : Rz := (lstOf h d).bind fun ds => (strsOf ds).bind fun l => if l.length < 63 then hnew h (.lst ((srtS (onceS l)).map .str)) else none
def mthD (m : Mth) (o : D) (args : List D) (h : HI) : Rz :=
  match m, o, args with
  | .append, .ref n, [d] => match h[n]? with
    | some (.lst ds) => if ds.length < big then some (.non, h.set n (.lst (ds ++ [d]))) else none
    | _ => none
  | .extend, .ref n, [.ref m] => match h[n]?, h[m]? with
    | some (.lst ds), some (.lst es) => if ds.length + es.length ≤ big then some (.non, h.set n (.lst (ds ++ es))) else none
    | _, _ => none
  | .pop, .ref n, [] => match h[n]? with
    | some (.lst ds) => match ds.getLast? with
      | some d => some (d, h.set n (.lst ds.dropLast))
      | none => none
    | _ => none
  | .get, .ref n, [k] => match h[n]? with
    | some (.dic kvs) => if k.key then some ((kFind kvs k).getD .non, h) else none
    | _ => none
  | .get, .ref n, [k, d] => match h[n]? with
    | some (.dic kvs) => if k.key then some ((kFind kvs k).getD d, h) else none
    | _ => none
  | _, _, _ => none
def recv (m : Mth) (d : D) (h : HI) : Bool :=
  match m, d with
  | .get, .ref n => match h[n]? with
    | some (.dic _) => true
    | _ => false
  | .append, .ref n => match h[n]? with
    | some (.lst _) => true
    | _ => false
  | .extend, .ref n => match h[n]? with
    | some (.lst _) => true
    | _ => false
  | .pop, .ref n => match h[n]? with
    | some (.lst _) => true
    | _ => false
  | _, _ => false
inductive CK | lst | gtup | gall | gany | gsum | dct | sset
  deriving DecidableEq
mutual
inductive ME where
  | var (i : Nat) | cst (d : D) | glb (d : D)
  | tup (es : MEs) | lst (es : MEs) | dnew
  | bin (op : BOp) (a b : ME) | neg (a : ME)
  | cmp (op : COp) (a b : ME)
  | and (a b : ME) | or (a b : ME) | not (a : ME) | ife (c a b : ME)
  | idx (a i : ME) | slc (a lo hi : ME) | omit
  | call (f : Nat) (es : MEs) | blt (b : Blt) (es : MEs) | isi (t : Ty) (a : ME) | sst (a : ME) | lck (i : Nat) (a : ME) | mth (m : Mth) (o : ME) (es : MEs)
  | comp (k : CK) (own : List Nat) (c : Cl)
  | x (m : MX)
inductive MX where
  | chn (o1 o2 : COp) (a b c : ME) | gix (kvs : List (D × D)) (a : ME) | gin (neg : Bool) (kvs : List (D × D)) (a : ME) | drg (a : ME) | rev (a : ME) | dst (a k v : ME) | ssc (own : List Nat) (c : Cl) | gn2 (k : CK) (own : List Nat) (c : Cl)
inductive MEs where
  | nil | cons (e : ME) (es : MEs)
inductive MI where
  | ex (e : ME) | rng (es : MEs) | zip (a b : ME) | enm (a : ME) | kys (e : ME)
inductive Tg where
  | nm (i : Nat) | tp (ts : Tgs)
inductive Tgs where
  | nil | cons (t : Tg) (ts : Tgs)
inductive Cl where
  | one (t : Tg) (i : MI) (c e v : ME)
  | more (t : Tg) (i : MI) (c : ME) (own : List Nat) (r : Cl)
end
mutual
inductive MS where
  | asg (t : Tg) (e : ME) | par (i j : Nat) (a b : ME) | sub (o i e : ME)
  | expr (e : ME) | ret (e : ME) | retN
  | ite (c : ME) (a b : MSs)
  | fr (t : Tg) (i : MI) (b : MSs) | whl (c : ME) (b : MSs)
  | brk | cont | pass
  | aug (i : Nat) (op : BOp) (e : ME)
inductive MSs where
  | nil | cons (s : MS) (r : MSs)
end
inductive It where
  | seq (ds : List D) | live (n len : Nat) | zip (a b : It) | enm (a : It)
def It.len : It → Nat
  | .seq ds => ds.length
  | .live _ k => k
  | .zip a b => min a.len b.len
  | .enm a => a.len
def It.nx : It → Nat → HI → Option D
  | .seq ds, i, _ => ds[i]?
  | .live n _, i, h => (lstOf h (.ref n)).bind fun ds => ds[i]?
  | .zip a b, i, h => match a.nx i h, b.nx i h with
    | some x, some y => some (.tup [x, y])
    | _, _ => none
  | .enm a, i, h => (a.nx i h).map fun x => .tup [.int i, x]
def It.fin : It → HI → Bool
  | .live n k, h => match lstOf h (.ref n) with
    | some ds => decide (ds.length ≤ k)
    | none => false
  | .zip a b, h => a.fin h && b.fin h
  | .enm a, h => a.fin h
  | .seq _, _ => true
def keysOf (d : D) (h : HI) : Option It :=
  match d with
  | .ref n => match h[n]? with
    | some (.frz kvs) => some (.seq (kvs.map (·.1)))
    | _ => none
  | _ => none
def lckD (d : Option D) (h : HI) : Option (Nat × List (D × D)) :=
  match d with
  | some (.ref n) => match h[n]? with
    | some (.dic kvs) => some (n, kvs)
    | _ => none
  | _ => none
def unlD (n : Nat) (h : HI) : Option HI :=
  match h[n]? with
  | some (.frz kvs) => some (h.set n (.dic kvs))
  | _ => none
def itOf (d : D) (h : HI) : Option It :=
  match d with
  | .tup ds => some (.seq ds)
  | .str z => if z.cps.size ≤ big then some (.seq (signs z)) else none
  | .ref n => (lstOf h (.ref n)).map fun ds => .live n ds.length
  | _ => none
def zipOf (d e : D) (h : HI) : Option It :=
  match d, e with
  | .tup ds, .tup es => some (.zip (.seq ds) (.seq es))
  | .ref m, .ref n => match lstOf h (.ref m), lstOf h (.ref n) with
    | some ds, some es => some (.zip (.live m ds.length) (.live n es.length))
    | _, _ => none
  | _, _ => none
def enmOf (d : D) (h : HI) : Option It :=
  match d with
  | .ref n => (lstOf h (.ref n)).map fun ds => .enm (.live n ds.length)
  | _ => none
def rngIt : List D → Option It
  | [.int j] => if -(2 ^ 62) ≤ j ∧ j < 2 ^ 62 then some (.seq ((List.range j.toNat).map fun k => .int (k : Nat))) else none
  | [.int i, .int j] => if -(2 ^ 62) ≤ i ∧ i < 2 ^ 62 ∧ -(2 ^ 62) ≤ j ∧ j < 2 ^ 62 then some (.seq ((List.range (j - i).toNat).map fun k => .int (i + (k : Nat)))) else none
  | _ => none
def loopN {α β : Type} (nx : Nat → HI → Option D) (fin : HI → Bool) (body : D → α → HI → Option ((α ⊕ β) × HI)) : Nat → Nat → α → HI → Option ((α ⊕ β) × HI)
  | 0, _, a, h => if fin h then some (.inl a, h) else none
  | r + 1, i, a, h => match nx i h with
    | none => none
    | some d => match body d a h with
      | some (.inl a', h') => loopN nx fin body r (i + 1) a' h'
      | some (.inr b, h') => some (.inr b, h')
      | none => none
mutual
def bind1 : Tg → D → St → Option St
  | .nm i, d, σ => if i < σ.length then some (σ.set i (some d)) else none
  | .tp ts, .tup ds, σ => binds ts ds σ
  | _, _, _ => none
def binds : Tgs → List D → St → Option St
  | .nil, [], σ => some σ
  | .cons t ts, d :: ds, σ => (bind1 t d σ).bind fun σ' => binds ts ds σ'
  | _, _, _ => none
end
def wipeD (σ : St) : List Nat → St
  | [] => σ
  | v :: vs => (wipeD σ vs).set v none
inductive Acc where
  | ds (l : List D) | sum (i : Int) | yes
def acc0 (k : CK) (h : HI) : Acc × HI :=
  match k with
  | .lst => (.ds [], h ++ [.lst []])
  | .dct => (.ds [], h ++ [.dic []])
  | .gtup => (.ds [], h)
  | .sset => (.ds [], h)
  | .gsum => (.sum 0, h)
  | _ => (.yes, h)
section run
variable (cl : Nat → List D → HI → Rz)
def emit (k : CK) (n : Nat) (d v : D) (a : Acc) (h : HI) : Option ((Acc ⊕ D) × HI) :=
  match k, a with
  | .lst, a => match h[n]? with
    | some (.lst ds) => if ds.length < big then some (.inl a, h.set n (.lst (ds ++ [d]))) else none
    | _ => none
  | .dct, a => match h[n]? with
    | some (.dic kvs) => if d.key && decide (kvs.length < big) then some (.inl a, h.set n (.dic (kPut kvs d v))) else none
    | _ => none
  | .gtup, .ds l => if l.length < big then some (.inl (.ds (l ++ [d])), h) else none
  | .sset, .ds l => match d with
    | .str _ => if l.length < 62 then some (.inl (.ds (l ++ [d])), h) else none
    | _ => none
  | .gsum, .sum i => match d with
    | .int j => if -(2 ^ 62) < j ∧ j < 2 ^ 62 ∧ -(2 ^ 62) < i + j ∧ i + j < 2 ^ 62 then some (.inl (.sum (i + j)), h) else none
    | _ => none
  | .gall, a => match d with
    | .bl true => some (.inl a, h)
    | .bl false => some (.inr (.bl false), h)
    | _ => none
  | .gany, a => match d with
    | .bl false => some (.inl a, h)
    | .bl true => some (.inr (.bl true), h)
    | _ => none
  | _, _ => none
def compEnd (k : CK) (n : Nat) (a : Acc) : Option D :=
  match k, a with
  | .lst, _ => some (.ref n)
  | .dct, _ => some (.ref n)
  | .gtup, .ds l => some (.tup l)
  | .sset, .ds l => some (.tup l)
  | .gsum, .sum i => some (.int i)
  | .gall, _ => some (.bl true)
  | .gany, _ => some (.bl false)
  | _, _ => none
def partOf : Bool → D → Option (Option Int)
  | true, _ => some none
  | false, .int i => some (some i)
  | _, _ => none
def isOmit : ME → Bool
  | .omit => true
  | _ => false
mutual
def evE : ME → St → HI → Rz
  | .var i, σ, h => match σ[i]? with
    | some (some d) => some (d, h)
    | _ => none
  | .cst d, _, h => some (d, h)
  | .glb d, _, h => some (d, h)
  | .tup es, σ, h => (evEs es σ h).bind fun r => if r.1.length ≤ big then some (.tup r.1, r.2) else none
  | .lst es, σ, h => (evEs es σ h).bind fun r => if r.1.length ≤ big then hnew r.2 (.lst r.1) else none
  | .dnew, _, h => hnew h (.dic [])
  | .bin op a b, σ, h => (evE a σ h).bind fun r => (evE b σ r.2).bind fun q => binD op r.1 q.1 q.2
  | .neg a, σ, h => (evE a σ h).bind fun r => match r.1 with
    | .int i => some (.int (-i), r.2)
    | _ => none
  | .cmp op a b, σ, h => (evE a σ h).bind fun r => (evE b σ r.2).bind fun q => (cmpB op r.1 q.1 q.2).map fun c => (.bl c, q.2)
  | .and a b, σ, h => (evE a σ h).bind fun r => match truth r.1 r.2 with
    | some true => evE b σ r.2
    | some false => some r
    | none => none
  | .or a b, σ, h => (evE a σ h).bind fun r => match truth r.1 r.2 with
    | some true => some r
    | some false => evE b σ r.2
    | none => none
  | .not a, σ, h => (evE a σ h).bind fun r => (truth r.1 r.2).map fun c => (.bl (!c), r.2)
  | .ife c a b, σ, h => (evE c σ h).bind fun r => match truth r.1 r.2 with
    | some true => evE a σ r.2
    | some false => evE b σ r.2
    | none => none
  | .idx a i, σ, h => (evE a σ h).bind fun r => (evE i σ r.2).bind fun q => idxD r.1 q.1 q.2
  | .slc a lo hi, σ, h => (evE a σ h).bind fun r => (evE lo σ r.2).bind fun p => (evE hi σ p.2).bind fun q =>
      match partOf (isOmit lo) p.1, partOf (isOmit hi) q.1 with
      | some l, some u => slcD r.1 l u q.2
      | _, _ => none
  | .omit, _, h => some (.non, h)
  | .call f es, σ, h => (evEs es σ h).bind fun r => cl f r.1 r.2
  | .blt b es, σ, h => (evEs es σ h).bind fun r => bltD b r.1 r.2
  | .isi t a, σ, h => (evE a σ h).bind fun r => bltD (.isi t) [r.1] r.2
  | .sst a, σ, h => (evE a σ h).bind fun r => sstD r.1 r.2
  | .lck i a, σ, h => (lckD (σ.getD i none) h).bind fun q => (evE a σ (h.set q.1 (.frz q.2))).bind fun r => (unlD q.1 r.2).map fun h2 => (r.1, h2)
  | .mth m o es, σ, h => (evE o σ h).bind fun r => if recv m r.1 r.2 then (evEs es σ r.2).bind fun q => mthD m r.1 q.1 q.2 else none
  | .comp k own c, σ, h => evC k own c σ h
  | .x m, σ, h => evX m σ h
def evX : MX → St → HI → Rz
  | .chn o1 o2 a b c, σ, h => (evE a σ h).bind fun r => (evE b σ r.2).bind fun q => (cmpB o1 r.1 q.1 q.2).bind fun t => if t then (evE c σ q.2).bind fun u => (cmpB o2 q.1 u.1 u.2).map fun t2 => (.bl t2, u.2) else some (.bl false, q.2)
  | .gix kvs a, σ, h => (evE a σ h).bind fun r => gixD kvs r.1 r.2
  | .gin neg kvs a, σ, h => (evE a σ h).bind fun r => ginD neg kvs r.1 r.2
  | .drg a, σ, h => (evE a σ h).bind fun r => match r.1 with
    | .int j => if 0 ≤ j ∧ j < 65536 then hnew r.2 (.lst ((List.range j.toNat).map fun k => .int (k : Nat))) else none
    | _ => none
  | .rev a, σ, h => (evE a σ h).bind fun r => revD r.1 r.2
  | .dst a k v, σ, h => (evE a σ (h ++ [.dic []])).bind fun r => match r.1 with
    | .ref m => if m = h.length then none else match r.2[h.length]?, r.2[m]? with
      | some (.dic []), some (.dic kvs) => if kvs.length < 8000000 then (evE k σ (r.2.set h.length (.dic kvs) ++ [.dic []])).bind fun p => (evE v σ p.2).bind fun q => match q.2[h.length]?, q.2[r.2.length]? with
        | some (.dic kv1), some (.dic []) => if p.1.key && decide (kv1.length < 8000000) then some (.ref h.length, (q.2.set r.2.length (.dic [(p.1, q.1)])).set h.length (.dic (kPut kv1 p.1 q.1))) else none
        | _, _ => none
        else none
      | _, _ => none
    | _ => none
  | .ssc own c, σ, h => (evC .sset own c σ h).bind fun r => sscD r.1 r.2
  | .gn2 k own c, σ, h => evC k own c σ h
def evEs : MEs → St → HI → Option (List D × HI)
  | .nil, _, h => some ([], h)
  | .cons e es, σ, h => (evE e σ h).bind fun r => (evEs es σ r.2).bind fun q => some (r.1 :: q.1, q.2)
def evI : MI → St → HI → Option (It × HI)
  | .ex e, σ, h => (evE e σ h).bind fun r => (itOf r.1 r.2).map fun t => (t, r.2)
  | .rng es, σ, h => (evEs es σ h).bind fun r => (rngIt r.1).map fun t => (t, r.2)
  | .zip a b, σ, h => (evE a σ h).bind fun r => (evE b σ r.2).bind fun q => (zipOf r.1 q.1 q.2).map fun t => (t, q.2)
  | .enm a, σ, h => (evE a σ h).bind fun r => (enmOf r.1 r.2).map fun t => (t, r.2)
  | .kys a, σ, h => (evE a σ h).bind fun r => (keysOf r.1 r.2).map fun t => (t, r.2)
def evC (k : CK) (own : List Nat) : Cl → St → HI → Rz
  | .one t i c e v, σ, h => (evI i σ h).bind fun r =>
      (loopN r.1.nx r.1.fin (fun d a h => (bind1 t d (wipeD σ own)).bind fun σ' => (evE c σ' h).bind fun q => match truth q.1 q.2 with
        | some true => (evE e σ' q.2).bind fun x => (evE v σ' x.2).bind fun y => emit k r.2.length x.1 y.1 a y.2
        | some false => some (.inl a, q.2)
        | none => none) r.1.len 0 (acc0 k r.2).1 (acc0 k r.2).2).bind fun z => match z.1 with
          | .inl a => (compEnd k r.2.length a).map fun d => (d, z.2)
          | .inr d => some (d, z.2)
  | .more t i c own1 l, σ, h => (evI i σ h).bind fun r =>
      (loopN r.1.nx r.1.fin (fun d a h => (bind1 t d (wipeD σ own)).bind fun σ' => (evE c σ' h).bind fun q => match truth q.1 q.2 with
        | some true => evD k own1 r.2.length l a σ' q.2
        | some false => some (.inl a, q.2)
        | none => none) r.1.len 0 (acc0 k r.2).1 (acc0 k r.2).2).bind fun z => match z.1 with
          | .inl a => (compEnd k r.2.length a).map fun d => (d, z.2)
          | .inr d => some (d, z.2)
def evD (k : CK) (own : List Nat) (n : Nat) : Cl → Acc → St → HI → Option ((Acc ⊕ D) × HI)
  | .one t i c e v, a, σ, h => (evI i σ h).bind fun r =>
      loopN r.1.nx r.1.fin (fun d a h => (bind1 t d (wipeD σ own)).bind fun σ' => (evE c σ' h).bind fun q => match truth q.1 q.2 with
        | some true => (evE e σ' q.2).bind fun x => (evE v σ' x.2).bind fun y => emit k n x.1 y.1 a y.2
        | some false => some (.inl a, q.2)
        | none => none) r.1.len 0 a r.2
  | .more t i c own1 l, a, σ, h => (evI i σ h).bind fun r =>
      loopN r.1.nx r.1.fin (fun d a h => (bind1 t d (wipeD σ own)).bind fun σ' => (evE c σ' h).bind fun q => match truth q.1 q.2 with
        | some true => evD k own1 n l a σ' q.2
        | some false => some (.inl a, q.2)
        | none => none) r.1.len 0 a r.2
end
end run
inductive Fl where
  | nx (σ : St) | brk (σ : St) | ct (σ : St) | rt (d : D)
section runS
variable (cl : Nat → List D → HI → Rz) (wf : Nat)
def whileN (test : St → HI → Option (Bool × HI)) (body : St → HI → Option (Fl × HI)) : Nat → St → HI → Option (Fl × HI)
  | 0, _, _ => none
  | n + 1, σ, h => match test σ h with
    | some (true, h1) => match body σ h1 with
      | some (.nx σ', h2) => whileN test body n σ' h2
      | some (.ct σ', h2) => whileN test body n σ' h2
      | some (.brk σ', h2) => some (.nx σ', h2)
      | some (.rt d, h2) => some (.rt d, h2)
      | none => none
    | some (false, h1) => some (.nx σ, h1)
    | none => none
def afterFor : (St ⊕ Fl) → Fl
  | .inl σ => .nx σ
  | .inr (.brk σ) => .nx σ
  | .inr f => f
def turnOf : Fl → St ⊕ Fl
  | .nx σ => .inl σ
  | .ct σ => .inl σ
  | f => .inr f
def testE (c : ME) (σ : St) (h : HI) : Option (Bool × HI) := (evE cl c σ h).bind fun r => (truth r.1 r.2).map fun b => (b, r.2)
mutual
def evS : MS → St → HI → Option (Fl × HI)
  | .asg t e, σ, h => (evE cl e σ h).bind fun r => (bind1 t r.1 σ).map fun σ' => (.nx σ', r.2)
  | .par i j a b, σ, h => (evE cl a σ h).bind fun r => (evE cl b σ r.2).bind fun q =>
      if i < σ.length ∧ j < σ.length then some (.nx ((σ.set i (some r.1)).set j (some q.1)), q.2) else none
  | .sub o i e, σ, h => (evE cl e σ h).bind fun r => (evE cl o σ r.2).bind fun p => (evE cl i σ p.2).bind fun q => (setIx p.1 q.1 r.1 q.2).map fun h' => (.nx σ, h')
  | .expr e, σ, h => (evE cl e σ h).map fun r => (.nx σ, r.2)
  | .ret e, σ, h => (evE cl e σ h).map fun r => (.rt r.1, r.2)
  | .retN, _, h => some (.rt .non, h)
  | .ite c a b, σ, h => (testE cl c σ h).bind fun r => if r.1 then evSs a σ r.2 else evSs b σ r.2
  | .fr t i b, σ, h => (evI cl i σ h).bind fun r =>
      (loopN r.1.nx r.1.fin (fun d σ h => (bind1 t d σ).bind fun σ' => (evSs b σ' h).map fun q => (turnOf q.1, q.2)) r.1.len 0 σ r.2).map fun z => (afterFor z.1, z.2)
  | .whl c b, σ, h => whileN (testE cl c) (evSs b) wf σ h
  | .brk, σ, h => some (.brk σ, h)
  | .cont, σ, h => some (.ct σ, h)
  | .pass, σ, h => some (.nx σ, h)
  | .aug i op e, σ, h => match σ[i]? with
    | some (some x) => (evE cl e σ h).bind fun r => (binD op x r.1 r.2).map fun q => (.nx (σ.set i (some q.1)), q.2)
    | _ => none
def evSs : MSs → St → HI → Option (Fl × HI)
  | .nil, σ, h => some (.nx σ, h)
  | .cons s r, σ, h => match evS s σ h with
    | some (.nx σ', h') => evSs r σ' h'
    | x => x
end
end runS
structure Def where
  np : Nat
  nn : Nat
  body : MSs
def startD (nn : Nat) (ds : List D) : St := ds.map some ++ List.replicate (nn - ds.length) none
def callI (P : List Def) (wf : Nat) : Nat → Nat → List D → HI → Rz
  | 0, _, _, _ => none
  | k + 1, f, ds, h => match P[f]? with
    | some d => if ds.length = d.np then match evSs (callI P wf k) wf d.body (startD d.nn ds) h with
        | some (.rt x, h') => some (x, h')
        | some (.nx _, h') => some (.non, h')
        | _ => none
      else none
    | none => none
end MP
namespace MP
open PySem (Str)
mutual
def D.idn : D → D → Bool
  | .non, .non => true
  | .bl a, .bl b => a == b
  | .int i, .int j => decide (i = j)
  | .str x, .str y => decide (x = y)
  | .tup xs, .tup ys => D.idns xs ys
  | .ref m, .ref n => decide (m = n)
  | _, _ => false
termination_by structural x => x
def D.idns : List D → List D → Bool
  | [], [] => true
  | x :: xs, y :: ys => D.idn x y && D.idns xs ys
  | _, _ => false
termination_by structural x => x
end
mutual
theorem D.idn_eq : ∀ (x y : D), D.idn x y = true → x = y
  | .non, y, h => by cases y <;> simp_all [D.idn]
  | .bl a, y, h => by cases y <;> simp_all [D.idn]
  | .int a, y, h => by cases y <;> simp_all [D.idn]
  | .str a, y, h => by cases y <;> simp_all [D.idn]
  | .ref a, y, h => by cases y <;> simp_all [D.idn]
  | .tup a, .tup b, h => by rw [D.idns_eq a b (by simpa [D.idn] using h)]
  | .tup a, .non, h => by simp [D.idn] at h
  | .tup a, .bl _, h => by simp [D.idn] at h
  | .tup a, .int _, h => by simp [D.idn] at h
  | .tup a, .str _, h => by simp [D.idn] at h
  | .tup a, .ref _, h => by simp [D.idn] at h
theorem D.idns_eq : ∀ (x y : List D), D.idns x y = true → x = y
  | [], [], _ => rfl
  | [], y :: ys, h => by simp [D.idns] at h
  | x :: xs, [], h => by simp [D.idns] at h
  | x :: xs, y :: ys, h => by
    simp only [D.idns, Bool.and_eq_true] at h
    rw [D.idn_eq x y h.1, D.idns_eq xs ys h.2]
end
mutual
theorem D.idn_rfl : ∀ (x : D), D.idn x x = true
  | .non => rfl
  | .bl a => by simp [D.idn]
  | .int a => by simp [D.idn]
  | .str a => by simp [D.idn]
  | .ref a => by simp [D.idn]
  | .tup a => by simp only [D.idn]; exact D.idns_rfl a
theorem D.idns_rfl : ∀ (x : List D), D.idns x x = true
  | [] => rfl
  | x :: xs => by simp only [D.idns, D.idn_rfl x, D.idns_rfl xs, Bool.and_self]
end
instance : DecidableEq D := fun x y => if h : D.idn x y = true then .isTrue (D.idn_eq x y h) else .isFalse fun e => h (e ▸ D.idn_rfl x)
def isLst (o : Option HB) (vs : List D) : Bool := match o with | some (.lst ds) => decide (ds = vs) | _ => false
theorem isLst_to {o : Option HB} {vs : List D} (h : isLst o vs = true) : o = some (.lst vs) := by
  unfold isLst at h
  split at h
  · rw [of_decide_eq_true h]
  · cases h
end MP
namespace MP
open PySem (Str)
theorem ins_perm (x : Str) : ∀ l, (insS x l).Perm (x :: l)
  | [] => List.Perm.refl _
  | y :: r => by
    unfold insS
    split
    · exact List.Perm.refl _
    · exact ((ins_perm x r).cons y).trans (List.Perm.swap x y r)
theorem srt_perm : ∀ l, (srtS l).Perm l
  | [] => List.Perm.refl _
  | x :: r => (ins_perm x (srtS r)).trans ((srt_perm r).cons x)
theorem leS_total (a b : Str) : leS a b = true ∨ leS b a = true := by
  unfold leS
  by_cases c : b.cps.toList < a.cps.toList
  · right
    have := List.lt_asymm c
    simp [this]
  · left
    simp [c]
theorem leS_trans {a b c : Str} (h1 : leS a b = true) (h2 : leS b c = true) : leS a c = true := by
  unfold leS at *
  simp only [Bool.not_eq_true', decide_eq_false_iff_not] at *
  have e1 : a.cps.toList ≤ b.cps.toList := h1
  have e2 : b.cps.toList ≤ c.cps.toList := h2
  exact (List.le_trans e1 e2 : a.cps.toList ≤ c.cps.toList)
theorem leS_anti {a b : Str} (h1 : leS a b = true) (h2 : leS b a = true) : a = b := by
  unfold leS at *
  simp only [Bool.not_eq_true', decide_eq_false_iff_not] at *
  have e1 : a.cps.toList ≤ b.cps.toList := h1
  have e2 : b.cps.toList ≤ a.cps.toList := h2
  have := List.le_antisymm e1 e2
  cases a; cases b
  simp only at this
  congr
  exact Array.ext' this
theorem ins_pw (x : Str) : ∀ {l : List Str}, l.Pairwise (fun a b => leS a b = true) → (insS x l).Pairwise (fun a b => leS a b = true)
  | [], _ => by simp [insS]
  | y :: r, h => by
    obtain ⟨h1, h2⟩ := List.pairwise_cons.mp h
    unfold insS
    by_cases c : leS x y = true
    · rw [if_pos c]
      refine List.pairwise_cons.mpr ⟨fun z hz => ?_, h⟩
      rcases List.mem_cons.mp hz with rfl | hz
      · exact c
      · exact leS_trans c (h1 z hz)
    · rw [if_neg c]
      refine List.pairwise_cons.mpr ⟨fun z hz => ?_, ins_pw x h2⟩
      rcases List.mem_cons.mp ((ins_perm x r).mem_iff.mp hz) with rfl | hz
      · exact (leS_total z y).resolve_left c
      · exact h1 z hz
theorem srt_pw : ∀ l, (srtS l).Pairwise (fun a b => leS a b = true)
  | [] => .nil
  | x :: r => ins_pw x (srt_pw r)
theorem srt_unique {ys zs : List Str} (p : ys.Perm zs) (h : ys.Pairwise (fun a b => leS a b = true)) : ys = srtS zs :=
  List.Perm.eq_of_pairwise (fun a b _ _ => leS_anti) h (srt_pw zs) (p.trans (srt_perm zs).symm)
end MP
namespace MP
open PySem PySem.Spec PyProof.Rows L2
mutual
inductive RV (K : PySem.W.Frag) (μ : List Addr) (H : Hp) : D → V → Prop where
  | non : RV K μ H .non .non
  | bl (b : Bool) : RV K μ H (.bl b) (.bl b)
  | int (i : Int) : RV K μ H (.int i) (.int i)
  | str (x : Str) : RV K μ H (.str x) (.str x)
  | tup {a : Addr} {ds : List D} {vs : List V} : SqT K H a vs → RVs K μ H ds vs → RV K μ H (.tup ds) (.ref a)
  | ref {n : Nat} {a : Addr} : μ[n]? = some a → RV K μ H (.ref n) (.ref a)
inductive RVs (K : PySem.W.Frag) (μ : List Addr) (H : Hp) : List D → List V → Prop where
  | nil : RVs K μ H [] []
  | cons {d : D} {ds : List D} {v : V} {vs : List V} : RV K μ H d v → RVs K μ H ds vs → RVs K μ H (d :: ds) (v :: vs)
end
def TSq (K : PySem.W.Frag) (H H' : Hp) : Prop := ∀ a xs, SqT K H a xs → SqT K H' a xs
def TK0 (K : PySem.W.Frag) (H H' : Hp) : Prop := TSq K H H' ∧ ∀ a o ks, H a = some (.frz o (.dK ks)) → H' a = some (.frz o (.dK ks))
def TK (K : PySem.W.Frag) (H H' : Hp) : Prop := TK0 K H H' ∧ ∀ a φ, H a = some (.ext φ) → H' a = some (.ext φ)
theorem TK0.refl {K : PySem.W.Frag} {H : Hp} : TK0 K H H := ⟨fun _ _ h => h, fun _ _ _ h => h⟩
theorem TK0.trans {K : PySem.W.Frag} {H H1 H2 : Hp} (a : TK0 K H H1) (b : TK0 K H1 H2) : TK0 K H H2 := ⟨fun c xs h => b.1 c xs (a.1 c xs h), fun c o ks h => b.2 c o ks (a.2 c o ks h)⟩
theorem TK.refl {K : PySem.W.Frag} {H : Hp} : TK K H H := ⟨TK0.refl, fun _ _ h => h⟩
theorem TK.trans {K : PySem.W.Frag} {H H1 H2 : Hp} (a : TK K H H1) (b : TK K H1 H2) : TK K H H2 := ⟨a.1.trans b.1, fun c φ h => b.2 c φ (a.2 c φ h)⟩
section
variable {K : PySem.W.Frag} {μ μ' : List Addr} {H H' : Hp}
theorem pre_get {n : Nat} {a : Addr} (p : μ <+: μ') (h : μ[n]? = some a) : μ'[n]? = some a := by
  obtain ⟨r, rfl⟩ := p
  rw [List.getElem?_append_left (by
    rcases Nat.lt_or_ge n μ.length with q | q
    · exact q
    · rw [List.getElem?_eq_none q] at h; cases h)]
  exact h
mutual
theorem RV.mono0 (p : μ <+: μ') (t : TSq K H H') : ∀ {d : D} {v : V}, RV K μ H d v → RV K μ' H' d v
  | _, _, .non => .non
  | _, _, .bl b => .bl b
  | _, _, .int i => .int i
  | _, _, .str x => .str x
  | _, _, .tup h r => .tup (t _ _ h) (RVs.mono0 p t r)
  | _, _, .ref h => .ref (pre_get p h)
theorem RVs.mono0 (p : μ <+: μ') (t : TSq K H H') : ∀ {ds : List D} {vs : List V}, RVs K μ H ds vs → RVs K μ' H' ds vs
  | _, _, .nil => .nil
  | _, _, .cons h r => .cons (RV.mono0 p t h) (RVs.mono0 p t r)
end
theorem RV.mono (p : μ <+: μ') (t : TK K H H') {d : D} {v : V} (h : RV K μ H d v) : RV K μ' H' d v := h.mono0 p t.1.1
theorem RVs.mono (p : μ <+: μ') (t : TK K H H') {ds : List D} {vs : List V} (h : RVs K μ H ds vs) : RVs K μ' H' ds vs := h.mono0 p t.1.1
theorem RVs.length : ∀ {ds : List D} {vs : List V}, RVs K μ H ds vs → ds.length = vs.length
  | _, _, .nil => rfl
  | _, _, .cons _ r => congrArg (· + 1) (RVs.length r)
theorem RVs.get : ∀ {ds : List D} {vs : List V} {i : Nat} {d : D}, RVs K μ H ds vs → ds[i]? = some d → ∃ v, vs[i]? = some v ∧ RV K μ H d v
  | _, _, _, _, .nil, e => by simp at e
  | _, _, 0, _, .cons h _, e => by simp at e; subst e; exact ⟨_, rfl, h⟩
  | _, _, i + 1, _, .cons _ r, e => by
    obtain ⟨v, h1, h2⟩ := RVs.get (i := i) r (by simpa using e)
    exact ⟨v, by simpa using h1, h2⟩
theorem RVs.append : ∀ {ds es : List D} {vs ws : List V}, RVs K μ H ds vs → RVs K μ H es ws → RVs K μ H (ds ++ es) (vs ++ ws)
  | _, _, _, _, .nil, s => s
  | _, _, _, _, .cons h r, s => .cons h (RVs.append r s)
theorem RVs.drop : ∀ {ds : List D} {vs : List V} (n : Nat), RVs K μ H ds vs → RVs K μ H (ds.drop n) (vs.drop n)
  | _, _, 0, r => r
  | _, _, _ + 1, .nil => .nil
  | _, _, n + 1, .cons _ r => RVs.drop n r
theorem RVs.take : ∀ {ds : List D} {vs : List V} (n : Nat), RVs K μ H ds vs → RVs K μ H (ds.take n) (vs.take n)
  | _, _, 0, _ => .nil
  | _, _, _ + 1, .nil => .nil
  | _, _, n + 1, .cons h r => .cons h (RVs.take n r)
theorem RVs.set {d : D} {v : V} (q : RV K μ H d v) : ∀ {ds : List D} {vs : List V} (i : Nat), RVs K μ H ds vs → RVs K μ H (ds.set i d) (vs.set i v)
  | _, _, _, .nil => .nil
  | _, _, 0, .cons _ r => .cons q r
  | _, _, i + 1, .cons h r => .cons h (RVs.set q i r)
theorem RVs.dropLast : ∀ {ds : List D} {vs : List V}, RVs K μ H ds vs → RVs K μ H ds.dropLast vs.dropLast
  | _, _, .nil => .nil
  | _, _, .cons _ .nil => .nil
  | _, _, .cons h (.cons g r) => .cons h (RVs.dropLast (.cons g r))
theorem RVs.strs {z : List Nat} : RVs K μ H (z.map fun c => .str ⟨#[c]⟩) (z.map fun c => .str ⟨#[c]⟩) := by
  induction z with
  | nil => exact .nil
  | cons c r ih => exact .cons (.str _) ih
end
def keyOf : D → Option Key
  | .int i => some (.inl i)
  | .str x => some (.inr x)
  | _ => none
def RKV (K : PySem.W.Frag) (μ : List Addr) (H : Hp) : List (D × D) → List (Key × V) → Prop := Paired fun p q => keyOf p.1 = some q.1 ∧ RV K μ H p.2 q.2
def RoL (K : PySem.W.Frag) (H : Hp) (a : Addr) (vs : List V) : Prop := (∃ o, H a = some (.frz o (.lst vs))) ∨
    ∃ (o : Obj) (its : Array Value) (n : Nat), K.lookup a = some o ∧ o.cls = .type "list" ∧ o.dict = none ∧ o.data = .seq its n ∧ its.size ≤ sizeLine ∧ Vals vs its.toList
theorem RoL.sq {K : PySem.W.Frag} {H : Hp} {a : Addr} {vs : List V} (h : RoL K H a vs) : SqL K H a vs := h.elim (fun ⟨o, e⟩ => .inl (.inr ⟨o, e⟩)) .inr
def OR (K : PySem.W.Frag) (μ : List Addr) (H : Hp) (a : Addr) : HB → Prop
  | .lst ds => ∃ vs, H a = some (.lst vs) ∧ RVs K μ H ds vs
  | .rol ds => ∃ vs, RoL K H a vs ∧ RVs K μ H ds vs
  | .dic kvs => ∃ ks, H a = some (.dK ks) ∧ RKV K μ H kvs ks
  | .frz kvs => ∃ o ks, H a = some (.frz o (.dK ks)) ∧ RKV K μ H kvs ks
  | _ => False
def HB.wr : HB → Bool
  | .rol _ => false
  | _ => true
structure HR (K : PySem.W.Frag) (T : List Addr) (μ : List Addr) (h : HI) (H : Hp) : Prop where
  len : μ.length = h.length
  inj : ∀ (m n : Nat) (a : Addr) (o u : HB), μ[m]? = some a → μ[n]? = some a → h[m]? = some o → h[n]? = some u → o.wr = true → u.wr = true → m = n
  obj : ∀ (n : Nat) (a : Addr) (o : HB), μ[n]? = some a → h[n]? = some o → OR K μ H a o
  tab : ∀ P ∈ T, GxR.TabG H P
section
variable {K : PySem.W.Frag} {T μ μ' : List Addr} {h : HI} {H H' : Hp} {a : Addr} {n : Nat} {o : HB}
theorem RKV.mono (p : μ <+: μ') (t : TK K H H') {kvs : List (D × D)} {ks : List (Key × V)} (r : RKV K μ H kvs ks) : RKV K μ' H' kvs ks := Paired.mapP r fun x y q => ⟨q.1, q.2.mono p t⟩
theorem HR.at (R : HR K T μ h H) (e : h[n]? = some o) : ∃ a, μ[n]? = some a ∧ OR K μ H a o := by
  have hl : n < μ.length := by
    rw [R.len]
    rcases Nat.lt_or_ge n h.length with q | q
    · exact q
    · rw [List.getElem?_eq_none q] at e; cases e
  exact ⟨μ[n], List.getElem?_eq_getElem hl, R.obj n _ o (List.getElem?_eq_getElem hl) e⟩
theorem HR.of (R : HR K T μ h H) (ea : μ[n]? = some a) (e : h[n]? = some o) : OR K μ H a o := R.obj n a o ea e
def Wr (H : Hp) (a : Addr) : Prop := ∃ u, H a = some u ∧ ((∃ vs, u = .lst vs) ∨ ∃ ks, u = .dK ks)
theorem TK.updW {ob : HO} (w : Wr H a) : TK K H (upd H a ob) := by
  obtain ⟨u, e, hu⟩ := w
  have ne : ∀ b u', H b = some u' → (∀ vs, u' ≠ .lst vs) → (∀ ks, u' ≠ .dK ks) → b ≠ a := fun b u' e' h1 h2 z => by
    rw [z, e] at e'
    cases e'
    rcases hu with ⟨vs, q⟩ | ⟨ks, q⟩
    · exact h1 vs q
    · exact h2 ks q
  refine ⟨⟨?_, fun b o ks q => by rw [upd_ne (ne b _ q (fun _ z => by cases z) (fun _ z => by cases z))]; exact q⟩, fun b φ q => by rw [upd_ne (ne b _ q (fun _ z => by cases z) (fun _ z => by cases z))]; exact q⟩
  intro b xs q
  rcases q with (q | ⟨o, q⟩) | q
  · exact .inl (.inl (by rw [upd_ne (ne b _ q (fun _ z => by cases z) (fun _ z => by cases z))]; exact q))
  · exact .inl (.inr ⟨o, by rw [upd_ne (ne b _ q (fun _ z => by cases z) (fun _ z => by cases z))]; exact q⟩)
  · exact .inr q
theorem TK.newT {ob : HO} (hn : H a = none) : TK K H (upd H a ob) := by
  refine ⟨⟨?_, fun b o ks q => by rw [upd_ne (ne_of_none q hn)]; exact q⟩, fun b φ q => by rw [upd_ne (ne_of_none q hn)]; exact q⟩
  intro b xs q
  rcases q with (q | ⟨o, q⟩) | q
  · exact .inl (.inl (by rw [upd_ne (ne_of_none q hn)]; exact q))
  · exact .inl (.inr ⟨o, by rw [upd_ne (ne_of_none q hn)]; exact q⟩)
  · exact .inr q
theorem tabG_upd {P : Addr} {ob : HO} (h : GxR.TabG H P) (ha : P ≠ a) : GxR.TabG (upd H a ob) P := by
  obtain ⟨ps, e, r⟩ := h
  exact ⟨ps, by rw [upd_ne ha]; exact e, r⟩
theorem OR.wr_some (q : OR K μ H a o) (w : o.wr = true) (nf : ∀ k, o ≠ .frz k) : Wr H a := by
  cases o with
  | lst ds => obtain ⟨vs, e, _⟩ := q; exact ⟨_, e, .inl ⟨vs, rfl⟩⟩
  | dic kvs => obtain ⟨ks, e, _⟩ := q; exact ⟨_, e, .inr ⟨ks, rfl⟩⟩
  | rol ds => cases w
  | frz k => exact absurd rfl (nf k)
  | set ds => exact q.elim
  | ins C fs => exact q.elim
theorem OR.some_at (q : OR K μ H a o) (w : o.wr = true) : ∃ u, H a = some u := by
  cases o with
  | frz k => obtain ⟨_, _, e, _⟩ := q; exact ⟨_, e⟩
  | rol ds => cases w
  | set ds => exact q.elim
  | ins C fs => exact q.elim
  | lst ds => obtain ⟨vs, e, _⟩ := q; exact ⟨_, e⟩
  | dic kvs => obtain ⟨ks, e, _⟩ := q; exact ⟨_, e⟩
theorem OR.mono {u : HB} (p : μ <+: μ') (t : TK K H H') (he : ∀ ob, (∀ ps, ob ≠ .tbl ps) → H a = some ob → H' a = some ob) (q : OR K μ H a u) : OR K μ' H' a u := by
  cases u with
  | lst ds => obtain ⟨vs, e, r⟩ := q; exact ⟨vs, he _ (fun _ z => by cases z) e, r.mono p t⟩
  | dic kvs => obtain ⟨ks, e, r⟩ := q; exact ⟨ks, he _ (fun _ z => by cases z) e, r.mono p t⟩
  | frz kvs => obtain ⟨o, ks, e, r⟩ := q; exact ⟨o, ks, he _ (fun _ z => by cases z) e, r.mono p t⟩
  | rol ds =>
    obtain ⟨vs, e, r⟩ := q
    refine ⟨vs, ?_, r.mono p t⟩
    rcases e with ⟨ob, e⟩ | e
    · exact .inl ⟨ob, he _ (fun _ z => by cases z) e⟩
    · exact .inr e
  | set ds => exact q.elim
  | ins C fs => exact q.elim
theorem OR.wr_new {ob : HO} (q : OR K μ (L2.upd H a ob) a o) (w : o.wr = true) (nf : ∀ k, o ≠ .frz k) : (∃ vs, ob = .lst vs) ∨ ∃ ks, ob = .dK ks := by
  cases o with
  | lst ds => obtain ⟨vs, e, _⟩ := q; rw [upd_same] at e; cases e; exact .inl ⟨vs, rfl⟩
  | dic kvs => obtain ⟨ks, e, _⟩ := q; rw [upd_same] at e; cases e; exact .inr ⟨ks, rfl⟩
  | rol ds => cases w
  | frz k => exact absurd rfl (nf k)
  | set ds => exact q.elim
  | ins C fs => exact q.elim
theorem HR.set {o' : HB} {ob : HO} (R : HR K T μ h H) (ea : μ[n]? = some a) (e : h[n]? = some o) (w : o.wr = true) (w' : o'.wr = true) (q : OR K μ (upd H a ob) a o') (nf : ∀ k, o ≠ .frz k := by intro _ z; cases z) : HR K T μ (h.set n o') (upd H a ob) := by
  have hw := (R.of ea e).wr_some w nf
  have hlt : n < h.length := by
    rcases Nat.lt_or_ge n h.length with z | z
    · exact z
    · rw [List.getElem?_eq_none z] at e; cases e
  have kind : ∀ {m : Nat} {u : HB}, (h.set n o')[m]? = some u → u.wr = true → ∃ u', h[m]? = some u' ∧ u'.wr = true := fun {m u} hm hu => by
    by_cases z : m = n
    · subst z; exact ⟨o, e, w⟩
    · rw [List.getElem?_set_ne (Ne.symm z)] at hm; exact ⟨u, hm, hu⟩
  refine ⟨by rw [List.length_set]; exact R.len, fun m k b u u' h1 h2 h3 h4 h5 h6 => ?_, fun m b u h1 h2 => ?_, fun P hP => ?_⟩
  · obtain ⟨v, a1, a2⟩ := kind h3 h5
    obtain ⟨v', b1, b2⟩ := kind h4 h6
    exact R.inj m k b v v' h1 h2 a1 b1 a2 b2
  · by_cases z : m = n
    · subst z
      rw [List.getElem?_set_self hlt] at h2
      cases h2
      rw [ea] at h1; cases h1
      exact q
    · rw [List.getElem?_set_ne (Ne.symm z)] at h2
      have q2 := R.of h1 h2
      by_cases zb : b = a
      · subst zb
        cases hu : u.wr with
        | true => exact absurd (R.inj m n b u o h1 ea h2 e hu w) z
        | false =>
          cases u with
          | rol ds =>
            obtain ⟨vs, r1, r2⟩ := q2
            refine ⟨vs, ?_, r2.mono (List.prefix_refl _) (TK.updW hw)⟩
            rcases r1 with ⟨o2, r1⟩ | r1
            · obtain ⟨u1, e1, hu1⟩ := hw
              rw [r1] at e1; cases e1
              rcases hu1 with ⟨_, z⟩ | ⟨_, z⟩ <;> cases z
            · exact .inr r1
          | lst ds => cases hu
          | dic ds => cases hu
          | frz ds => cases hu
          | set ds => cases hu
          | ins C fs => cases hu
      · exact q2.mono (List.prefix_refl _) (TK.updW hw) fun ob' _ z2 => by rw [upd_ne zb]; exact z2
  · refine tabG_upd (R.tab P hP) fun z => ?_
    obtain ⟨ps, e1, _⟩ := R.tab P hP
    obtain ⟨u1, e2, hu1⟩ := hw
    rw [z, e2] at e1; cases e1
    rcases hu1 with ⟨_, z⟩ | ⟨_, z⟩ <;> cases z
theorem HR.new {p : Addr} {o' : HB} {ob : HO} (R : HR K T μ h H) (hp : H p = none) (q : OR K (μ ++ [p]) (upd H p ob) p o') : HR K T (μ ++ [p]) (h ++ [o']) (upd H p ob) := by
  have pre : μ <+: μ ++ [p] := List.prefix_append ..
  have split : ∀ {m : Nat} {b : Addr}, (μ ++ [p])[m]? = some b → μ[m]? = some b ∨ (m = h.length ∧ b = p) := fun {m b} e => by
    rcases Nat.lt_or_ge m μ.length with z | z
    · rw [List.getElem?_append_left z] at e; exact .inl e
    · rw [List.getElem?_append_right z] at e
      right
      have : m - μ.length = 0 := by
        rcases Nat.eq_zero_or_pos (m - μ.length) with y | y
        · exact y
        · rw [List.getElem?_eq_none (by simp; omega)] at e; cases e
      rw [this] at e
      have e' : p = b := by simpa using e
      exact ⟨by rw [← R.len]; omega, e'.symm⟩
  have hget : ∀ {m : Nat} {b : Addr} {u : HB}, μ[m]? = some b → (h ++ [o'])[m]? = some u → h[m]? = some u := fun {m b u} e1 e2 => by
    have hl : m < h.length := by
      rw [← R.len]
      rcases Nat.lt_or_ge m μ.length with z | z
      · exact z
      · rw [List.getElem?_eq_none z] at e1; cases e1
    rw [List.getElem?_append_left hl] at e2
    exact e2
  have nwr : ∀ {m : Nat} {u : HB}, μ[m]? = some p → (h ++ [o'])[m]? = some u → u.wr = true → False := fun {m u} e1 e2 e3 => by
    obtain ⟨u1, z⟩ := (R.of e1 (hget e1 e2)).some_at e3
    rw [hp] at z; cases z
  refine ⟨by rw [List.length_append, List.length_append, R.len]; rfl, fun m k b u u' h1 h2 h3 h4 h5 h6 => ?_, fun m b u h1 h2 => ?_, fun P hP => ?_⟩
  · rcases split h1 with y1 | ⟨y1, y2⟩ <;> rcases split h2 with z1 | ⟨z1, z2⟩
    · exact R.inj m k b u u' y1 z1 (hget y1 h3) (hget z1 h4) h5 h6
    · rw [z2] at y1; exact (nwr y1 h3 h5).elim
    · rw [y2] at z1; exact (nwr z1 h4 h6).elim
    · omega
  · rcases split h1 with y1 | ⟨y1, y2⟩
    · have q2 := R.of y1 (hget y1 h2)
      refine q2.mono pre (TK.newT hp) fun ob' _ z => ?_
      rw [upd_ne (ne_of_none z hp)]
      exact z
    · subst y2
      rw [y1, List.getElem?_append_right (Nat.le_refl _)] at h2
      have : o' = u := by simpa using h2
      rw [← this]
      exact q
  · obtain ⟨ps, e1, r⟩ := R.tab P hP
    exact ⟨ps, by rw [upd_ne (ne_of_none e1 hp)]; exact e1, r⟩
theorem HR.tup {p : Addr} {vs : List V} (R : HR K T μ h H) (hp : H p = none) : HR K T μ h (upd H p (.tup vs)) := by
  refine ⟨R.len, R.inj, fun m b u h1 h2 => (R.of h1 h2).mono (List.prefix_refl _) (TK.newT hp) fun ob _ z => by rw [upd_ne (ne_of_none z hp)]; exact z, fun P hP => ?_⟩
  obtain ⟨ps, e1, r⟩ := R.tab P hP
  exact ⟨ps, by rw [upd_ne (ne_of_none e1 hp)]; exact e1, r⟩
theorem HR.tabbed {P : Addr} (R : HR K T μ h H) (hP : P ∈ T) (t : GxR.Tabbed P H H') : TK K H H' ∧ HR K T μ h H' := by
  obtain ⟨hg, he⟩ := t
  obtain ⟨ps, e0, _⟩ := R.tab P hP
  have ne : ∀ b u, H b = some u → (∀ q, u ≠ .tbl q) → b ≠ P := fun b u e q z => by
    rw [z, e0] at e; cases e; exact q ps rfl
  have tk : TK K H H' := ⟨⟨fun b xs q => by
    rcases q with (q | ⟨o, q⟩) | q
    · exact .inl (.inl (by rw [he b (ne b _ q fun _ z => by cases z)]; exact q))
    · exact .inl (.inr ⟨o, by rw [he b (ne b _ q fun _ z => by cases z)]; exact q⟩)
    · exact .inr q, fun b o ks q => by rw [he b (ne b _ q fun _ z => by cases z)]; exact q⟩, fun b φ q => by rw [he b (ne b _ q fun _ z => by cases z)]; exact q⟩
  refine ⟨tk, R.len, R.inj, fun m b u h1 h2 => ?_, fun Q hQ => ?_⟩
  · have q := R.of h1 h2
    exact q.mono (List.prefix_refl _) tk fun ob nt e => by rw [he b (ne b _ e nt)]; exact e
  · by_cases z : Q = P
    · rw [z]; exact hg
    · obtain ⟨qs, e1, r⟩ := R.tab Q hQ
      exact ⟨qs, by rw [he Q z]; exact e1, r⟩
end
end MP
namespace MP
open PySem PySem.Spec PyProof.Rows L2
mutual
def toPy : D → PyData
  | .non => .none
  | .bl b => .bool b
  | .int i => .int i
  | .str x => .str x
  | .tup ds => .tuple (toPys ds)
  | .ref _ => .none
def toPys : List D → List PyData
  | [] => []
  | d :: r => toPy d :: toPys r
end
theorem toPys_map : ∀ ds : List D, toPys ds = ds.map toPy
  | [] => rfl
  | d :: r => by simp only [toPys, List.map_cons, toPys_map r]
mutual
theorem plain_toPy : ∀ d : D, (toPy d).plain = true
  | .non => rfl
  | .bl _ => rfl
  | .int _ => rfl
  | .str _ => rfl
  | .tup ds => by simp only [toPy, PyData.plain]; exact plain_toPys ds
  | .ref _ => rfl
theorem plain_toPys : ∀ ds : List D, PyData.plainAll (toPys ds) = true
  | [] => rfl
  | d :: r => by simp only [toPys, PyData.plainAll, plain_toPy d, plain_toPys r, Bool.and_self]
end
mutual
theorem depth_toPy : ∀ (n : Nat) (d : D), D.flat n d = true → (toPy d).depth ≤ n
  | _, .non, _ => by simp [toPy, PyData.depth]
  | _, .bl _, _ => by simp [toPy, PyData.depth]
  | _, .int _, _ => by simp [toPy, PyData.depth]
  | _, .str _, _ => by simp [toPy, PyData.depth]
  | 0, .tup _, h => by simp [D.flat] at h
  | n + 1, .tup ds, h => by
    have := depth_toPys n ds (by simpa [D.flat] using h)
    simp only [toPy, PyData.depth]
    omega
  | 0, .ref _, h => by simp [D.flat] at h
  | _ + 1, .ref _, h => by simp [D.flat] at h
theorem depth_toPys : ∀ (n : Nat) (ds : List D), D.flats n ds = true → PyData.depthAll (toPys ds) ≤ n
  | _, [], _ => by simp [toPys, PyData.depthAll]
  | n, d :: r, h => by
    have h' : D.flat n d = true ∧ D.flats n r = true := by simpa [D.flats] using h
    have h1 := depth_toPy n d h'.1
    have h2 := depth_toPys n r h'.2
    simp only [toPys, PyData.depthAll]
    omega
end
mutual
theorem eqv_toPy : ∀ (n m : Nat) (d e : D), D.flat n d = true → D.flat m e = true → PyData.eqv (toPy d) (toPy e) = D.eqv d e
  | n, m, .ref _, _, h, _ => by cases n <;> simp [D.flat] at h
  | n, m, .non, e, _, h => by cases e <;> first | (cases m <;> simp [D.flat] at h; done) | simp [toPy, PyData.eqv, D.eqv]
  | n, m, .bl _, e, _, h => by cases e <;> first | (cases m <;> simp [D.flat] at h; done) | simp [toPy, PyData.eqv, D.eqv]
  | n, m, .int _, e, _, h => by cases e <;> first | (cases m <;> simp [D.flat] at h; done) | simp [toPy, PyData.eqv, D.eqv]
  | n, m, .str _, e, _, h => by cases e <;> first | (cases m <;> simp [D.flat] at h; done) | simp [toPy, PyData.eqv, D.eqv]
  | 0, m, .tup _, e, h, _ => by simp [D.flat] at h
  | n + 1, m, .tup ds, .tup es, h, g => by
    cases m with
    | zero => simp [D.flat] at g
    | succ m =>
      simp only [toPy, PyData.eqv, D.eqv]
      exact eqvs_toPys n m ds es (by simpa [D.flat] using h) (by simpa [D.flat] using g)
  | n + 1, m, .tup ds, .non, _, _ => by simp [toPy, PyData.eqv, D.eqv]
  | n + 1, m, .tup ds, .bl _, _, _ => by simp [toPy, PyData.eqv, D.eqv]
  | n + 1, m, .tup ds, .int _, _, _ => by simp [toPy, PyData.eqv, D.eqv]
  | n + 1, m, .tup ds, .str _, _, _ => by simp [toPy, PyData.eqv, D.eqv]
  | n + 1, m, .tup ds, .ref _, _, g => by cases m <;> simp [D.flat] at g
theorem eqvs_toPys : ∀ (n m : Nat) (ds es : List D), D.flats n ds = true → D.flats m es = true → PyData.eqvAll (toPys ds) (toPys es) = D.eqvs ds es
  | _, _, [], [], _, _ => rfl
  | _, _, [], _ :: _, _, _ => rfl
  | _, _, _ :: _, [], _, _ => rfl
  | n, m, d :: ds, e :: es, h, g => by
    have h' : D.flat n d = true ∧ D.flats n ds = true := by simpa [D.flats] using h
    have g' : D.flat m e = true ∧ D.flats m es = true := by simpa [D.flats] using g
    simp only [toPys, PyData.eqvAll, D.eqvs, eqv_toPy n m d e h'.1 g'.1, eqvs_toPys n m ds es h'.2 g'.2]
end
section
variable {X : Cx} {pins : List (Addr × Obj)} {σ : L2.St} {H : Hp} {s : Shared} {μ : List Addr}
mutual
theorem rv_reads (I : Inv X pins σ H s) : ∀ (n : Nat) (d : D) (v : V) (u : Value), D.flat n d = true → RV X.K μ H d v → RelV v u → ∃ as, Reads s.heap u (toPy d) as
  | _, .non, _, _, _, h, r => by cases h; cases r; exact ⟨_, Reads.none⟩
  | _, .bl b, _, _, _, h, r => by cases h; cases r; exact ⟨_, Reads.bool b⟩
  | _, .int i, _, _, _, h, r => by cases h; obtain ⟨t, rfl⟩ := r; exact ⟨_, Reads.int i t⟩
  | _, .str x, _, _, _, h, r => by cases h; obtain ⟨t, rfl⟩ := r; exact ⟨_, Reads.str x t⟩
  | 0, .tup ds, _, _, f, _, _ => by simp [D.flat] at f
  | n + 1, .tup ds, _, _, f, h, r => by
    cases h with
    | tup hs ha =>
      cases r
      obtain ⟨its, rv, ⟨o, ho, hc, k, hd⟩, _⟩ := I.tuple hs
      obtain ⟨as, hr⟩ := rvs_reads I n ds _ its (by simpa [D.flat] using f) ha rv
      exact ⟨_, Reads.tuple ho hc hd hr⟩
  | 0, .ref _, _, _, f, _, _ => by simp [D.flat] at f
  | _ + 1, .ref _, _, _, f, _, _ => by simp [D.flat] at f
theorem rvs_reads (I : Inv X pins σ H s) : ∀ (n : Nat) (ds : List D) (vs : List V) (us : List Value), D.flats n ds = true → RVs X.K μ H ds vs → Vals vs us → ∃ as, ReadsAll s.heap us (toPys ds) as
  | _, [], _, _, _, h, r => by cases h; cases r; exact ⟨_, ReadsAll.nil⟩
  | n, d :: ds, _, _, f, h, r => by
    have f' : D.flat n d = true ∧ D.flats n ds = true := by simpa [D.flats] using f
    cases h with
    | cons h1 h2 =>
      cases r with
      | cons r1 r2 =>
        obtain ⟨as, q1⟩ := rv_reads I n d _ _ f'.1 h1 r1
        obtain ⟨bs, q2⟩ := rvs_reads I n ds _ _ f'.2 h2 r2
        exact ⟨_, ReadsAll.cons q1 q2⟩
end
end
theorem any_toPys {n m : Nat} {x : D} (hx : D.flat n x = true) : ∀ {ds : List D}, D.flats m ds = true → ((toPys ds).any fun y => PyData.eqv y (toPy x)) = anyEq x ds
  | [], _ => rfl
  | d :: r, h => by
    have h' : D.flat m d = true ∧ D.flats m r = true := by simpa [D.flats] using h
    have ih := any_toPys hx h'.2
    unfold anyEq at ih ⊢
    simp only [toPys, List.any_cons, eqv_toPy m n d x h'.1 hx, ih]
section
variable (K : PySem.W.Frag) (T : List Addr)
def Ok1 (μ : List Addr) (H : Hp) (r : D × HI) (Q : VK) : Prop := ∀ μ' H' v, μ <+: μ' → TK K H H' → HR K T μ' r.2 H' → RV K μ' H' r.1 v → Q v H'
def rV1 (g : D → HI → Rz) : V → Hp → VK → Prop := fun x H Q => ∃ μ h dx r, HR K T μ h H ∧ RV K μ H dx x ∧ g dx h = some r ∧ Ok1 K T μ H r Q
def rV2 (g : D → D → HI → Rz) : R2 := fun x y H Q => ∃ μ h dx dy r, HR K T μ h H ∧ RV K μ H dx x ∧ RV K μ H dy y ∧ g dx dy h = some r ∧ Ok1 K T μ H r Q
def rVs (g : List D → HI → Rz) : List V → Hp → VK → Prop := fun xs H Q => ∃ μ h ds r, HR K T μ h H ∧ RVs K μ H ds xs ∧ g ds h = some r ∧ Ok1 K T μ H r Q
def rVm (g : D → List D → HI → Rz) : V → List V → Hp → VK → Prop := fun x xs H Q => ∃ μ h d ds r, HR K T μ h H ∧ RV K μ H d x ∧ RVs K μ H ds xs ∧ g d ds h = some r ∧ Ok1 K T μ H r Q
end
section
variable {K : PySem.W.Frag} {T μ : List Addr} {h : HI} {H : Hp} {r : D × HI} {Q : VK}
theorem Ok1.here {d : D} {v : V} (q : Ok1 K T μ H (d, h) Q) (R : HR K T μ h H) (rv : RV K μ H d v) : Q v H := q μ H v (List.prefix_refl _) TK.refl R rv
theorem Ok1.newL {ds : List D} {vs : List V} (q : Ok1 K T μ H (.ref h.length, h ++ [.lst ds]) Q) (R : HR K T μ h H) (rv : RVs K μ H ds vs) : ∀ p, H p = none → Q (.ref p) (upd H p (.lst vs)) := fun p hp => by
  have pre : μ <+: μ ++ [p] := List.prefix_append ..
  refine q (μ ++ [p]) _ _ pre (TK.newT hp) (R.new hp ⟨vs, upd_same, rv.mono pre (TK.newT hp)⟩) (.ref ?_)
  rw [← R.len, List.getElem?_append_right (Nat.le_refl _)]
  simp
theorem Ok1.newD (q : Ok1 K T μ H (.ref h.length, h ++ [.dic []]) Q) (R : HR K T μ h H) : ∀ p, H p = none → Q (.ref p) (upd H p (.dK [])) := fun p hp => by
  have pre : μ <+: μ ++ [p] := List.prefix_append ..
  refine q (μ ++ [p]) _ _ pre (TK.newT hp) (R.new hp ⟨[], upd_same, .nil⟩) (.ref ?_)
  rw [← R.len, List.getElem?_append_right (Nat.le_refl _)]
  simp
theorem Ok1.newDk {kvs : List (D × D)} {ks : List (Key × V)} (q : Ok1 K T μ H (.ref h.length, h ++ [.dic kvs]) Q) (R : HR K T μ h H) (rv : RKV K μ H kvs ks) : ∀ p, H p = none → Q (.ref p) (upd H p (.dK ks)) := fun p hp => by
  have t := TK.newT (K := K) (ob := .dK ks) hp
  have pr : μ <+: μ ++ [p] := List.prefix_append ..
  refine q _ _ (.ref p) pr t (R.new hp ⟨ks, upd_same, rv.mono pr t⟩) (.ref ?_)
  rw [← R.len, List.getElem?_append_right (Nat.le_refl _)]
  simp
theorem Ok1.newT {ds : List D} {vs : List V} (q : Ok1 K T μ H (.tup ds, h) Q) (R : HR K T μ h H) (rv : RVs K μ H ds vs) : ∀ p, H p = none → Q (.ref p) (upd H p (.tup vs)) := fun p hp =>
  q μ _ _ (List.prefix_refl _) (TK.newT hp) (R.tup hp) (.tup (.inl (.inl upd_same)) (rv.mono (List.prefix_refl _) (TK.newT hp)))
end
section
variable {X : Cx} {T : List Addr}
theorem ix_eq (n : Nat) (i : Int) : ixAt n i = ixN n i := rfl
theorem big_eq : big = sizeLine := by rw [sizeLine_eq]; rfl
def opOf : BOp → Operator
  | .add => .Add | .sub => .Sub | .mul => .Mult | .mod => .Mod | .fdv => .FloorDiv | .pow => .Pow
theorem op_all (op : BOp) : OpR X (binaryOp (opOf op)) (rV2 X.K T (binD op)) := by
  intro pins s σ H x y v u Q I rx ry ⟨μ, h, dx, dy, r, R, vx, vy, e, q⟩
  cases vx with
  | int i =>
    cases vy with
    | int j =>
      obtain ⟨k, ek, er⟩ : ∃ k, intOp op i j = some k ∧ r = (.int k, h) := by
        simp only [binD, Option.map_eq_some_iff] at e
        obtain ⟨k, h1, h2⟩ := e
        exact ⟨k, h1, h2.symm⟩
      subst er
      have fin := q.here R (.int k)
      cases op with
      | add => simp only [intOp, Option.some.injEq] at ek; subst ek; exact op_add pins s σ H _ _ v u Q I rx ry ⟨i, j, rfl, rfl, fin⟩
      | sub => simp only [intOp, Option.some.injEq] at ek; subst ek; exact op_sub pins s σ H _ _ v u Q I rx ry ⟨i, j, rfl, rfl, fin⟩
      | mul =>
        simp only [intOp, Option.ite_none_right_eq_some, Option.some.injEq] at ek
        obtain ⟨hc, ek⟩ := ek
        subst ek
        refine op_mul pins s σ H _ _ v u Q I rx ry ⟨i, j, rfl, rfl, ?_, fin⟩
        simpa [small64, CMul] using hc
      | mod =>
        simp only [intOp, Option.ite_none_left_eq_some, Option.some.injEq] at ek
        obtain ⟨hc, ek⟩ := ek
        subst ek
        exact op_modN pins s σ H _ _ v u Q I rx ry ⟨i, j, rfl, rfl, hc, fin⟩
      | fdv =>
        simp only [intOp, Option.ite_none_right_eq_some, Option.some.injEq] at ek
        obtain ⟨hc, ek⟩ := ek
        subst ek
        exact op_fdivN pins s σ H _ _ v u Q I rx ry ⟨i, j, rfl, rfl, hc, fin⟩
      | pow =>
        simp only [intOp, Option.ite_none_right_eq_some, Option.some.injEq] at ek
        obtain ⟨hc, ek⟩ := ek
        subst ek
        exact op_pow pins s σ H _ _ v u Q I rx ry ⟨i, j, rfl, rfl, hc, fin⟩
    | _ => simp [binD] at e
  | str a =>
    cases vy with
    | str b =>
      simp only [binD, Option.ite_none_right_eq_some, Option.some.injEq] at e
      obtain ⟨⟨rfl, hl⟩, rfl⟩ := e
      exact op_add_str pins s σ H _ _ v u Q I rx ry ⟨a, b, rfl, rfl, by rw [← big_eq]; exact hl, q.here R (.str _)⟩
    | _ => simp [binD] at e
  | tup ha ra =>
    cases vy with
    | tup hb rb =>
      rename_i p ds vs p2 ds2 vs2
      simp only [binD, Option.ite_none_right_eq_some, Option.some.injEq] at e
      obtain ⟨⟨rfl, hl⟩, rfl⟩ := e
      have l1 := ra.length
      have l2 := rb.length
      refine op_catA pins s σ H _ _ v u Q I rx ry ⟨p, p2, vs, vs2, rfl, rfl, ha, hb, by rw [← big_eq]; omega, ?_, ?_, ?_⟩
      · intro z
        subst z
        cases ra
        exact q.here R (.tup hb rb)
      · intro _ z
        subst z
        cases rb
        rw [List.append_nil] at q
        exact q.here R (.tup ha ra)
      · intro _ _
        exact q.newT R (ra.append rb)
    | _ => simp [binD] at e
  | ref ea =>
    cases vy with
    | ref eb =>
      rename_i m a n b
      simp only [binD] at e
      split at e
      · rename_i ds es h1 h2
        simp only [Option.ite_none_right_eq_some, hnew, Option.some.injEq] at e
        obtain ⟨⟨rfl, hl⟩, rfl⟩ := e
        obtain ⟨vs, o1, r1⟩ := R.of ea h1
        obtain ⟨ws, o2, r2⟩ := R.of eb h2
        have l1 := r1.length
        have l2 := r2.length
        exact op_cat pins s σ H _ _ v u Q I rx ry ⟨a, b, vs, ws, rfl, rfl, o1, o2, by rw [← big_eq]; omega, q.newL R (r1.append r2)⟩
      · cases e
    | _ => simp [binD] at e
  | _ => simp [binD] at e
end
end MP
namespace MP
open PySem PySem.Spec PyProof.Rows L2
section
variable {K : PySem.W.Frag} {T μ : List Addr} {h : HI} {H : Hp}
theorem keyOf_kV {d : D} {v : V} {k : Key} (r : RV K μ H d v) (e : keyOf d = some k) : v = kV k := by
  cases r <;> simp [keyOf] at e <;> subst e <;> rfl
theorem key_some {d : D} (h : d.key = true) : ∃ k, keyOf d = some k := by
  cases d <;> simp [D.key] at h <;> exact ⟨_, rfl⟩
theorem keyOf_key {d : D} {k : Key} (e : keyOf d = some k) : d.key = true := by
  cases d <;> simp [keyOf] at e <;> rfl
theorem eqv_key {d e : D} {k j : Key} (h1 : keyOf d = some k) (h2 : keyOf e = some j) : D.eqv d e = decide (k = j) := by
  cases d <;> simp [keyOf] at h1 <;> cases e <;> simp [keyOf] at h2 <;> subst h1 <;> subst h2 <;> simp [D.eqv] <;> first | rfl | exact Bool.eq_iff_iff.mpr (by simp)
theorem kFind_val {d : D} {k : Key} (e : keyOf d = some k) : ∀ {kvs : List (D × D)} {ks : List (Key × V)}, RKV K μ H kvs ks →
    (∀ y, kFind kvs d = some y → ∃ v, valV ks k = some v ∧ RV K μ H y v) ∧ (kFind kvs d = none → valV ks k = none)
  | _, _, .nil => ⟨fun y z => by simp [kFind] at z, fun _ => rfl⟩
  | p :: r, q :: s, .cons h t => by
    have ih := kFind_val e t
    have hk := eqv_key h.1 e
    unfold kFind valV at ih ⊢
    simp only [List.find?_cons, hk]
    by_cases c : q.1 = k
    · simp only [c, decide_true]
      exact ⟨fun y z => ⟨q.2, rfl, by cases z; exact h.2⟩, fun z => by cases z⟩
    · simp only [c, decide_false]
      exact ih
theorem kFind_isSome {d : D} {k : Key} (e : keyOf d = some k) {kvs : List (D × D)} {ks : List (Key × V)} (r : RKV K μ H kvs ks) : (kFind kvs d).isSome = (valV ks k).isSome := by
  obtain ⟨h1, h2⟩ := kFind_val e r
  cases c : kFind kvs d with
  | none => rw [h2 c]; rfl
  | some y =>
    obtain ⟨v, h3, _⟩ := h1 y c
    rw [h3]; rfl
theorem any_key {d : D} {k : Key} (e : keyOf d = some k) : ∀ {kvs : List (D × D)} {ks : List (Key × V)}, RKV K μ H kvs ks → (kvs.any fun p => D.eqv p.1 d) = (ks.any fun q => decide (q.1 = k))
  | _, _, .nil => rfl
  | p :: r, q :: s, .cons h t => by
    rw [List.any_cons, List.any_cons, eqv_key h.1 e, any_key e t]
theorem RKV.append : ∀ {a b : List (D × D)} {c d : List (Key × V)}, RKV K μ H a c → RKV K μ H b d → RKV K μ H (a ++ b) (c ++ d)
  | _, _, _, _, .nil, s => s
  | _, _, _, _, .cons h r, s => .cons h (RKV.append r s)
theorem RKV.put {d x : D} {k : Key} {v : V} (e : keyOf d = some k) (rx : RV K μ H x v) {kvs : List (D × D)} {ks : List (Key × V)} (r : RKV K μ H kvs ks) : RKV K μ H (kPut kvs d x) (putK ks k v) := by
  unfold kPut putK
  rw [any_key e r]
  by_cases c : (ks.any fun q => decide (q.1 = k)) = true
  · rw [if_pos c, if_pos c]
    clear c
    induction r with
    | nil => exact .nil
    | cons h t ih =>
      rename_i p q l l'
      simp only [List.map_cons]
      refine .cons ?_ ih
      have hk := eqv_key h.1 e
      rw [hk]
      by_cases z : q.1 = k
      · simp only [z, decide_true, if_true]
        exact ⟨by rw [h.1, z], rx⟩
      · simp only [z, decide_false, if_false]
        exact h
  · rw [if_neg c, if_neg c]
    exact r.append (.cons ⟨e, rx⟩ .nil)
theorem RKV.length : ∀ {kvs : List (D × D)} {ks : List (Key × V)}, RKV K μ H kvs ks → kvs.length = ks.length
  | _, _, .nil => rfl
  | _, _, .cons _ r => congrArg (· + 1) (RKV.length r)
theorem isEmpty_rv {ds : List D} {vs : List V} (r : RVs K μ H ds vs) : ds.isEmpty = vs.isEmpty := by cases r <;> rfl
theorem isEmpty_rkv {ds : List (D × D)} {vs : List (Key × V)} (r : RKV K μ H ds vs) : ds.isEmpty = vs.isEmpty := by cases r <;> rfl
theorem tru_of (R : HR K T μ h H) {d : D} {v : V} {k : Bool} (r : RV K μ H d v) (e : truth d h = some k) : TruV K v H k := by
  cases r with
  | non => simp [truth] at e; exact e
  | bl b => simp [truth] at e; exact e.symm
  | int i => simp [truth] at e; exact e.symm
  | str x =>
    simp only [truth, Option.ite_none_right_eq_some, Option.some.injEq] at e
    refine ⟨by rw [← big_eq]; exact e.1, e.2.symm.trans ?_⟩
    show (x.cps.size != 0) = (((x.cps.size : Nat) : Int) != 0)
    cases x.cps.size <;> rfl
  | tup hs rs =>
    simp only [truth, Option.some.injEq] at e
    exact .inr (.inl ⟨_, hs, by rw [← e, isEmpty_rv rs]⟩)
  | ref ea =>
    rename_i n a
    simp only [truth] at e
    split at e
    · rename_i ds hn
      obtain ⟨vs, o, rs⟩ := R.of ea hn
      exact .inl ⟨vs, .of o, by rw [← Option.some.inj e, isEmpty_rv rs]⟩
    · rename_i ds hn
      obtain ⟨vs, o, rs⟩ := R.of ea hn
      exact .inl ⟨vs, o.sq, by rw [← Option.some.inj e, isEmpty_rv rs]⟩
    · rename_i kvs hn
      obtain ⟨ks, o, rs⟩ := R.of ea hn
      exact .inr (.inr ⟨ks, o, by rw [← Option.some.inj e, isEmpty_rkv rs]⟩)
    · cases e
theorem list_of (R : HR K T μ h H) {n : Nat} {a : Addr} {ds : List D} (ea : μ[n]? = some a) (e : lstOf h (.ref n) = some ds) : ∃ vs, SqL K H a vs ∧ RVs K μ H ds vs := by
  simp only [lstOf] at e
  split at e
  · rename_i ds' hn
    cases e
    obtain ⟨vs, o, rs⟩ := R.of ea hn
    exact ⟨vs, .of o, rs⟩
  · rename_i ds' hn
    cases e
    obtain ⟨vs, o, rs⟩ := R.of ea hn
    exact ⟨vs, o.sq, rs⟩
  · cases e
end
section
variable {X : Cx} {T : List Addr}
def cmpOf : COp → CmpOp
  | .eq => .Eq | .ne => .NotEq | .lt => .Lt | .le => .LtE | .gt => .Gt | .ge => .GtE | .isN => .Is | .notN => .IsNot | .inn => .In | .nin => .NotIn
theorem isNon_eq {K : PySem.W.Frag} {μ : List Addr} {H : Hp} {d : D} {v : V} (r : RV K μ H d v) : decide (v = .non) = isNon d := by
  cases r <;> simp [isNon]
theorem isNon_non {K : PySem.W.Frag} {μ : List Addr} {H : Hp} {d : D} {v : V} (r : RV K μ H d v) (h : isNon d = true) : v = .non := by
  cases r <;> first | rfl | simp [isNon] at h
theorem list_reads {pins : List (Addr × Obj)} {σ : L2.St} {H : Hp} {s : Shared} {μ : List Addr} (I : Inv X pins σ H s) {a : Addr} {ds : List D} {vs : List V} (hs : SqL X.K H a vs) (rs : RVs X.K μ H ds vs) (f : D.flats deep ds = true) :
    ∃ as, Reads s.heap (.ref a) (.list (toPys ds)) as := by
  obtain ⟨its, rv, ⟨o, n, ho, hc, hd, hx⟩, _⟩ := I.list hs
  obtain ⟨as, hr⟩ := rvs_reads I deep ds _ its f rs rv
  exact ⟨_, Reads.list ho hc hx hr⟩
theorem tup_reads {pins : List (Addr × Obj)} {σ : L2.St} {H : Hp} {s : Shared} {μ : List Addr} (I : Inv X pins σ H s) {a : Addr} {ds : List D} {vs : List V} (hs : SqT X.K H a vs) (rs : RVs X.K μ H ds vs) (f : D.flats deep ds = true) :
    ∃ as, Reads s.heap (.ref a) (.tuple (toPys ds)) as := by
  obtain ⟨its, rv, ⟨o, ho, hc, k, hd⟩, _⟩ := I.tuple hs
  obtain ⟨as, hr⟩ := rvs_reads I deep ds _ its f rs rv
  exact ⟨_, Reads.tuple ho hc hd hr⟩
theorem in_all {pins : List (Addr × Obj)} {s : Shared} {σ : L2.St} {H : Hp} {x y : V} {v u : Value} {μ : List Addr} {h : HI} {dx dy : D} {b : Bool} (hu : X.A.units + 400 < cLine) (I : Inv X pins σ H s) (rx : RelV x v) (ry : RelV y u) (R : HR X.K T μ h H)
    (vx : RV X.K μ H dx x) (vy : RV X.K μ H dy y) (e : inD dx dy h = some b) (Q : Bool → Value → Shared → Prop) (hQ : ∀ c s', Inv X pins σ H s' → Q c (.bool c) s') :
    wpAny (model X.prog X.w) X.A (compareOp .In v u) (Q b) X.xe s ∧ wpAny (model X.prog X.w) X.A (compareOp .NotIn v u) (Q (!b)) X.xe s := by
  have ld : ∀ {a : Addr} {ds : List D} {vs : List V}, SqL X.K H a vs → RVs X.K μ H ds vs → (D.flat deep dx && D.flats deep ds) = true → u = .ref a → b = anyEq dx ds →
      wpAny (model X.prog X.w) X.A (compareOp .In v u) (Q b) X.xe s ∧ wpAny (model X.prog X.w) X.A (compareOp .NotIn v u) (Q (!b)) X.xe s := by
    intro a ds vs hs rs f eu eb
    simp only [Bool.and_eq_true] at f
    subst eu eb
    obtain ⟨as, r1⟩ := list_reads I hs rs f.2
    obtain ⟨bs, r2⟩ := rv_reads I deep dx x v f.1 vx rx
    have d1 := depth_toPy deep dx f.1
    have hh : X.A.units + 1 + min (PyData.depthAll (toPys ds)) (toPy dx).depth < cLine := by
      have := Nat.min_le_right (PyData.depthAll (toPys ds)) (toPy dx).depth
      unfold deep at d1
      omega
    have ea := any_toPys f.1 f.2
    exact ⟨SeqAt.in_list_data r1 r2 (plain_toPys ds) (plain_toPy dx) hh (by rw [ea]; exact hQ _ _ I), SeqAt.notIn_list_data r1 r2 (plain_toPys ds) (plain_toPy dx) hh (by rw [ea]; exact hQ _ _ I)⟩
  cases vy with
  | tup hs rs =>
    rename_i ta tds tvs
    simp only [inD, Option.ite_none_right_eq_some, Option.some.injEq] at e
    obtain ⟨f, eb⟩ := e
    simp only [Bool.and_eq_true] at f
    cases ry
    subst eb
    obtain ⟨as, r1⟩ := tup_reads I hs rs f.2
    obtain ⟨bs, r2⟩ := rv_reads I deep dx x v f.1 vx rx
    have d1 := depth_toPy deep dx f.1
    have hh : X.A.units + 1 + min (PyData.depthAll (toPys tds)) (toPy dx).depth < cLine := by
      have := Nat.min_le_right (PyData.depthAll (toPys tds)) (toPy dx).depth
      unfold deep at d1
      omega
    have ea := any_toPys f.1 f.2
    exact ⟨SeqAt.in_tuple_data r1 r2 (plain_toPys _) (plain_toPy dx) hh (by rw [ea]; exact hQ _ _ I), SeqAt.notIn_tuple_data r1 r2 (plain_toPys _) (plain_toPy dx) hh (by rw [ea]; exact hQ _ _ I)⟩
  | ref ea =>
    cases ry
    simp only [inD] at e
    split at e
    · rename_i ds hn
      simp only [Option.ite_none_right_eq_some, Option.some.injEq] at e
      obtain ⟨vs, o, rs⟩ := R.of ea hn
      exact ld (.of o) rs e.1 rfl e.2.symm
    · rename_i ds hn
      simp only [Option.ite_none_right_eq_some, Option.some.injEq] at e
      obtain ⟨vs, o, rs⟩ := R.of ea hn
      exact ld o.sq rs e.1 rfl e.2.symm
    · rename_i kvs hn
      simp only [Option.ite_none_right_eq_some, Option.some.injEq] at e
      obtain ⟨hk, eb⟩ := e
      obtain ⟨k, ek⟩ := key_some hk
      obtain ⟨ks, o, rs⟩ := R.of ea hn
      have ex := keyOf_kV vx ek
      subst ex
      rw [kFind_isSome ek rs] at eb
      subst eb
      exact ⟨d_in (by omega) I (.k o) rx fun s' I' => hQ _ s' I', d_notIn (by omega) I (.k o) rx fun s' I' => hQ _ s' I'⟩
    · cases e
  | _ => simp [inD] at e
theorem cmp_all (hu : X.A.units + 400 < cLine) (op : COp) : OpR X (compareOp (cmpOf op)) (rV2 X.K T fun x y h => (cmpB op x y h).map fun c => (.bl c, h)) := by
  intro pins s σ H x y v u Q I rx ry ⟨μ, h, dx, dy, r, R, vx, vy, e, q⟩
  obtain ⟨c, ec, er⟩ : ∃ c, cmpB op dx dy h = some c ∧ r = (.bl c, h) := by
    simp only [Option.map_eq_some_iff] at e
    obtain ⟨k, h1, h2⟩ := e
    exact ⟨k, h1, h2.symm⟩
  subst er
  have fin := q.here R (.bl c)
  have eqq : D.flat deep dx = true → D.flat deep dy = true → ∃ as bs, Reads s.heap v (toPy dx) as ∧ Reads s.heap u (toPy dy) bs ∧ X.A.units + min (toPy dx).depth (toPy dy).depth < cLine := by
    intro f1 f2
    obtain ⟨as, r1⟩ := rv_reads I deep dx x v f1 vx rx
    obtain ⟨bs, r2⟩ := rv_reads I deep dy y u f2 vy ry
    have d1 := depth_toPy deep dx f1
    refine ⟨as, bs, r1, r2, ?_⟩
    have := Nat.min_le_left (toPy dx).depth (toPy dy).depth
    unfold deep at d1
    omega
  have ii : ∀ {f : Int → Int → Bool}, (match dx, dy with | .int i, .int j => some (f i j) | _, _ => none) = some c → ∃ i j, x = .int i ∧ y = .int j ∧ c = f i j := by
    intro f ef
    cases vx with
    | int i =>
      cases vy with
      | int j => exact ⟨i, j, rfl, rfl, (Option.some.inj ef).symm⟩
      | _ => cases ef
    | _ => cases ef
  cases op with
  | eq =>
    simp only [cmpB, Option.ite_none_right_eq_some, Bool.and_eq_true, Option.some.injEq] at ec
    obtain ⟨⟨f1, f2⟩, rfl⟩ := ec
    obtain ⟨as, bs, r1, r2, hh⟩ := eqq f1 f2
    exact SeqAt.eq_plain r1 r2 (plain_toPy _) (plain_toPy _) hh (by rw [eqv_toPy _ _ _ _ f1 f2]; exact ⟨.bl _, H, I, rfl, fin⟩)
  | ne =>
    simp only [cmpB, Option.ite_none_right_eq_some, Bool.and_eq_true, Option.some.injEq] at ec
    obtain ⟨⟨f1, f2⟩, rfl⟩ := ec
    obtain ⟨as, bs, r1, r2, hh⟩ := eqq f1 f2
    exact SeqAt.ne_plain r1 r2 (plain_toPy _) (plain_toPy _) hh (by rw [eqv_toPy _ _ _ _ f1 f2]; exact ⟨.bl _, H, I, rfl, fin⟩)
  | lt =>
    obtain ⟨i, j, rfl, rfl, rfl⟩ := ii (f := fun i j => decide (i < j)) (by cases dx <;> cases dy <;> first | exact ec | cases ec)
    exact op_lt pins s σ H _ _ v u Q I rx ry ⟨i, j, rfl, rfl, fin⟩
  | le =>
    obtain ⟨i, j, rfl, rfl, rfl⟩ := ii (f := fun i j => decide (i ≤ j)) (by cases dx <;> cases dy <;> first | exact ec | cases ec)
    exact op_le pins s σ H _ _ v u Q I rx ry ⟨i, j, rfl, rfl, fin⟩
  | gt =>
    obtain ⟨i, j, rfl, rfl, rfl⟩ := ii (f := fun i j => decide (j < i)) (by cases dx <;> cases dy <;> first | exact ec | cases ec)
    exact op_gt pins s σ H _ _ v u Q I rx ry ⟨i, j, rfl, rfl, fin⟩
  | ge =>
    obtain ⟨i, j, rfl, rfl, rfl⟩ := ii (f := fun i j => decide (j ≤ i)) (by cases dx <;> cases dy <;> first | exact ec | cases ec)
    exact op_ge pins s σ H _ _ v u Q I rx ry ⟨i, j, rfl, rfl, fin⟩
  | isN =>
    simp only [cmpB, Option.ite_none_right_eq_some, Option.some.injEq] at ec
    exact op_isN pins s σ H _ _ v u Q I rx ry ⟨isNon_non vy ec.1, by rw [isNon_eq vx, ec.2]; exact fin⟩
  | notN =>
    simp only [cmpB, Option.ite_none_right_eq_some, Option.some.injEq] at ec
    exact op_notN pins s σ H _ _ v u Q I rx ry ⟨isNon_non vy ec.1, by rw [isNon_eq vx, ec.2]; exact fin⟩
  | inn => exact thn (in_all (T := T) hu I rx ry R vx vy ec (fun c' w s' => c' = c → EP X pins σ Q w s') fun c' s' I' z => ⟨.bl c', H, I', rfl, z ▸ fin⟩).1 fun w s2 z => z rfl
  | nin =>
    simp only [cmpB, Option.map_eq_some_iff] at ec
    obtain ⟨b, eb, rfl⟩ := ec
    exact thn (in_all (T := T) hu I rx ry R vx vy eb (fun c' w s' => c' = (!b) → EP X pins σ Q w s') fun c' s' I' z => ⟨.bl c', H, I', rfl, z ▸ fin⟩).2 fun w s2 z => z rfl
end
end MP
namespace MP
open PySem PySem.Spec PyProof.Rows L2
section
variable {X : Cx} {T : List Addr}
theorem un_neg' : UnR X (unaryOp .USub) (rV1 X.K T fun x h => match x with | .int i => some (.int (-i), h) | _ => none) := by
  intro pins s σ H x v Q I rx ⟨μ, h, dx, r, R, vx, e, q⟩
  cases vx with
  | int i =>
    simp only [Option.some.injEq] at e
    subst e
    exact un_neg pins s σ H _ v Q I rx ⟨i, rfl, q.here R (.int _)⟩
  | _ => cases e
theorem at_rv {K : PySem.W.Frag} {μ : List Addr} {H : Hp} {ds : List D} {vs : List V} {i : Int} {d : D} (r : RVs K μ H ds vs) (e : atD ds i = some d) : ∃ v, atI vs i = some v ∧ RV K μ H d v := by
  simp only [atD, Option.bind_eq_some_iff] at e
  obtain ⟨j, h1, h2⟩ := e
  obtain ⟨v, h3, h4⟩ := r.get h2
  refine ⟨v, ?_, h4⟩
  unfold atI
  rw [← r.length]
  show (ixAt ds.length i).bind _ = _
  rw [h1]
  exact h3
theorem ix_all (hu : X.A.units + 400 < cLine) : IxR X (rV2 X.K T idxD) := by
  intro value slice pins s σ H x y v u Q I rx ry ⟨μ, h, dx, dy, r, R, vx, vy, e, q⟩ hs
  have ls : ∀ {a : Addr} {ds : List D} {vs : List V} {k : Int}, SqL X.K H a vs → RVs X.K μ H ds vs → x = .ref a → y = .int k → ((atD ds k).map fun d => (d, h)) = some r → wpAny (model X.prog X.w) X.A (subscriptTail value slice v u) (EP X pins σ Q) X.xe s := by
    intro a ds vs k hq rs ex ey e
    simp only [Option.map_eq_some_iff] at e
    obtain ⟨d, h1, rfl⟩ := e
    obtain ⟨w, h2, h3⟩ := at_rv rs h1
    subst ex ey
    exact ix_list value slice pins s σ H _ _ v u Q I rx ry ⟨a, vs, k, w, rfl, rfl, hq, h2, q.here R h3⟩ hs
  cases vx with
  | tup ht rs =>
    cases vy with
    | int k =>
      simp only [idxD, Option.map_eq_some_iff] at e
      obtain ⟨d, h1, rfl⟩ := e
      obtain ⟨w, h2, h3⟩ := at_rv rs h1
      exact ix_tup value slice pins s σ H _ _ v u Q I rx ry ⟨_, _, k, w, rfl, rfl, ht, h2, q.here R h3⟩ hs
    | _ => simp [idxD] at e
  | str z =>
    cases vy with
    | int k =>
      simp only [idxD, Option.ite_none_right_eq_some, Option.map_eq_some_iff] at e
      obtain ⟨hz, c, h1, rfl⟩ := e
      refine ix_str value slice pins s σ H _ _ v u Q I rx ry ⟨z, k, c, rfl, rfl, by rw [← big_eq]; exact hz, ?_, q.here R (.str _)⟩ hs
      unfold atI
      show (ixAt z.cps.toList.length k).bind _ = _
      rw [Array.length_toList, ← h1]
      simp
    | _ => simp [idxD] at e
  | ref ea =>
    rename_i n a
    simp only [idxD] at e
    split at e
    · rename_i ds k hn
      obtain ⟨vs, o, rs⟩ := R.of ea hn
      cases vy
      exact ls (.of o) rs rfl rfl e
    · rename_i ds k hn
      obtain ⟨vs, o, rs⟩ := R.of ea hn
      cases vy
      exact ls o.sq rs rfl rfl e
    · rename_i kvs hn
      simp only [Option.ite_none_right_eq_some, Option.map_eq_some_iff] at e
      obtain ⟨hk, d, h1, rfl⟩ := e
      obtain ⟨k, ek⟩ := key_some hk
      obtain ⟨ks, o, rs⟩ := R.of ea hn
      have ex := keyOf_kV vy ek
      subst ex
      obtain ⟨w, h2, h3⟩ := (kFind_val ek rs).1 d h1
      cases rx
      have g : DGet H a (kV k) (some w) := h2 ▸ DGet.k o
      have hdt := dict_typeIs I g
      exact tail_any hdt PySem.F.slot_dict_getitem.lookup (d_getItem (by omega) I g ry fun w' s' I' rw' => ⟨w, H, I', rw', q.here R h3⟩) hs
    · cases e
  | _ => simp [idxD] at e
theorem clip_eq (n d : Nat) (o : Option Int) : clip n d o = HT.sIx n d o := by
  cases o with
  | none => rfl
  | some i =>
    unfold clip HT.sIx
    by_cases c : 0 ≤ i
    · simp only [if_pos c, if_neg (by omega : ¬ i < 0)]
    · simp only [if_neg c, if_pos (by omega : i < 0)]
theorem cut_rv {K : PySem.W.Frag} {μ : List Addr} {H : Hp} {ds : List D} {vs : List V} (r : RVs K μ H ds vs) (lo hi : Option Int) : RVs K μ H (cut ds lo hi) (cutV vs lo hi) := by
  unfold cut cutV
  rw [clip_eq, clip_eq, ← r.length]
  exact (r.drop _).take _
theorem sl_all : SlR X (fun x lo hi H Q => rV1 X.K T (fun d h => slcD d lo hi h) x H Q) := by
  intro pins s σ H x v vl vu lo hi sl Q I rx hs pl pu ⟨μ, h, dx, r, R, vx, e, q⟩
  cases vx with
  | tup ht rs =>
    simp only [slcD, Option.some.injEq] at e
    subst e
    refine sl_tupA pins s σ H _ v vl vu lo hi sl Q I rx hs pl pu ⟨_, _, rfl, ht, fun hw => ?_, fun _ => q.newT R (cut_rv rs lo hi)⟩
    refine q.here R (.tup ht ?_)
    have c := cut_rv rs lo hi
    unfold cutV at c
    rw [hw.1, hw.2] at c
    simpa using c
  | str z =>
    simp only [slcD, Option.ite_none_right_eq_some, Option.some.injEq] at e
    obtain ⟨hz, rfl⟩ := e
    refine sl_str pins s σ H _ v vl vu lo hi sl Q I rx hs pl pu ⟨z, rfl, by rw [← big_eq]; exact hz, ?_⟩
    have hc : cutS z lo hi = ⟨(cut z.cps.toList lo hi).toArray⟩ := by
      unfold cutS cut
      rw [clip_eq, clip_eq, Array.length_toList]
      rfl
    rw [hc]
    exact q.here R (.str _)
  | ref ea =>
    simp only [slcD] at e
    split at e
    · rename_i ds hn
      obtain ⟨vs, o, rs⟩ := R.of ea hn
      simp only [hnew, Option.some.injEq] at e
      subst e
      exact sl_list pins s σ H _ v vl vu lo hi sl Q I rx hs pl pu ⟨_, vs, rfl, .of o, q.newL R (cut_rv rs lo hi)⟩
    · rename_i ds hn
      obtain ⟨vs, o, rs⟩ := R.of ea hn
      simp only [hnew, Option.some.injEq] at e
      subst e
      exact sl_list pins s σ H _ v vl vu lo hi sl Q I rx hs pl pu ⟨_, vs, rfl, o.sq, q.newL R (cut_rv rs lo hi)⟩
    · cases e
  | _ => simp [slcD] at e
def rV3 (K : PySem.W.Frag) (T : List Addr) : TSet := fun o i v H Q => ∃ μ h d k x h', HR K T μ h H ∧ RV K μ H d o ∧ RV K μ H k i ∧ RV K μ H x v ∧ setIx d k x h = some h' ∧
  ∀ H', TK K H H' → HR K T μ h' H' → Q H'
theorem set_all (hu : X.A.units + 400 < cLine) : PSet X (rV3 X.K T) := by
  intro pins s σ H o i v ov iv u Q I ro ri rv ⟨μ, h, d, k, x, h', R, vo, vi, vv, e, q⟩
  cases vo with
  | ref ea =>
    rename_i n a
    simp only [setIx] at e
    split at e
    · rename_i ds j hn
      simp only [Option.map_eq_some_iff] at e
      obtain ⟨m, hm, rfl⟩ := e
      obtain ⟨vs, ob, rs⟩ := R.of ea hn
      cases vi
      have w : Wr H a := ⟨_, ob, .inl ⟨_, rfl⟩⟩
      refine set_list pins s σ H _ _ v ov iv u Q I ro ri rv ⟨a, vs, j, m, rfl, rfl, ob, by rw [← rs.length]; exact hm, q _ (TK.updW w) (R.set ea hn rfl rfl ⟨_, upd_same, ?_⟩)⟩
      exact (rs.mono (List.prefix_refl _) (TK.updW w)).set (vv.mono (List.prefix_refl _) (TK.updW w)) m
    · rename_i kvs hn
      simp only [Option.ite_none_right_eq_some, Bool.and_eq_true, decide_eq_true_eq, Option.some.injEq] at e
      obtain ⟨⟨hk, hl⟩, rfl⟩ := e
      obtain ⟨kk, ek⟩ := key_some hk
      obtain ⟨ks, ob, rs⟩ := R.of ea hn
      have ex := keyOf_kV vi ek
      subst ex
      have w : Wr H a := ⟨_, ob, .inr ⟨_, rfl⟩⟩
      have ll := rs.length
      refine set_dict (by omega) pins s σ H _ _ v ov iv u Q I ro ri rv ⟨a, _, rfl, DPut.k ob (by rw [← big_eq]; omega), q _ (TK.updW w) (R.set ea hn rfl rfl ⟨_, upd_same, ?_⟩)⟩
      exact (rs.mono (List.prefix_refl _) (TK.updW w)).put ek (vv.mono (List.prefix_refl _) (TK.updW w))
    · cases e
  | _ => simp [setIx] at e
end
end MP
namespace MP
open PySem PySem.Spec PyProof.Rows L2
section
variable {X : Cx} {T : List Addr}
theorem len_all : CallR X (.builtin "len") (rVs X.K T (bltD .len)) := by
  intro pins s σ H xs us Q I rx ⟨μ, h, ds, r, R, vs, e, q⟩
  have one : ∀ {x : V} {n : Nat}, xs = [x] → LenV X.K x H n → r = (.int n, h) → wpAny (model X.prog X.w) X.A (call (.builtin "len") us) (EP X pins σ Q) X.xe s := by
    intro x n ex l er
    subst ex er
    exact call_len pins s σ H _ us Q I rx ⟨x, n, rfl, l, q.here R (.int _)⟩
  cases vs with
  | nil => simp [bltD] at e
  | cons v1 v2 =>
    cases v2 with
    | cons _ _ => cases v1 <;> simp [bltD] at e
    | nil =>
      cases v1 with
      | str z =>
        simp only [bltD, Option.ite_none_right_eq_some, Option.some.injEq] at e
        exact one (n := z.cps.size) rfl ⟨by rw [← big_eq]; exact e.1, rfl⟩ e.2.symm
      | tup ht rs =>
        simp only [bltD, Option.some.injEq] at e
        exact one rfl (.inr ⟨_, ht, rfl⟩) (by rw [← rs.length]; exact e.symm)
      | ref ea =>
        simp only [bltD] at e
        split at e
        · rename_i ds hn
          obtain ⟨ws, o, rs⟩ := R.of ea hn
          simp only [Option.some.injEq] at e
          exact one rfl (.inl ⟨ws, .of o, rfl⟩) (by rw [← rs.length]; exact e.symm)
        · rename_i ds hn
          obtain ⟨ws, o, rs⟩ := R.of ea hn
          simp only [Option.some.injEq] at e
          exact one rfl (.inl ⟨ws, o.sq, rfl⟩) (by rw [← rs.length]; exact e.symm)
        · rename_i kvs hn
          obtain ⟨ks, o, rs⟩ := R.of ea hn
          simp only [Option.some.injEq] at e
          subst e
          rw [rs.length] at q
          exact call_lenD pins s σ H _ us Q I rx ⟨_, ks, rfl, o, q.here R (.int _)⟩
        · cases e
      | _ => simp [bltD] at e
theorem int_all : CallR X (.type "int") (rVs X.K T (bltD .int)) := by
  intro pins s σ H xs us Q I rx ⟨μ, h, ds, r, R, vs, e, q⟩
  cases vs with
  | nil => simp [bltD] at e
  | cons v1 v2 =>
    cases v2 with
    | cons _ _ => cases v1 <;> simp [bltD] at e
    | nil =>
      cases v1 with
      | int i =>
        simp only [bltD, Option.some.injEq] at e
        subst e
        exact call_int1 pins s σ H _ us Q I rx (.inl ⟨i, rfl, q.here R (.int _)⟩)
      | bl b =>
        simp only [bltD, Option.some.injEq] at e
        subst e
        exact call_int1 pins s σ H _ us Q I rx (.inr ⟨b, rfl, q.here R (.int _)⟩)
      | _ => simp [bltD] at e
theorem str_all : CallR X (.type "str") (rVs X.K T (bltD .str)) := by
  intro pins s σ H xs us Q I rx ⟨μ, h, ds, r, R, vs, e, q⟩
  cases vs with
  | nil => simp [bltD] at e
  | cons v1 v2 =>
    cases v2 with
    | cons _ _ => cases v1 <;> simp [bltD] at e
    | nil =>
      cases v1 with
      | int i =>
        simp only [bltD, Option.ite_none_right_eq_some, Option.some.injEq] at e
        obtain ⟨hl, rfl⟩ := e
        exact call_str_int pins s σ H _ us Q I rx ⟨i, rfl, hl, q.here R (.str _)⟩
      | _ => simp [bltD] at e
theorem signs_rv {K : PySem.W.Frag} {μ : List Addr} {H : Hp} (z : Str) : RVs K μ H (signs z) (z.cps.toList.map fun c => V.str ⟨#[c]⟩) := RVs.strs
theorem list_all (hc : X.calm = true) : CallR X (.type "list") (rVs X.K T (bltD .list)) := by
  intro pins s σ H xs us Q I rx ⟨μ, h, ds, r, R, vs, e, q⟩
  cases vs with
  | nil => simp [bltD] at e
  | cons v1 v2 =>
    cases v2 with
    | cons _ _ => cases v1 <;> simp [bltD] at e
    | nil =>
      cases v1 with
      | str z =>
        simp only [bltD, Option.ite_none_right_eq_some, hnew, Option.some.injEq] at e
        obtain ⟨hz, rfl⟩ := e
        obtain ⟨u, rfl, t, rfl⟩ := rx.one
        refine PySem.call_list_str (I.ok.hd hc) z t (hn := by rw [← big_eq]; exact hz) fun h' tk acc c' hk e hi => ?_
        refine ⟨.ref s.heap.objs.size, upd H s.heap.objs.size (.lst (z.cps.toList.map fun c => V.str ⟨#[c]⟩)), I.laid hk (Nat.le_refl _) ⟨?_, acc.toList, c', ?_, by rw [Array.toArray_toList]; exact e⟩, rfl, q.newL R (signs_rv z) _ (I.hok.fresh (Nat.le_refl _))⟩
        · rw [List.length_map, Array.length_toList, ← big_eq]; exact hz
        · refine vals_of_idx _ _ (by rw [List.length_map, Array.length_toList, Array.length_toList]; exact hi.1) fun j u hj => ?_
          obtain ⟨c, t', hc, rfl⟩ := hi.2 j u (by rw [← Array.getElem?_toList]; exact hj)
          exact ⟨.str ⟨#[c]⟩, by simp [hc], ⟨_, rfl⟩⟩
      | tup ht rs =>
        simp only [bltD, hnew, Option.some.injEq] at e
        subst e
        exact call_list_of pins s σ H _ us Q I rx ⟨_, _, rfl, .inr ht, q.newL R rs⟩
      | ref ea =>
        simp only [bltD] at e
        split at e
        · rename_i ds hn
          obtain ⟨ws, o, rs⟩ := R.of ea hn
          simp only [hnew, Option.some.injEq] at e
          subst e
          exact call_list_of pins s σ H _ us Q I rx ⟨_, _, rfl, .inl (.of o), q.newL R rs⟩
        · rename_i ds hn
          obtain ⟨ws, o, rs⟩ := R.of ea hn
          simp only [hnew, Option.some.injEq] at e
          subst e
          exact call_list_of pins s σ H _ us Q I rx ⟨_, _, rfl, .inl o.sq, q.newL R rs⟩
        · cases e
      | _ => simp [bltD] at e
theorem tuple_all : CallR X (.type "tuple") (rVs X.K T (bltD .tuple)) := by
  intro pins s σ H xs us Q I rx ⟨μ, h, ds, r, R, vs, e, q⟩
  cases vs with
  | nil => simp [bltD] at e
  | cons v1 v2 =>
    cases v2 with
    | cons _ _ => cases v1 <;> simp [bltD] at e
    | nil =>
      cases v1 with
      | tup ht rs =>
        simp only [bltD, Option.some.injEq] at e
        subst e
        exact call_tuple_of pins s σ H _ us Q I rx ⟨_, _, rfl, .inr ⟨ht, q.here R (.tup ht rs)⟩⟩
      | ref ea =>
        simp only [bltD] at e
        split at e
        · rename_i ds hn
          obtain ⟨ws, o, rs⟩ := R.of ea hn
          simp only [Option.some.injEq] at e
          subst e
          exact call_tuple_of pins s σ H _ us Q I rx ⟨_, _, rfl, .inl ⟨.of o, q.newT R rs⟩⟩
        · rename_i ds hn
          obtain ⟨ws, o, rs⟩ := R.of ea hn
          simp only [Option.some.injEq] at e
          subst e
          exact call_tuple_of pins s σ H _ us Q I rx ⟨_, _, rfl, .inl ⟨o.sq, q.newT R rs⟩⟩
        · cases e
      | _ => simp [bltD] at e
def tyName : Ty → String
  | .int => "int" | .bool => "bool" | .str => "str" | .tup => "tuple" | .lst => "list" | .dic => "dict"
def rIs (K : PySem.W.Frag) (T : List Addr) (t : Ty) : List V → Hp → VK → Prop := fun xs H Q => ∃ x, xs = [x, .ty (tyName t)] ∧ rVs K T (bltD (.isi t)) [x] H Q
theorem tyX_tup {K : PySem.W.Frag} {H : Hp} {a : Addr} {xs : List V} (h : SqT K H a xs) : TyX K H (.ref a) (.type "tuple") := by
  rcases h with (h | ⟨o, h⟩) | ⟨o, _, _, h, hc, _⟩
  · exact .base (.tup h)
  · exact .fTuple h
  · exact .kTuple h hc
theorem tyX_lst {K : PySem.W.Frag} {H : Hp} {a : Addr} {xs : List V} (h : SqL K H a xs) : TyX K H (.ref a) (.type "list") := by
  rcases h with (h | ⟨o, h⟩) | ⟨o, _, _, h, hc, _⟩
  · exact .base (.lst h)
  · exact .base (.frz h)
  · exact .kList h hc
theorem isi_all (t : Ty) : CallR X (.builtin "isinstance") (rIs X.K T t) := by
  intro pins s σ H xs us Q I rx ⟨x, ex, μ, h, ds, r, R, vs, e, q⟩
  subst ex
  have fin : ∀ {n : String} {b : Bool}, TyX X.K H x (.type n) → kitB n (tyName t) = some b → r = (.bl b, h) → wpAny (model X.prog X.w) X.A (call (.builtin "isinstance") us) (EP X pins σ Q) X.xe s := by
    intro n b ty kb er
    subst er
    exact call_isi pins s σ H _ us Q I rx ⟨x, _, .type n, .type (tyName t), b, rfl, .ty _, ty, kit_ty kb, q.here R (.bl b)⟩
  cases vs with
  | cons v1 v2 =>
    cases v2 with
    | nil =>
      simp only [bltD, Option.map_eq_some_iff] at e
      obtain ⟨b, hb, er⟩ := e
      cases v1 with
      | non =>
        simp only [hasTy, Option.some.injEq] at hb; subst hb
        exact fin (.base .non) (by cases t <;> decide +kernel) er.symm
      | bl y =>
        simp only [hasTy, Option.some.injEq] at hb; subst hb
        exact fin (.base (.bl y)) (by cases t <;> decide +kernel) er.symm
      | int y =>
        simp only [hasTy, Option.some.injEq] at hb; subst hb
        exact fin (.base (.int y)) (by cases t <;> decide +kernel) er.symm
      | str y =>
        simp only [hasTy, Option.some.injEq] at hb; subst hb
        exact fin (.base (.str y)) (by cases t <;> decide +kernel) er.symm
      | tup ht rs =>
        simp only [hasTy, Option.some.injEq] at hb; subst hb
        exact fin (tyX_tup ht) (by cases t <;> decide +kernel) er.symm
      | ref ea =>
        simp only [hasTy] at hb
        split at hb
        · rename_i ds hn
          obtain ⟨ws, o, rs⟩ := R.of ea hn
          simp only [Option.some.injEq] at hb; subst hb
          exact fin (.base (.lst o)) (by cases t <;> decide +kernel) er.symm
        · rename_i ds hn
          obtain ⟨ws, o, rs⟩ := R.of ea hn
          simp only [Option.some.injEq] at hb; subst hb
          exact fin (tyX_lst o.sq) (by cases t <;> decide +kernel) er.symm
        · rename_i ds hn
          obtain ⟨ws, o, rs⟩ := R.of ea hn
          simp only [Option.some.injEq] at hb; subst hb
          exact fin (.base (.dK o)) (by cases t <;> decide +kernel) er.symm
        · cases hb
def mtId : Mth → String × String × String
  | .append => ("list", "append", "list.append") | .extend => ("list", "extend", "list.extend") | .pop => ("list", "pop", "list.pop") | .get => ("dict", "get", "dict.get")
theorem mt_all (hu : X.A.units + 400 < cLine) (m : Mth) : MtR X (mtId m).2.2 (rVm X.K T (mthD m)) := by
  intro pins s σ H x xs v us Q I rx rxs ⟨μ, h, d, ds, r, R, vx, vs, e, q⟩
  cases vx with
  | ref ea =>
    rename_i n a
    cases m with
    | append =>
      cases vs with
      | nil => simp [mthD] at e
      | cons v1 v2 =>
        cases v2 with
        | cons _ _ => simp [mthD] at e
        | nil =>
          simp only [mthD] at e
          split at e
          · rename_i es hn
            simp only [Option.ite_none_right_eq_some, Option.some.injEq] at e
            obtain ⟨hl, rfl⟩ := e
            obtain ⟨ws, o, rs⟩ := R.of ea hn
            have w : Wr H a := ⟨_, o, .inl ⟨_, rfl⟩⟩
            have p := List.prefix_refl μ
            refine mt_append pins s σ H _ _ v us Q I rx rxs ⟨a, ws, _, rfl, rfl, o, by rw [← big_eq, ← rs.length]; exact hl, q μ _ _ p (TK.updW w) (R.set ea hn rfl rfl ⟨_, upd_same, ?_⟩) .non⟩
            exact (rs.mono p (TK.updW w)).append (.cons (v1.mono p (TK.updW w)) .nil)
          · cases e
    | extend =>
      cases vs with
      | nil => simp [mthD] at e
      | cons v1 v2 =>
        cases v2 with
        | cons _ _ => cases v1 <;> simp [mthD] at e
        | nil =>
          cases v1 with
          | ref eb =>
            rename_i m b
            simp only [mthD] at e
            split at e
            · rename_i es fs hn hm
              simp only [Option.ite_none_right_eq_some, Option.some.injEq] at e
              obtain ⟨hl, rfl⟩ := e
              obtain ⟨ws, o, rs⟩ := R.of ea hn
              obtain ⟨ws2, o2, rs2⟩ := R.of eb hm
              have w : Wr H a := ⟨_, o, .inl ⟨_, rfl⟩⟩
              have p := List.prefix_refl μ
              refine mt_extend pins s σ H _ _ v us Q I rx rxs ⟨a, b, ws, ws2, rfl, rfl, o, o2, by rw [← big_eq, ← rs.length, ← rs2.length]; exact hl, q μ _ _ p (TK.updW w) (R.set ea hn rfl rfl ⟨_, upd_same, ?_⟩) .non⟩
              exact (rs.mono p (TK.updW w)).append (rs2.mono p (TK.updW w))
            · cases e
          | _ => simp [mthD] at e
    | pop =>
      cases vs with
      | cons _ _ => simp [mthD] at e
      | nil =>
        simp only [mthD] at e
        split at e
        · rename_i es hn
          obtain ⟨ws, o, rs⟩ := R.of ea hn
          split at e
          · rename_i y hy
            simp only [Option.some.injEq] at e
            subst e
            have w : Wr H a := ⟨_, o, .inl ⟨_, rfl⟩⟩
            have p := List.prefix_refl μ
            rw [List.getLast?_eq_getElem?] at hy
            obtain ⟨z, hz, rz⟩ := rs.get hy
            refine mt_pop pins s σ H _ _ v us Q I rx rxs ⟨a, ws, z, rfl, rfl, o, by rw [← rs.length]; exact hz, q μ _ _ p (TK.updW w) (R.set ea hn rfl rfl ⟨_, upd_same, ?_⟩) (rz.mono p (TK.updW w))⟩
            exact rs.dropLast.mono p (TK.updW w)
          · cases e
        · cases e
    | get =>
      cases rx
      cases vs with
      | nil => simp [mthD] at e
      | cons v1 v2 =>
        cases v2 with
        | nil =>
          simp only [mthD] at e
          split at e
          · rename_i kvs hn
            simp only [Option.ite_none_right_eq_some, Option.some.injEq] at e
            obtain ⟨hk, rfl⟩ := e
            obtain ⟨k, ek⟩ := key_some hk
            obtain ⟨ks, o, rs⟩ := R.of ea hn
            have ex := keyOf_kV v1 ek
            subst ex
            obtain ⟨u1, rfl, ru⟩ := rxs.one
            refine d_get1 (by omega) I (.k o) ru fun w' s' I' rw' => ⟨_, H, I', rw', q.here R ?_⟩
            obtain ⟨h1, h2⟩ := kFind_val ek rs
            cases c : kFind kvs _ with
            | none => rw [h2 c]; exact .non
            | some y => obtain ⟨w, h3, h4⟩ := h1 y c; rw [h3]; exact h4
          · cases e
        | cons v3 v4 =>
          cases v4 with
          | cons _ _ => simp [mthD] at e
          | nil =>
            simp only [mthD] at e
            split at e
            · rename_i kvs hn
              simp only [Option.ite_none_right_eq_some, Option.some.injEq] at e
              obtain ⟨hk, rfl⟩ := e
              obtain ⟨k, ek⟩ := key_some hk
              obtain ⟨ks, o, rs⟩ := R.of ea hn
              have ex := keyOf_kV v1 ek
              subst ex
              obtain ⟨u1, u2, rfl, ru, ru2⟩ := rxs.two
              refine d_get2 (by omega) I (.k o) ru ru2 fun w' s' I' rw' => ⟨_, H, I', rw', q.here R ?_⟩
              obtain ⟨h1, h2⟩ := kFind_val ek rs
              cases c : kFind kvs _ with
              | none => rw [h2 c]; exact v3
              | some y => obtain ⟨w, h3, h4⟩ := h1 y c; rw [h3]; exact h4
            · cases e
  | _ => cases m <;> simp [mthD] at e
theorem tyV_of {K : PySem.W.Frag} {μ : List Addr} {h : HI} {H : Hp} {m : Mth} {d : D} {v : V} (R : HR K T μ h H) (rv : RV K μ H d v) (e : recv m d h = true) : tyV K (mtId m).1 v H := by
  cases rv with
  | ref ea =>
    rename_i n a
    cases m with
    | get =>
      simp only [recv] at e
      split at e
      · rename_i hn
        obtain ⟨vs, q, _⟩ := R.of ea hn
        exact .inr (.inr (.inl ⟨rfl, .inl ⟨vs, q⟩⟩))
      · cases e
    | _ =>
      simp only [recv] at e
      split at e
      · rename_i hn
        obtain ⟨vs, q, _⟩ := R.of ea hn
        exact .inl ⟨rfl, vs, .of q⟩
      · cases e
  | _ => cases m <;> simp [recv] at e
end
end MP
namespace MP
open PySem PySem.Spec PyProof.Rows L2
theorem ltI_cons (x y : Int) (xs ys : List Int) : ltI (x :: xs) (y :: ys) = if x = y then ltI xs ys else decide (x < y) := rfl
theorem lex_eq : ∀ a b : List Int, HT.lexLt a b = ltI a b
  | [], [] => rfl
  | [], _ :: _ => rfl
  | _ :: _, [] => rfl
  | x :: xs, y :: ys => by rw [HT.lexLt_cons, ltI_cons, lex_eq xs ys]
section
variable {prog : Program} {w : World} {A : Around} {E : Value → Shared → Prop} {s : Shared}
theorem mapM_any {β : Type} {f : Value → Sem β} {g : Value → β} : ∀ (vs : List Value) {Q : List β → Shared → Prop}, (∀ v ∈ vs, ∀ Q : β → Shared → Prop, Q (g v) s → wpAny (model prog w) A (f v) Q E s) → Q (vs.map g) s → wpAny (model prog w) A (vs.mapM f) Q E s
  | [], Q, _, q => by
    rw [List.mapM_nil]
    exact wpAny_pure q
  | v :: vs, Q, h, q => by
    rw [List.mapM_cons]
    refine wpAny_bind (h v List.mem_cons_self _ (wpAny_bind (mapM_any vs (fun u hu => h u (List.mem_cons_of_mem _ hu)) (wpAny_pure q))))
def fstOf (h : Heap) (v : Value) : Option Value := match v with
  | .ref a => match h.get? a with
    | some o => match o.data with
      | .seq xs _ => xs[0]?
      | _ => none
    | none => none
  | _ => none
theorem first_at {v : Value} {ns : List Int} {Q : Option Value → Shared → Prop} (t : TS.TupInts s.heap v ns) (h : Q (fstOf s.heap v) s) : wpAny (model prog w) A (firstOfTuple' v) Q E s := by
  obtain ⟨a, xs, rfl, ⟨o, ho, hc, n, hd⟩, i⟩ := t
  show wpAny _ _ (typeOf (Value.ref a) >>= fun ty => if (ty != Value.type "tuple") = true then pure none else Builtin.List.listItems (.ref a) >>= fun ys => pure ys[0]?) _ _ s
  refine wpAny_bind (wpAny_typeOf ⟨o, ho, hc⟩ ?_)
  have e : (Value.type "tuple" != Value.type "tuple") = false := by decide
  rw [e, if_neg Bool.false_ne_true]
  refine wpAny_bind (listItems_at ho hd (wpAny_pure ?_))
  have : fstOf s.heap (.ref a) = xs[0]? := by simp only [fstOf, ho, hd]
  rw [← this]
  exact h
theorem kind_empty {v : Value} {vs : List Value} {ls : Value → List Int} {Q : SortKind → Shared → Prop} (hv : ∀ u ∈ v :: vs, TS.TupInts s.heap u (ls u)) (h0 : ls v = []) (h : Q oneType' s) : wpAny (model prog w) A (keyKind' (v :: vs).toArray) Q E s := by
  rw [PyProof.Rows.keyKind'_eq, List.mapM_toArray, map_eq_pure_bind]
  refine wpAny_bind (wpAny_bind (mapM_any (g := fstOf s.heap) _ (fun u hu Q' q => first_at (hv u hu) q) (wpAny_pure ?_)))
  have e0 : fstOf s.heap v = none := by
    obtain ⟨a, xs, rfl, ⟨o, ho, hc, n, hd⟩, i⟩ := hv v List.mem_cons_self
    simp only [fstOf, ho, hd]
    have := i.length
    rw [h0, Array.length_toList] at this
    simp at this
    simp [this]
  rw [if_neg (by simp [e0]), if_neg (by simp [e0])]
  rw [oneTypeOnly'_eq, List.mapM_toArray, map_eq_pure_bind]
  refine wpAny_bind (wpAny_bind (wpAny_bind (mapM_any (g := fun _ => Value.type "tuple") _ (fun u hu Q' q => ?_) (wpAny_pure ?_))))
  · obtain ⟨a, xs, rfl, ⟨o, ho, hc, n, hd⟩, i⟩ := hv u hu
    exact wpAny_typeOf ⟨o, ho, hc⟩ q
  · have a1 : (List.map (fun _ => Value.type "tuple") (v :: vs)).toArray[0]? = some (Value.type "tuple") := by simp
    have a2 : ((List.map (fun _ => Value.type "tuple") (v :: vs)).toArray.all fun x => x == Value.type "tuple") = true := by
      simp
    rw [a1]
    simp only [a2, if_true]
    exact wpAny_pure (wpAny_pure h)
theorem lt_oneType {x y : Value} {ns ms : List Int} {Q : Bool → Shared → Prop} (tx : TS.TupInts s.heap x ns) (ty : TS.TupInts s.heap y ms) (hu : A.units < cLine) (h : Q (ltI ns ms) s) : wpAny (model prog w) A (keyLt' oneType' x y) Q E s := by
  obtain ⟨a, xs, rfl, ⟨⟨c1, d1, dt1, s1⟩, ho, hc, n, hd⟩, i⟩ := tx
  obtain ⟨b, ys, rfl, ⟨⟨c2, d2, dt2, s2⟩, ho2, hc2, n2, hd2⟩, i2⟩ := ty
  simp only at hc hd hc2 hd2
  subst hc hd hc2 hd2
  rw [keyLt'_oneType, oneLt'_eq]
  simp only [if_true]
  refine wpAny_bind (wpAny_cRoomFor hu (wpAny_bind ?_))
  refine wpAny_callSpecialIfBound?_slot ⟨_, ho, rfl⟩ PySem.F.slot_tuple_lt (call_meets PySem.F.slot_tuple_lt ⟨_, ho, rfl⟩ PySem.F.entry_tuple_lt (PySem.F.args_tuple_lt_2 _ _) (HT.tuple_lt_ints a b xs ys n n2 d1 d2 s1 s2 ns ms i i2) ⟨ho, ho2, ?_⟩)
  rw [lex_eq]
  exact wpAny_truthy_bool h
end
theorem ltI_irr : ∀ a : List Int, ltI a a = false
  | [] => rfl
  | x :: a => by rw [ltI_cons, if_pos rfl]; exact ltI_irr a
theorem lt_tri : ∀ {a b : List Int}, ltI a b = false → ltI b a = false → a = b
  | [], [], _, _ => rfl
  | [], _ :: _, h, _ => by simp [ltI] at h
  | _ :: _, [], _, h => by simp [ltI] at h
  | x :: a, y :: b, h, g => by
    rw [ltI_cons] at h g
    by_cases e : x = y
    · subst e
      rw [if_pos rfl] at h g
      rw [lt_tri h g]
    · rw [if_neg e] at h
      rw [if_neg (Ne.symm e)] at g
      simp only [decide_eq_false_iff_not] at h g
      omega
theorem lt_trans : ∀ {a b c : List Int}, ltI a b = true → ltI b c = true → ltI a c = true
  | [], _, _ :: _, _, _ => rfl
  | [], [], [], h, _ => by simp [ltI] at h
  | [], _ :: _, [], _, h => by simp [ltI] at h
  | _ :: _, [], _, h, _ => by simp [ltI] at h
  | _ :: _, _ :: _, [], _, h => by simp [ltI] at h
  | x :: a, y :: b, z :: c, h, g => by
    rw [ltI_cons] at h g ⊢
    by_cases e : x = y
    · subst e
      rw [if_pos rfl] at h
      by_cases f : x = z
      · subst f
        rw [if_pos rfl] at g ⊢
        exact lt_trans h g
      · rw [if_neg f] at g ⊢
        exact g
    · rw [if_neg e] at h
      by_cases f : y = z
      · subst f
        rw [if_neg e]
        exact h
      · rw [if_neg f] at g
        have h1 := of_decide_eq_true h
        have g1 := of_decide_eq_true g
        rw [if_neg (by omega)]
        exact decide_eq_true (by omega)
theorem leL_trans {a b c : List Int} (h : leL a b = true) (g : leL b c = true) : leL a c = true := by
  unfold leL at *
  rw [Bool.not_eq_true'] at *
  cases e : ltI c a with
  | false => rfl
  | true =>
    cases f : ltI a b with
    | true => rw [lt_trans e f] at g; cases g
    | false =>
      have := lt_tri f h
      subst this
      rw [e] at g
      cases g
theorem leL_total (a b : List Int) : leL a b = true ∨ leL b a = true := by
  unfold leL
  cases e : ltI b a with
  | false => exact .inl rfl
  | true =>
    refine .inr ?_
    cases f : ltI a b with
    | false => rfl
    | true => have := lt_trans e f; rw [ltI_irr] at this; cases this
theorem insL_perm (x : List Int) : ∀ l, (insL x l).Perm (x :: l)
  | [] => .refl _
  | y :: r => by
    unfold insL
    split
    · exact .refl _
    · exact ((insL_perm x r).cons y).trans (.swap ..)
theorem srtL_perm : ∀ l, (srtL l).Perm l
  | [] => .nil
  | x :: r => (insL_perm x _).trans ((srtL_perm r).cons x)
theorem insL_pw {x : List Int} : ∀ {l : List (List Int)}, l.Pairwise (fun a b => leL a b = true) → (insL x l).Pairwise (fun a b => leL a b = true)
  | [], _ => by simp [insL]
  | y :: r, h => by
    have hh := List.pairwise_cons.mp h
    unfold insL
    split
    · rename_i e
      exact List.pairwise_cons.mpr ⟨fun z hz => (List.mem_cons.mp hz).elim (fun q => q ▸ e) fun q => leL_trans e (hh.1 z q), h⟩
    · rename_i e
      have e' := (leL_total x y).resolve_left e
      exact List.pairwise_cons.mpr ⟨fun z hz => ((insL_perm x r).mem_iff.mp hz |> List.mem_cons.mp).elim (fun q => q ▸ e') (hh.1 z), insL_pw hh.2⟩
theorem srtL_pw : ∀ l, (srtL l).Pairwise (fun a b => leL a b = true)
  | [] => .nil
  | x :: r => insL_pw (srtL_pw r)
theorem pw_unique : ∀ {l k : List (List Int)}, l.Perm k → l.Pairwise (fun a b => leL a b = true) → k.Pairwise (fun a b => leL a b = true) → l = k
  | [], k, p, _, _ => p.nil_eq
  | x :: l, [], p, _, _ => by simpa using p.length_eq
  | x :: l, y :: k, p, h, g => by
    have hh := List.pairwise_cons.mp h
    have gg := List.pairwise_cons.mp g
    have e1 : leL x y = true := by
      rcases List.mem_cons.mp (p.mem_iff.mpr (List.mem_cons_self : y ∈ y :: k)) with e | e
      · rw [e]; exact (leL_total _ _).elim id id
      · exact hh.1 y e
    have e2 : leL y x = true := by
      rcases List.mem_cons.mp (p.mem_iff.mp (List.mem_cons_self : x ∈ x :: l)) with e | e
      · rw [e]; exact (leL_total _ _).elim id id
      · exact gg.1 x e
    have e : x = y := by
      unfold leL at e1 e2
      rw [Bool.not_eq_true'] at e1 e2
      exact lt_tri e2 e1
    subst e
    rw [pw_unique (p.cons_inv) hh.2 gg.2]
def rankL (l : List (List Int)) (a : List Int) : Nat := (l.filter fun b => ltI b a).length
theorem rank_le {a b : List Int} (h : leL a b = true) : ∀ l : List (List Int), rankL l a ≤ rankL l b
  | [] => Nat.le_refl _
  | c :: l => by
    unfold rankL
    have ih := rank_le h l
    unfold rankL at ih
    simp only [List.filter_cons]
    cases e : ltI c a with
    | false =>
      simp only [Bool.false_eq_true, if_false]
      split
      · simp only [List.length_cons]; omega
      · exact ih
    | true =>
      have : ltI c b = true := by
        unfold leL at h
        rw [Bool.not_eq_true'] at h
        cases f : ltI a b with
        | true => exact lt_trans e f
        | false => rw [← lt_tri f h]; exact e
      simp only [this, if_true, List.length_cons]
      omega
theorem rank_lt {a b : List Int} (h : ltI a b = true) : ∀ {l : List (List Int)}, a ∈ l → rankL l a < rankL l b
  | c :: l, hm => by
    have hl : leL a b = true := by
      unfold leL
      cases f : ltI b a with
      | false => rfl
      | true => have := lt_trans h f; rw [ltI_irr] at this; cases this
    have ih := rank_le hl l
    unfold rankL at ih ⊢
    simp only [List.filter_cons]
    by_cases e : c = a
    · subst e
      rw [ltI_irr, h]
      simp only [Bool.false_eq_true, if_false, if_true, List.length_cons]
      omega
    · have ih2 := rank_lt h (List.mem_of_ne_of_mem (Ne.symm e) hm)
      unfold rankL at ih2
      cases f : ltI c a with
      | false =>
        simp only [Bool.false_eq_true, if_false]
        split
        · simp only [List.length_cons]; omega
        · exact ih2
      | true =>
        rw [lt_trans f h]
        simp only [if_true, List.length_cons]
        omega
theorem rank_iff {a b : List Int} {l : List (List Int)} (ha : a ∈ l) : decide ((rankL l a : Int) < (rankL l b : Int)) = ltI a b := by
  cases e : ltI a b with
  | true => exact decide_eq_true (by have := rank_lt e ha; omega)
  | false =>
    have := rank_le (a := b) (b := a) (by unfold leL; rw [e]; rfl) l
    exact decide_eq_false (by omega)
section
variable {prog : Program} {w : World} {A : Around} {E : Value → Shared → Prop} {s : Shared}
theorem sorted_rank {l : Addr} {vs : List Value} {r : Value → Int} {Q : Value → Shared → Prop} (hl : s.heap.IsList l vs.toArray) (h64 : vs.length < 64)
    (hK : ∀ (h' : Heap) (A' : Around), A'.units ≤ A.units + 8 → (∀ b o, s.heap.get? b = some o → o.cls = .type "tuple" → h'.get? b = some o) → 2 ≤ vs.length → ∀ P : SortKind → Shared → Prop, (∀ κ, TS.Cmp prog w A' { s with heap := h' } κ (pairsOf vs) r → P κ { s with heap := h' }) → wpAny (model prog w) A' (keyKind' vs.toArray) P E { s with heap := h' })
    (h : ∀ out : Array Value, out.toList.Perm vs → out.toList.Pairwise (fun u v => r u ≤ r v) → Q (.ref (s.heap.objs.size + 1)) { s with heap := sortedAll s.heap vs out }) :
    wpAny (model prog w) A (call (.builtin "sorted") [.ref l]) Q E s := by
  refine Calls.call_function_entry kind_sorted plain_sorted entry_sorted (args_sorted1 _) ?_
  unfold Builtin.«sorted»
  refine wpAny_bind (m := checkCount "sorted" 1 1 _) (wpAny_pure (wpAny_bind (collect_list hl (wpAny_bind (wpAny_newList ?_ (by rw [sizeLine_eq]; omega))) (by rw [sizeLine_eq]; omega))))
  obtain ⟨h1, e1⟩ : ∃ h1, (s.heap.push (seqObj "list" #[] 0)).update s.heap.objs.size (Obj.mapSeq (· ++ vs.toArray)) = h1 := ⟨_, rfl⟩
  have hz : h1.objs.size = s.heap.objs.size + 1 := by rw [← e1, Heap.size_update, size_push']
  have at2 : (h1.push (seqObj "list" vs.toArray 0)).get? (s.heap.objs.size + 1) = some (seqObj "list" vs.toArray 0) := by rw [← hz]; exact Heap.get?_push_size _ rfl
  have old : ∀ b o, s.heap.get? b = some o → o.cls = .type "tuple" → (TS.midHeap (h1.push (seqObj "list" vs.toArray 0)) (s.heap.objs.size + 1) vs).get? b = some o := fun b o q _ => by
    have lt : b < s.heap.objs.size := Heap.lt_size q
    refine TS.midHeap_old (Nat.ne_of_lt (Nat.lt_succ_of_lt lt)) ?_
    rw [Heap.get?_push_ne _ _ _ (by rw [hz]; exact Nat.ne_of_lt (Nat.lt_succ_of_lt lt)), ← e1, Heap.get?_update_ne _ _ _ _ (Nat.ne_of_lt lt), Heap.get?_push_ne _ _ _ (Nat.ne_of_lt lt)]
    exact q
  show wpAny _ _ _ _ _ { s with heap := ((s.heap.push (seqObj "list" #[] 0)).update s.heap.objs.size (Obj.mapSeq (· ++ vs.toArray))).push (seqObj "list" vs.toArray 0) }
  rw [e1, hz]
  refine wpAny_bind (wpAny_holding (wpAny_call_entry slot_list_sort ⟨_, at2, rfl⟩ entry_list_sort (SK.plain_sort (r := r) at2 h64 (fun h2 P hP => ?_) fun ps out p1 p2 p3 => ⟨_, rfl, ?_⟩) (args_list_sort _)))
  · exact hK _ _ (by show A.units + 1 + 1 ≤ _; omega) old h2 P hP
  · obtain ⟨q1, q2⟩ := TS.out_rank p1 p2 p3
    refine wpAny_pure ⟨_, rfl, ?_⟩
    rw [← e1]
    exact h out q1 q2
end
section
variable {K : PySem.W.Frag} {μ : List Addr} {H : Hp}
theorem intsD_map : ∀ {ds : List D} {l : List Int}, intsD ds = some l → ds = l.map .int
  | [], l, e => by simp [intsD] at e; subst e; rfl
  | d :: r, l, e => by
    cases d with
    | int i =>
      simp only [intsD, Option.map_eq_some_iff] at e
      obtain ⟨l', h1, rfl⟩ := e
      rw [intsD_map h1]
      rfl
    | _ => simp [intsD] at e
theorem tupsD_map : ∀ {ds : List D} {l : List (List Int)}, tupsD ds = some l → ds = l.map tupI
  | [], l, e => by simp [tupsD] at e; subst e; rfl
  | d :: r, l, e => by
    cases d with
    | tup es =>
      simp only [tupsD] at e
      obtain ⟨l1, e1, e2⟩ := Option.bind_eq_some_iff.mp e
      obtain ⟨l', h1, rfl⟩ := Option.map_eq_some_iff.mp e2
      rw [tupsD_map h1, intsD_map e1]
      rfl
    | _ => simp [tupsD] at e
theorem rvs_ints : ∀ (l : List Int) {vs : List V}, RVs K μ H (l.map .int) vs → vs = l.map V.int
  | [], vs, h => by cases h; rfl
  | x :: r, vs, h => by
    cases h with
    | cons h1 h2 =>
      cases h1
      rw [rvs_ints r h2]
      rfl
theorem ints_rvs : ∀ (l : List Int), RVs K μ H (l.map .int) (l.map V.int)
  | [] => .nil
  | x :: r => .cons (.int x) (ints_rvs r)
theorem rvs_tups : ∀ (l : List (List Int)) {vs : List V}, RVs K μ H (l.map tupI) vs → ∃ ts : List (Addr × List Int), vs = ts.map (fun p => V.ref p.1) ∧ l = ts.map (·.2) ∧ ∀ p ∈ ts, SqT K H p.1 (p.2.map V.int)
  | [], vs, h => by cases h; exact ⟨[], rfl, rfl, fun _ hp => nomatch hp⟩
  | x :: r, vs, h => by
    cases h with
    | cons h1 h2 =>
      obtain ⟨ts, e1, e2, e3⟩ := rvs_tups r h2
      cases h1 with
      | tup hs hr =>
        rename_i a us
        have e := rvs_ints x hr
        subst e
        refine ⟨(a, x) :: ts, by rw [e1]; rfl, by rw [e2]; rfl, fun p hp => ?_⟩
        rcases List.mem_cons.mp hp with rfl | hp
        · exact hs
        · exact e3 p hp
theorem tups_rvs : ∀ (ts : List (Addr × List Int)), (∀ p ∈ ts, SqT K H p.1 (p.2.map V.int)) → RVs K μ H (ts.map fun p => tupI p.2) (ts.map fun p => V.ref p.1)
  | [], _ => .nil
  | p :: r, h => .cons (.tup (h p List.mem_cons_self) (ints_rvs _)) (tups_rvs r fun q hq => h q (List.mem_cons_of_mem _ hq))
theorem vals_tups : ∀ (ts : List (Addr × List Int)) {us : List Value}, Vals (ts.map fun p => V.ref p.1) us → us = ts.map fun p => Value.ref p.1
  | [], us, h => by cases h; rfl
  | p :: r, us, h => by
    cases h with
    | cons h1 h2 =>
      rw [List.map_cons, vals_tups r h2]
      exact congrArg (· :: _) h1
theorem tups_vals : ∀ (ts : List (Addr × List Int)), Vals (ts.map fun p => V.ref p.1) (ts.map fun p => Value.ref p.1)
  | [] => .nil
  | p :: r => .cons rfl (tups_vals r)
end
theorem perm_img {α β : Type} {f : α → β} {l : List β} {m : List β} (p : l.Perm m) : ∀ {k : List α}, m = k.map f → ∃ k2 : List α, k2.Perm k ∧ l = k2.map f := by
  induction p with
  | nil =>
    intro k h
    have : k = [] := by simpa using h.symm
    subst this
    exact ⟨[], .nil, rfl⟩
  | cons x p ih =>
    intro k h
    cases k with
    | nil => cases h
    | cons a k =>
      cases h
      obtain ⟨k', p', e⟩ := ih rfl
      exact ⟨a :: k', p'.cons a, by rw [e]; rfl⟩
  | swap x y l =>
    intro k h
    match k, h with
    | a :: b :: k, h =>
      cases h
      exact ⟨b :: a :: k, .swap .., rfl⟩
  | trans p q ihp ihq =>
    intro k h
    obtain ⟨k1, p1, e1⟩ := ihq h
    obtain ⟨k2, p2, e2⟩ := ihp e1
    exact ⟨k2, p2.trans p1, e2⟩
section
variable {X : Cx} {T : List Addr}
theorem sorted_tupI (hu : X.A.units + 400 < cLine) {pins : List (Addr × Obj)} {σ : L2.St} {H : Hp} {s : Shared} {us : List Value} {a : Addr} {ts : List (Addr × List Int)} {Q : VK} (I : Inv X pins σ H s) (rx : Vals [V.ref a] us) (hs : SqL X.K H a (ts.map fun p => V.ref p.1)) (ht : ∀ p ∈ ts, SqT X.K H p.1 (p.2.map V.int)) (h64 : ts.length < 64) (h0 : ∃ t r, ts = (t, []) :: r)
    (q : ∀ (ts' : List (Addr × List Int)) p, ts'.Perm ts → ts'.map (·.2) = srtL (ts.map (·.2)) → H p = none → Q (.ref p) (upd H p (.lst (ts'.map fun p => V.ref p.1)))) :
    wpAny (model X.prog X.w) X.A (call (.builtin "sorted") us) (EP X pins σ Q) X.xe s := by
  cases rx with
  | cons r1 r2 =>
    cases r2
    cases r1
    obtain ⟨its, rv, hl, hz⟩ := I.list hs
    have ei := vals_tups ts rv
    subst ei
    have raw : ∀ p ∈ ts, TS.TupInts s.heap (.ref p.1) p.2 := fun p hp => tupI_raw I (ht p hp)
    have rawi : ∀ p ∈ ts, TS.intsOf s.heap (.ref p.1) = p.2 := fun p hp => (raw p hp).ints
    refine sorted_rank (r := fun v => (rankL (ts.map (·.2)) (TS.intsOf s.heap v) : Int)) hl.isList (by rw [List.length_map]; exact h64) (fun h' A' hA old h2 P hP => ?_) fun out h1 h2 => ?_
    · obtain ⟨t0, r0, e0⟩ := h0
      have raw' : ∀ p ∈ ts, TS.TupInts h' (.ref p.1) p.2 := fun p hp => (raw p hp).keeps old
      have rawv : ∀ u ∈ ts.map (fun p => Value.ref p.1), TS.TupInts h' u (TS.intsOf s.heap u) := fun u hu => by
        obtain ⟨p, hp, rfl⟩ := List.mem_map.mp hu
        rw [rawi p hp]
        exact raw' p hp
      have ec : ts.map (fun p => Value.ref p.1) = Value.ref t0 :: r0.map (fun p => Value.ref p.1) := by rw [e0]; rfl
      rw [ec]
      refine kind_empty (s := { s with heap := h' }) (ls := TS.intsOf s.heap) (fun u hu => rawv u (by rw [ec]; exact hu)) (rawi (t0, []) (by rw [e0]; exact List.mem_cons_self)) (hP _ ?_)
      intro x y hx hy Q' E' hQ'
      rw [PyProof.Rows.pairsOf_toList] at hx hy
      have mx := (mem_zip_self hx).2
      have my := (mem_zip_self hy).2
      refine lt_oneType (s := { s with heap := h' }) (rawv _ mx) (rawv _ my) (by omega) ?_
      rw [← rank_iff (l := ts.map (·.2))]
      · exact hQ'
      · obtain ⟨p, hp, ep⟩ := List.mem_map.mp mx
        rw [← ep, rawi p hp]
        exact List.mem_map.mpr ⟨p, hp, rfl⟩
    · obtain ⟨ts', hp', eo⟩ := perm_img h1 rfl
      obtain ⟨ep, he'⟩ := PyProof.Rows.sortedAll_at s.heap (ts.map fun p => Value.ref p.1) out
      have hsorted : (ts'.map (·.2)).Pairwise (fun a b => leL a b = true) := by
        rw [eo, List.pairwise_map] at h2
        rw [List.pairwise_map]
        refine List.Pairwise.imp_of_mem (fun {u v} hu hv huv => ?_) h2
        have mu := hp'.mem_iff.mp hu
        have mv := hp'.mem_iff.mp hv
        rw [rawi u mu, rawi v mv] at huv
        unfold leL
        cases e : ltI v.2 u.2 with
        | false => rfl
        | true =>
          have := rank_lt e (List.mem_map.mpr ⟨v, mv, rfl⟩ : v.2 ∈ ts.map (·.2))
          omega
      have eu := pw_unique ((hp'.map (·.2)).trans (srtL_perm _).symm) hsorted (srtL_pw _)
      refine ⟨.ref _, upd H (s.heap.objs.size + 1) (.lst (ts'.map fun p => V.ref p.1)), I.laid (t' := s.toks) (fun _ _ => PyProof.Rows.sortedAll_old) (Nat.le_succ _) ⟨?_, out.toList, ep, by rw [eo]; exact tups_vals ts', he'⟩, rfl, q ts' _ hp' eu (I.hok.fresh (Nat.le_succ _))⟩
      rw [List.length_map, hp'.length_eq, sizeLine_eq]
      omega
end
end MP
namespace MP
open PySem PySem.Spec PyProof.Rows L2
def keyS (e : Int × Value) : Str := match e.2 with | .str k _ => k | _ => Str.empty
def GoodS (P : Program) (w : World) (e : Int × Value) : Prop := ∃ k tk, e.2 = Value.str k tk ∧ e.1 = (strKind P w).hash k
structure SetS (P : Program) (w : World) (h : Heap) (a : Addr) (S : Str → Bool) (o : Obj) (es : Array (Int × Value)) (ep : Nat) (t : SetTable) : Prop where
  at_ : h.get? a = some o
  ex : o.ExactSet
  dat : o.data = .set es ep t
  good : ∀ e ∈ es.toList, GoodS P w e
  nd : (es.toList.map keyS).Nodup
  mem : ∀ k, S k = true ↔ k ∈ es.toList.map keyS
  few : es.size < scanBound
  fits : t.fits es.size = true
  ris : Ris t.place.toList
  led : w.params.followText "set-order" = true ∨ t.led = true
def SetSE (P : Program) (w : World) (h : Heap) (a : Addr) (S : Str → Bool) (n : Nat) : Prop := ∃ o es ep t, SetS P w h a S o es ep t ∧ es.size = n
section
variable {P : Program} {w : World} {A : Around} {E : Value → Shared → Prop} {s : Shared} {a : Addr} {S : Str → Bool} {n : Nat} {h h' : Heap}
theorem SetSE.keep (r : SetSE P w h a S n) (k : ∀ o, h.get? a = some o → h'.get? a = some o) : SetSE P w h' a S n := by
  obtain ⟨o, es, ep, t, r, hn⟩ := r
  exact ⟨o, es, ep, t, ⟨k o r.at_, r.ex, r.dat, r.good, r.nd, r.mem, r.few, r.fits, r.ris, r.led⟩, hn⟩
theorem SetSE.congr {S' : Str → Bool} (r : SetSE P w h a S n) (e : ∀ k, S' k = S k) : SetSE P w h a S' n := by
  obtain ⟨o, es, ep, t, r, hn⟩ := r
  exact ⟨o, es, ep, t, ⟨r.at_, r.ex, r.dat, r.good, r.nd, fun k => by rw [e]; exact r.mem k, r.few, r.fits, r.ris, r.led⟩, hn⟩
theorem goodS_elems {l : List (Int × Value)} (g : ∀ e ∈ l, GoodS P w e) : ElemsOf (strKind P w) l := fun e he => by
  obtain ⟨k, tk, e1, e2⟩ := g e he
  exact ⟨⟨k, by rw [e1]; exact strKind_is P w k tk, e2⟩, by rw [e1]; rfl⟩
theorem goodS_is {e : Int × Value} (g : GoodS P w e) (k : Str) : (strKind P w).is k e.2 = true ↔ keyS e = k := by
  obtain ⟨j, tk, e1, e2⟩ := g
  unfold keyS
  rw [e1]
  show (strKind P w).is k (.str j tk) = true ↔ j = k
  constructor
  · intro q
    exact (strKind P w).inj _ _ _ (strKind_is P w j tk) q
  · rintro rfl
    exact strKind_is P w j tk
theorem goodS_mem {l : List (Int × Value)} (g : ∀ e ∈ l, GoodS P w e) (k : Str) : k ∈ l.map keyS ↔ ∃ e ∈ l, (strKind P w).is k e.2 = true := by
  rw [List.mem_map]
  exact ⟨fun ⟨e, he, q⟩ => ⟨e, he, (goodS_is (g e he) k).2 q⟩, fun ⟨e, he, q⟩ => ⟨e, he, (goodS_is (g e he) k).1 q⟩⟩
theorem SetS.store {o : Obj} {es es1 : Array (Int × Value)} {ep : Nat} {t t2 : SetTable} (ho : s.heap.get? a = some o) (hex : o.ExactSet) (hd : o.data = .set es ep t)
    (g1 : ∀ e ∈ es1.toList, GoodS P w e) (nd1 : (es1.toList.map keyS).Nodup) (m1 : ∀ k, S k = true ↔ k ∈ es1.toList.map keyS) (hb1 : es1.size < scanBound) (hf2 : t2.fits es1.size = true) (hr : Ris t2.place.toList)
    (hl : w.params.followText "set-order" = true ∨ t2.led = true) : SetS P w (s.heap.update a (Obj.putSet es1 t2)) a S { o with data := .set es1 (ep + 1) t2 } es1 (ep + 1) t2 :=
  ⟨store_at ho hd, hex, rfl, g1, nd1, m1, hb1, hf2, hr, hl⟩
theorem setS_tail {g : Bool → Sem Unit} (hg : ∀ (b : Bool) (s₁ : Shared) (Q' : Unit → Shared → Prop), Q' () s₁ → wpAny (model P w) A (g b) Q' E s₁)
    {o : Obj} {es : Array (Int × Value)} {ep : Nat} {t : SetTable} (ho : s.heap.get? a = some o) (hex : o.ExactSet) (hd : o.data = .set es ep t) {es1 : Array (Int × Value)} {t2 : SetTable}
    (g1 : ∀ e ∈ es1.toList, GoodS P w e) (nd1 : (es1.toList.map keyS).Nodup) (m1 : ∀ k, S k = true ↔ k ∈ es1.toList.map keyS) (hb1 : es1.size < scanBound) (hf2 : t2.fits es1.size = true) (hr : Ris t2.place.toList)
    (hl : w.params.followText "set-order" = true ∨ t2.led = true) {wd : Bool} {R : Option Bool → Shared → Prop} (hR : ∀ h', Heap.SameBut a s.heap h' → SetSE P w h' a S es1.size → R (some true) { s with heap := h' }) :
    wpAny (model P w) A (do
        storeSet a es1 t2
        if (!wd && t2.tooFull) = true then do
            g (relayAll t2 es1 (SetTable.grown es1.size)).2.2
            storeSet a (relayAll t2 es1 (SetTable.grown es1.size)).1 (relayAll t2 es1 (SetTable.grown es1.size)).2.1
            pure (some true)
          else pure (some true)) R E s := by
  have st1 := SetS.store (S := S) ho hex hd g1 nd1 m1 hb1 hf2 hr hl
  have sb := Heap.SameBut.update s.heap a (Obj.putSet es1 t2)
  refine wpAny_bind (wpAny_storeSet_of ho hd ?_ (fits_of_scanBound hb1))
  by_cases c : (!wd && t2.tooFull) = true
  · rw [if_pos c]
    have z1 := relayAll_perm t2 es1 (SetTable.grown es1.size)
    have z2 := relayAll_fits t2 es1 (SetTable.grown es1.size)
    have z3 := relayAll_ris t2 es1 (SetTable.grown es1.size)
    have z4 := relayAll_led t2 es1 (SetTable.grown es1.size)
    generalize relayAll t2 es1 (SetTable.grown es1.size) = Y at z1 z2 z3 z4 ⊢
    obtain ⟨es2, t3, gave⟩ := Y
    dsimp only at z1 z2 z3 z4 ⊢
    have hn : es2.size = es1.size := by rw [← Array.length_toList, z1.length_eq, Array.length_toList]
    have hb2 : es2.size < scanBound := by omega
    refine wpAny_bind (hg _ _ _ (wpAny_bind (wpAny_storeSet_of st1.at_ rfl ?_ (fits_of_scanBound hb2))))
    have st2 := SetS.store (s := { s with heap := s.heap.update a (Obj.putSet es1 t2) }) (S := S) (es1 := es2) (t2 := t3) st1.at_ hex rfl (fun e he => g1 e (z1.mem_iff.mp he)) ((z1.map keyS).nodup_iff.mpr nd1) (fun k => (m1 k).trans (z1.map keyS).mem_iff.symm) hb2 z2 z3 (hl.imp id fun q => by rw [z4]; exact q)
    exact wpAny_pure (hR _ (sb.trans (Heap.SameBut.update _ a _)) ⟨_, _, _, _, st2, hn⟩)
  · rw [if_neg c]
    exact wpAny_pure (hR _ sb ⟨_, _, _, _, st1, rfl⟩)
theorem setS_add {k : Str} {tk : Tok} {Q : Bool → Shared → Prop} (R : SetSE P w s.heap a S n) (room : n + 1 < scanBound)
    (hQ : ∀ h', Heap.SameBut a s.heap h' → SetSE P w h' a (fun j => S j || decide (j = k)) (if S k = true then n else n + 1) → Q (!S k) { s with heap := h' }) :
    wpAny (model P w) A (setAddHashed a (.str k tk) ((strKind P w).hash k)) Q E s := by
  obtain ⟨o, es, ep, t, r, hn⟩ := R
  have hsc : (Value.str k tk).scannable = true := rfl
  have hel : ElemsOf (strKind P w) es.toList := goodS_elems r.good
  unfold setAddHashed setAddHashedIn
  refine wpAny_holding (wpAny_bind (wpAny_setState_of r.at_ r.dat r.fits ?_))
  dsimp only
  rw [byScan_of hsc r.few hel]
  simp only [↓reduceIte]
  unfold setAddByScan
  refine wpAny_bind (wpAny_bind (wpAny_rule (wpAny_bind (wpAny_setScan_of (strKind_is P w k tk) r.at_ r.dat r.fits hel ?_))))
  cases hfi : List.findIdx? (fun e => (strKind P w).is k e.2) es.toList with
  | some j =>
    dsimp only
    obtain ⟨hj, pj, _⟩ := List.findIdx?_eq_some_iff_getElem.mp hfi
    have hSk : S k = true := (r.mem k).2 ((goodS_mem r.good k).2 ⟨es.toList[j], List.getElem_mem hj, pj⟩)
    have q := hQ s.heap (Heap.SameBut.refl a s.heap) (by
      rw [if_pos hSk]
      exact SetSE.congr ⟨o, es, ep, t, r, hn⟩ fun i => by
        by_cases c : i = k
        · subst c; simp [hSk]
        · simp [c])
    rw [hSk] at q
    exact wpAny_pure (wpAny_pure q)
  | none =>
    dsimp only
    have hnk : k ∉ es.toList.map keyS := fun z => by
      obtain ⟨e, he, q⟩ := (goodS_mem r.good k).1 z
      have c := List.findIdx?_eq_none_iff.mp hfi e he
      rw [q] at c
      cases c
    have hSk : S k = false := by
      cases q : S k with
      | false => rfl
      | true => exact absurd ((r.mem k).1 q) hnk
    have hgw : ∀ (b : Bool) {s₁ : Shared} {Q' : Unit → Shared → Prop}, Q' () s₁ → wpAny (model P w) A (match b with | true => rule "set.scan.the-table-gave-way" | false => pure ()) Q' E s₁ :=
      fun b s₁ Q' q => by cases b <;> first | exact wpAny_pure q | exact wpAny_rule q
    have y1 := layNew_perm t es ((strKind P w).hash k) (.str k tk)
    have y2 := layNew_fits t es ((strKind P w).hash k) (.str k tk)
    have y3 := layNew_ris t es ((strKind P w).hash k) (.str k tk) r.ris
    have y4 := layNew_led t es ((strKind P w).hash k) (.str k tk)
    generalize layNew t es ((strKind P w).hash k) (.str k tk) = Y at y1 y2 y3 y4 ⊢
    obtain ⟨es1, t1, wd, gave⟩ := Y
    dsimp only at y1 y2 y3 y4 ⊢
    rw [Array.toList_push] at y1
    have pc : es1.toList.Perm (((strKind P w).hash k, Value.str k tk) :: es.toList) := y1.trans (List.perm_append_singleton _ _)
    have pk : (es1.toList.map keyS).Perm (k :: es.toList.map keyS) := pc.map keyS
    have g1 : ∀ e ∈ es1.toList, GoodS P w e := fun e he => by
      rcases List.mem_cons.mp (pc.mem_iff.mp he) with z | z
      · rw [z]; exact ⟨k, tk, rfl, rfl⟩
      · exact r.good e z
    have nd1 : (es1.toList.map keyS).Nodup := pk.nodup_iff.mpr (List.nodup_cons.mpr ⟨hnk, r.nd⟩)
    have m1 : ∀ i, (S i || decide (i = k)) = true ↔ i ∈ es1.toList.map keyS := fun i => by
      rw [Bool.or_eq_true, decide_eq_true_eq, r.mem i, pk.mem_iff, List.mem_cons]
      exact Or.comm
    have hsz : es1.size = n + 1 := by rw [← Array.length_toList, pc.length_eq, List.length_cons, Array.length_toList, hn]
    have hb1 : es1.size < scanBound := by rw [hsz]; exact room
    have hled : w.params.followText "set-order" = true ∨ t1.led = true := r.led.imp id fun z => by rw [y4]; exact z
    have fin : ∀ h', Heap.SameBut a s.heap h' → SetSE P w h' a (fun j => S j || decide (j = k)) es1.size → Q true { s with heap := h' } := fun h' sb z => by
      have q := hQ h' sb
      rw [hSk] at q
      rw [hsz] at z
      exact q z
    refine wpAny_bind (hgw _ ?_)
    split
    · refine wpAny_bind ?_
      rw [hashByValue_scannable 8 hsc]
      refine wpAny_pure ?_
      refine setS_tail ?_ r.at_ r.ex r.dat g1 nd1 m1 hb1 ?_ ?_ ?_ ?_
      · intro b s₁ Q' q; cases b <;> first | exact wpAny_pure q | exact wpAny_rule q
      · first | (split <;> first | exact y2 | exact SetTable.fits_plain_off y2) | exact y2
      · first | (split <;> exact y3) | exact y3
      · first | (split <;> exact hled) | exact hled
      · intro h' sb z; dsimp only; exact wpAny_pure (fin h' sb z)
    · refine wpAny_bind (wpAny_pure ?_)
      simp only [↓reduceIte]
      refine setS_tail ?_ r.at_ r.ex r.dat g1 nd1 m1 hb1 y2 y3 hled ?_
      · intro b s₁ Q' q; cases b <;> first | exact wpAny_pure q | exact wpAny_rule q
      · intro h' sb z; dsimp only; exact wpAny_pure (fin h' sb z)
end
end MP
namespace MP
open PySem PySem.Spec PyProof.Rows L2
abbrev freshSet (w : World) : Obj := { cls := .type "set", dict := none, data := .set #[] 0 (.fresh 0 0 (!w.params.followText "set-order")) }
section
variable {P : Program} {w : World} {A : Around} {E : Value → Shared → Prop} {s : Shared}
theorem setS_start {h : Heap} {a : Addr} {xs : List Str} (ho : h.get? a = some (freshSet w)) : SetSE P w h a (fun j => decide (j ∈ xs.take 0)) 0 :=
  ⟨_, #[], 0, _, ⟨ho, ⟨rfl, rfl, rfl⟩, rfl, (fun e he => by simp at he), by simp, (fun k => by simp), by decide, rfl, List.Pairwise.nil, by
    show _ ∨ (!w.params.followText "set-order") = true
    cases w.params.followText "set-order"
    · exact .inr rfl
    · exact .inl rfl⟩, rfl⟩
theorem set_update_strs {I : Addr} {fp wr : List Addr} {G : Array GenState → Array GenState → Prop} {n : Nat} {Pv : Nat → Value → Prop} {St : Nat → Shared → Prop} {R : Result → Shared → Prop}
    (W : WalksS P w A.in1 I fp wr G n Pv St) (S : Addr) (hSf : S ∉ fp) (xs : List Str) (hn : n = xs.length) (hb : xs.length + 1 < scanBound) (hval : ∀ i v, Pv i v → ∃ k t, xs[i]? = some k ∧ v = .str k t) :
    ∀ (k i : Nat) (s : Shared), n - i = k → i ≤ n → St i s → (∃ c, c ≤ i ∧ SetSE P w s.heap S (fun j => decide (j ∈ xs.take i)) c) →
      (∀ s' c, Moved (S :: wr) G s s' → c ≤ n → SetSE P w s'.heap S (fun j => decide (j ∈ xs)) c → R (.ok (.ret .none)) s') →
      codeAny (model P w) A (.builtin "set.update.loop" ⟨[.ref S, .ref I], []⟩) R s := by
  have nW : S ∉ wr := fun h => hSf (W.sub _ h)
  have inS : ∀ b ∈ wr, b ∈ S :: wr := fun b hb => List.mem_cons_of_mem _ hb
  intro k
  induction k with
  | zero =>
    intro i s hk hi hst ⟨c, hc, hS⟩ hR
    obtain rfl : i = n := by omega
    refine codeAny_builtin F.entry_set_update_loop ?_
    rw [Around.under_plainId F.plain_set_update_loop _]
    show wpAny _ A.in1 (pyNext (.ref I) >>= _) _ _ s
    refine wpAny_bind (W.done s _ _ hst fun s' hm => ?_)
    show wpAny _ A.in1 (ret Value.none) _ _ s'
    rw [List.take_of_length_le (by omega : xs.length ≤ i)] at hS
    exact wpAny_pure (hR s' c (hm.mono inS) hc (hS.keep fun o e => hm.heap S o nW e))
  | succ k ih =>
    intro i s hk hi hst ⟨c, hc, hS⟩ hR
    have hlt : i < n := by omega
    refine codeAny_builtin F.entry_set_update_loop ?_
    rw [Around.under_plainId F.plain_set_update_loop _]
    show wpAny _ A.in1 (pyNext (.ref I) >>= _) _ _ s
    refine wpAny_bind (W.item i s _ _ hlt hst fun v s' hP hst' hm => ?_)
    obtain ⟨z, t, hz, rfl⟩ := hval i v hP
    have h1 : SetSE P w s'.heap S (fun j => decide (j ∈ xs.take i)) c := hS.keep fun o e => hm.heap S o nW e
    show wpAny _ A.in1 (holding [Value.str z t] (setAdd S (.str z t)) >>= _) _ _ s'
    refine wpAny_bind (wpAny_holding ?_)
    unfold setAdd
    refine wpAny_holding (wpAny_bind ((strKind P w).pyHash (k := z) (strKind_is _ _ _ _) ?_))
    refine setS_add (s := { s' with toks := s'.toks + 1 }) h1 (by omega) fun h' hsb h2 => ?_
    have h3 : SetSE P w h' S (fun j => decide (j ∈ xs.take (i + 1))) (if decide (z ∈ xs.take i) = true then c else c + 1) := h2.congr fun j => by
      rw [List.take_add_one, hz]
      simp [List.mem_append]
    have h4 : (if decide (z ∈ xs.take i) = true then c else c + 1) ≤ i + 1 := by
      split <;> omega
    refine wpAny_pure ⟨plainId_quiet F.plain_set_update_loop _, ih (i + 1) _ (by omega) hlt (W.frame _ s' _ _ hst' (Nat.le_succ _) fun b hb o e => ?_) ⟨_, h4, h3⟩ fun s'' c2 hm2 hc2 hS2 => ?_⟩
    · rw [hsb.2 b (fun h : b = S => hSf (by rw [← h]; exact hb))]; exact e
    · refine hR s'' c2 (Moved.trans W.gtrans ((hm.mono inS).then_heap (Nat.le_succ _) fun b o hb e => ?_) hm2) hc2 hS2
      rw [hsb.2 b (fun h : b = S => hb (by rw [h]; exact List.mem_cons_self))]; exact e
set_option maxHeartbeats 8000000 in
theorem call_set_strs {l : Addr} {items : Array Value} (xs : List Str) {Q : Value → Shared → Prop} (hh : A.handled = none) (hl : s.heap.IsList l items) (hit : StrsAre items.toList xs) (hb : xs.length + 1 < scanBound)
    (h : ∀ (h' : Heap) (tk c : Nat), SetSE P w h' s.heap.objs.size (fun j => decide (j ∈ xs)) c → c ≤ xs.length → (∀ b o, s.heap.get? b = some o → h'.get? b = some o) → Q (.ref s.heap.objs.size) { s with heap := h', toks := tk }) :
    wpAny (model P w) A (call (.type "set") [.ref l]) Q E s := by
  have hisz : items.size = xs.length := by rw [← StrsAre.len_eq hit, Array.length_toList]
  obtain ⟨c, tl, hmro⟩ := F.called_set.mro
  have hmade := F.called_set.made
  have hsub := F.called_set.sub
  refine wpAny_call (codeAny_of_tree ?_)
  show wpAny _ _ (callAny (.type "set") _) _ _ _
  refine wpAny_pure ⟨Code.quiet_builtin _ (by decide +kernel), codeAny_builtin F.entry_type_call ?_⟩
  rw [Around.under_plain (weight_type_call_type "set" [.ref l] []) rfl]
  have h1 := F.called_set.notType
  have h2 := F.called_set.canCreate
  have hct := F.typeCall_set_1 (.ref l)
  repeat (any_goals (first | assumption | wp_step))
  refine codeAny_mono (code_set_led1 (.ref l) (E := E) (Q₁ := fun obj s₁ => obj = .ref s.heap.objs.size ∧ s₁ = { s with heap := s.heap.push (freshSet w) }) ⟨rfl, rfl⟩) fun r s₁ hr => ?_
  cases r with
  | error e => exact hr
  | ok fl =>
    cases fl with
    | ret obj =>
      obtain ⟨rfl, rfl⟩ := hr
      have hS : (s.heap.push (freshSet w)).get? s.heap.objs.size = some (freshSet w) := Heap.get?_push_size _ rfl
      have hT : Shared.TypeIs { s with heap := s.heap.push (freshSet w) } (.ref s.heap.objs.size) "set" := ⟨_, hS, rfl⟩
      have hli := F.called_set.init.lookup
      have hbi := F.called_set.init.bind (.ref s.heap.objs.size)
      repeat (any_goals (first | assumption | wp_step))
      refine codeAny_mono (codeAny_call_builtin (R := wants (fun r s₂ => r = .none ∧ ∃ h' tk c, s₂ = { s with heap := h', toks := tk } ∧ SetSE P w h' s.heap.objs.size (fun j => decide (j ∈ xs)) c ∧ c ≤ xs.length ∧
          (∀ b o, s.heap.get? b = some o → h'.get? b = some o)) E) F.called_set.init.plain F.entry_set_init (check_set_init_1 hT ?_)) fun r₂ s₂ hr₂ => ?_
      · obtain ⟨ol, hol, hcl, nl, hdl⟩ := hl
        obtain ⟨ocls, odict, odata, oslots⟩ := ol
        simp only at hcl hdl
        subst hcl; subst hdl
        have hol' : (s.heap.push (freshSet w)).get? l = some { cls := .type "list", dict := odict, data := .seq items nl, slots := oslots } := Heap.get?_push_of_some _ hol
        have hsls := F.sub_list_set
        have hslf := F.sub_list_frozenset
        have hne : (Value.type "list" == Value.type "dict") = false := by decide
        have hl1 : (s.heap.push (freshSet w)).IsList l items := ⟨_, hol', rfl, nl, rfl⟩
        unfold Builtin.«set.__init__» noKeywords Builtin.Frozenset.updateFrom
        generalize hPI : pyIter = PI
        wp_walk
        subst hPI
        refine wpAny_pyIter_list hl1 ?_
        refine wpAny_bind (wpAny_runValue ?_)
        have hlS : l < s.heap.objs.size := Heap.lt_size hol
        have hh3 : A.in1.in1.in1.handled = none := by simp [hh]
        have hneI : l ≠ (s.heap.push (freshSet w)).objs.size := by
          rw [Heap.size_push]; exact Nat.ne_of_lt (Nat.lt_succ_of_lt hlS)
        have hSf : s.heap.objs.size ∉ [(s.heap.push (freshSet w)).objs.size, l] := by
          rw [Heap.size_push]; simp only [List.mem_cons, List.mem_singleton, List.not_mem_nil, or_false, not_or]
          exact ⟨Nat.ne_of_lt (Nat.lt_succ_self _), Nat.ne_of_gt hlS⟩
        have hval : ∀ (i : Nat) (v : Value), items[i]? = some v → ∃ k t, xs[i]? = some k ∧ v = .str k t := fun i v hv => by
          have hi : i < xs.length := by rw [← hisz]; exact (Array.getElem?_eq_some_iff.mp hv).1
          obtain ⟨t, e⟩ := SS.strs_at hit i v (by rw [Array.getElem?_toList]; exact hv)
          refine ⟨xs[i], t, List.getElem?_eq_getElem hi, ?_⟩
          rw [e, List.getD_eq_getElem?_getD, List.getElem?_eq_getElem hi] <;> rfl
        refine set_update_strs ((Walks.list hh3 _ l hneI items).toS) s.heap.objs.size hSf xs hisz hb hval (items.size - 0) 0 _ (by omega) (Nat.zero_le _)
          ⟨⟨_, Heap.get?_push_size _ rfl, rfl, rfl⟩, (hl1.push _)⟩ ?hS0 ?hR
        case hS0 =>
          have hget : ((s.heap.push (freshSet w)).push { cls := .type "list_iterator", data := .fields #[.ref l, .int 0 0] }).get? s.heap.objs.size = some (freshSet w) := Heap.get?_push_of_some _ hS
          exact ⟨0, Nat.le_refl 0, setS_start hget⟩
        case hR =>
          intro s' c' hm hc' hS'
          obtain ⟨h', g2, d', tk', os'⟩ := s'
          have eg : g2 = s.gens := hm.gens
          have ed : d' = s.drawn := hm.drawn
          have eo : os' = s.os := hm.os
          subst eg; subst ed; subst eo
          show wpAny _ _ _ _ _ _
          refine wpAny_pure ?_
          show wpAny _ _ (ret Value.none) _ _ _
          rw [hisz] at hc'
          refine wpAny_pure ⟨rfl, h', tk', c', rfl, hS', hc', fun b o e => ?_⟩
          have hb0 : b < s.heap.objs.size := Heap.lt_size e
          have hb2 : b ≠ (s.heap.push (freshSet w)).objs.size := by
            rw [Heap.size_push]; exact Nat.ne_of_lt (Nat.lt_succ_of_lt hb0)
          exact hm.heap b o (by simp only [List.mem_cons, List.mem_singleton, List.not_mem_nil, or_false, not_or]; exact ⟨Nat.ne_of_lt hb0, hb2⟩) (Heap.get?_push_of_some _ (Heap.get?_push_of_some _ e))
      · cases r₂ with
        | error e => exact hr₂
        | ok fl₂ =>
          cases fl₂ with
          | ret r =>
            obtain ⟨rfl, h', tk, c', rfl, hS', hc', hk'⟩ := hr₂
            repeat (any_goals (first | assumption | wp_step))
            exact h _ _ _ hS' hc' hk'
          | _ => exact hr₂.elim
    | _ => exact hr.elim
end
end MP
namespace MP
open PySem PySem.Spec PyProof.Rows L2
section
variable {P : Program} {w : World} {A : Around} {E : Value → Shared → Prop} {s : Shared} {a : Addr} {S : Str → Bool} {n : Nat}
theorem strs_of : ∀ (l : List (Int × Value)), (∀ e ∈ l, GoodS P w e) → StrsAre (l.map (·.2)) (l.map keyS)
  | [], _ => .nil
  | e :: r, g => by
    obtain ⟨k, tk, e1, _⟩ := g e List.mem_cons_self
    have e2 : keyS e = k := by unfold keyS; rw [e1]
    simp only [List.map_cons, e1, e2]
    exact .cons k tk (strs_of r fun x hx => g x (List.mem_cons_of_mem _ hx))
theorem strs_perm {us vs : List Value} (p : us.Perm vs) : ∀ {xs : List Str}, StrsAre vs xs → ∃ ys : List Str, ys.Perm xs ∧ StrsAre us ys := by
  induction p with
  | nil => intro xs h; cases h; exact ⟨[], .nil, .nil⟩
  | cons v p ih =>
    intro xs h
    cases h with
    | cons k t r =>
      obtain ⟨ys, h1, h2⟩ := ih r
      exact ⟨k :: ys, h1.cons k, .cons k t h2⟩
  | swap v u l =>
    intro xs h
    cases h with
    | cons k t r =>
      cases r with
      | cons k2 t2 r2 => exact ⟨_, List.Perm.swap k k2 _, .cons k2 t2 (.cons k t r2)⟩
  | trans p q ihp ihq =>
    intro xs h
    obtain ⟨ys, h1, h2⟩ := ihq h
    obtain ⟨zs, h3, h4⟩ := ihp h2
    exact ⟨zs, h3.trans h1, h4⟩
theorem sorted_setS {Q : Value → Shared → Prop} (R : SetSE P w s.heap a S n) (hh : A.handled = none) (h64 : n < 64)
    (hQ : ∀ s' p (out : Array Value) (c : Nat) (ys : List Str), (∀ b o, s.heap.get? b = some o → s'.heap.get? b = some o) → s'.gens = s.gens → s'.os = s.os → s.heap.objs.size ≤ p →
      s'.heap.get? p = some (seqObj "list" out c) → StrsAre out.toList ys → sortedS ys = true → ys.Nodup → (∀ k, k ∈ ys ↔ S k = true) → ys.length = n → Q (.ref p) s') :
    wpAny (model P w) A (call (.builtin "sorted") [.ref a]) Q E s := by
  obtain ⟨o, es, ep, t, r, hn⟩ := R
  refine Calls.call_function_entry kind_sorted plain_sorted entry_sorted (args_sorted1 _) ?_
  unfold Builtin.«sorted»
  refine wpAny_bind (m := checkCount "sorted" 1 1 _) (wpAny_pure ?_)
  refine wpAny_bind (collect_set (A := A.in1) hh ⟨o, r.at_, r.ex.1, r.dat⟩ r.fits r.few r.ris r.led fun s1 vs k1 hz g1 o1 pm => ?_)
  obtain ⟨xs, hp, hS⟩ := strs_perm pm (strs_of _ r.good)
  have hxl : xs.length = n := by rw [hp.length_eq, List.length_map, Array.length_toList]; exact hn
  have hvl : vs.length = n := by rw [StrsAre.len_eq hS]; exact hxl
  refine wpAny_bind (wpAny_newList ?_ (by rw [hvl, sizeLine_eq]; omega))
  have hoL : (s1.heap.push (seqObj "list" vs.toArray 0)).get? s1.heap.objs.size = some (seqObj "list" vs.toArray 0) := Heap.get?_push_size _ rfl
  refine wpAny_bind (wpAny_holding (wpAny_call_entry slot_list_sort ⟨_, hoL, rfl⟩ entry_list_sort
    (list_sort_treeK strKind_oneLt (s := { s1 with heap := s1.heap.push (seqObj "list" vs.toArray 0) }) hoL hS.keysOf (fun v₁ v₂ rest e => keyKind_strs (by rw [← e]; exact hS)) (by rw [hvl]; exact h64) fun st' hp' hs => ⟨_, rfl, ?_⟩) (args_list_sort _)))
  obtain ⟨ys, y1, y2, y3⟩ := sorted_out_str hS hp' hs
  obtain ⟨c, hc⟩ := sortedHeap_at (vs := vs) (out := (arrOf st').map (·.2)) hoL
  have pn : ys.Perm (es.toList.map keyS) := y2.trans hp
  refine wpAny_pure ⟨_, rfl, hQ _ s1.heap.objs.size _ c ys (fun b u e => ?_) g1 o1 hz hc y1 y3 (pn.nodup_iff.mpr r.nd) (fun k => by rw [pn.mem_iff, ← r.mem k]) ?_⟩
  · have q := k1 b u e
    have hlt := Heap.lt_size q
    show (sortedHeap (s1.heap.push (seqObj "list" vs.toArray 0)) s1.heap.objs.size vs ((arrOf st').map (·.2))).get? b = some u
    rw [sortedHeap_old (Nat.ne_of_lt hlt) (by rw [size_push']; exact Nat.lt_succ_of_lt hlt)]
    exact Heap.get?_push_of_some _ q
  · rw [y2.length_eq]; exact hxl
end
end MP
namespace MP
open PySem PySem.Spec PyProof.Rows L2
section
variable {K : PySem.W.Frag} {μ : List Addr} {H : Hp}
theorem strsOf_map : ∀ {ds : List D} {l : List Str}, strsOf ds = some l → ds = l.map .str
  | [], l, e => by simp [strsOf] at e; subst e; rfl
  | d :: r, l, e => by
    cases d with
    | str x =>
      simp only [strsOf, Option.map_eq_some_iff] at e
      obtain ⟨l', h1, rfl⟩ := e
      rw [strsOf_map h1]
      rfl
    | _ => simp [strsOf] at e
theorem rvs_strs : ∀ (l : List Str) {vs : List V}, RVs K μ H (l.map .str) vs → vs = l.map V.str
  | [], vs, h => by cases h; rfl
  | x :: r, vs, h => by
    cases h with
    | cons h1 h2 =>
      cases h1
      rw [rvs_strs r h2]
      rfl
theorem strs_rvs : ∀ (l : List Str), RVs K μ H (l.map .str) (l.map V.str)
  | [] => .nil
  | x :: r => .cons (.str x) (strs_rvs r)
theorem sortedS_pw : ∀ {l : List Str}, sortedS l = true → l.Pairwise (fun a b => leS a b = true)
  | [], _ => .nil
  | x :: r, h => by
    have go : ∀ (r : List Str) (p : Str), risingS p r = true → (p :: r).Pairwise (fun a b => leS a b = true) := by
      intro r
      induction r with
      | nil => intro p _; simp
      | cons y r ih =>
        intro p h
        simp only [risingS, Bool.and_eq_true, Bool.not_eq_true'] at h
        have e : leS p y = true := by
          unfold leS
          rw [← ltCps_eq, h.1]
          rfl
        have q := ih y h.2
        refine List.pairwise_cons.mpr ⟨fun z hz => ?_, q⟩
        rcases List.mem_cons.mp hz with rfl | hz
        · exact e
        · exact leS_trans e ((List.pairwise_cons.mp q).1 z hz)
    exact go r x h
theorem once_mem : ∀ {l : List Str} {k : Str}, k ∈ onceS l ↔ k ∈ l
  | [], k => by simp [onceS]
  | x :: r, k => by
    unfold onceS
    split
    · rename_i hx
      rw [once_mem, List.mem_cons]
      exact ⟨.inr, fun z => z.elim (fun e => e ▸ hx) id⟩
    · rw [List.mem_cons, List.mem_cons, once_mem]
theorem once_nd : ∀ l : List Str, (onceS l).Nodup
  | [] => by simp [onceS]
  | x :: r => by
    unfold onceS
    split
    · exact once_nd r
    · rename_i hx
      exact List.nodup_cons.mpr ⟨fun z => hx (once_mem.mp z), once_nd r⟩
theorem rkv_strs : ∀ {kvs : List (D × D)} {ks : List (Key × V)} {l : List Str}, RKV K μ H kvs ks → strsOf (kvs.map (·.1)) = some l → ks.map (·.1) = l.map Sum.inr
  | _, _, l, .nil, e => by simp [strsOf] at e; subst e; rfl
  | p :: r, q :: s, l, .cons h t, e => by
    obtain ⟨d, x⟩ := p
    cases d with
    | str y =>
      simp only [List.map_cons, strsOf, Option.map_eq_some_iff] at e
      obtain ⟨l', h1, rfl⟩ := e
      have hk : some (Sum.inr y) = some q.1 := h.1
      rw [List.map_cons, ← Option.some.inj hk, rkv_strs t h1]
      rfl
    | _ => simp [strsOf] at e
end
section
variable {X : Cx} {T : List Addr}
theorem srt_all (hc : X.calm = true) (hu : X.A.units + 400 < cLine) : CallR X (.builtin "sorted") (rVs X.K T (bltD .srt)) := by
  intro pins s σ H xs us Q I rx ⟨μ, h, ds, r, R, vs, e, q⟩
  cases vs with
  | nil => simp [bltD] at e
  | cons v1 v2 =>
    cases v2 with
    | cons _ _ => cases v1 <;> simp [bltD] at e
    | nil =>
      cases v1 with
      | ref ea =>
        rename_i n a
        have ls : ∀ {es : List D} {ws : List V}, SqL X.K H a ws → RVs X.K μ H es ws → ((strsOf es).bind fun l => if l.length < 64 then hnew h (.lst ((srtS l).map .str)) else none) = some r →
            wpAny (model X.prog X.w) X.A (call (.builtin "sorted") us) (EP X pins σ Q) X.xe s := by
          intro es ws hs rs e
          obtain ⟨l, e1, e2⟩ := Option.bind_eq_some_iff.mp e
          simp only [Option.ite_none_right_eq_some, hnew, Option.some.injEq] at e2
          obtain ⟨h64, rfl⟩ := e2
          have em := strsOf_map e1
          subst em
          have ew := rvs_strs l rs
          subst ew
          refine cr_sortedS pins s σ H _ us Q I rx ⟨a, l, rfl, hs, h64, fun ys p hp hso hn => ?_⟩
          rw [srt_unique hp (sortedS_pw hso)]
          exact q.newL R (strs_rvs _) p hn
        simp only [bltD] at e
        split at e
        · rename_i es hn
          obtain ⟨ws, o, rs⟩ := R.of ea hn
          obtain ⟨l, e1, e2⟩ := Option.bind_eq_some_iff.mp e
          simp only [Option.ite_none_right_eq_some, hnew, Option.some.injEq] at e2
          obtain ⟨h64, rfl⟩ := e2
          have em := tupsD_map e1
          subst em
          obtain ⟨ts, f1, f2, f3⟩ := rvs_tups ([] :: l) rs
          subst f1
          have fl : ts.length = l.length + 1 := by rw [← List.length_map (f := (·.2)) (as := ts), ← f2]; rfl
          refine sorted_tupI hu I rx (.of o) f3 (by omega) ?_ fun ts' p hp hso hn => ?_
          · cases ts with
            | nil => cases f2
            | cons t r =>
              obtain ⟨t1, t2⟩ := t
              cases f2
              exact ⟨t1, r, rfl⟩
          · have z := tups_rvs (K := X.K) (μ := μ) ts' fun p hp' => f3 p (hp.mem_iff.mp hp')
            rw [← f2] at hso
            have e9 : (ts'.map fun p => tupI p.2) = (srtL ([] :: l)).map tupI := by rw [← hso, List.map_map]; rfl
            rw [e9] at z
            exact q.newL R z p hn
        · rename_i es hne hn
          obtain ⟨ws, o, rs⟩ := R.of ea hn
          exact ls (.of o) rs e
        · rename_i es hn
          obtain ⟨ws, o, rs⟩ := R.of ea hn
          exact ls o.sq rs e
        · rename_i kvs hn
          obtain ⟨ks, o, rs⟩ := R.of ea hn
          obtain ⟨l, e1, e2⟩ := Option.bind_eq_some_iff.mp e
          simp only [Option.ite_none_right_eq_some, hnew, Option.some.injEq] at e2
          obtain ⟨h64, rfl⟩ := e2
          refine call_sortedD hc pins s σ H _ us Q I rx ⟨a, ks, l, rfl, .inl o, rkv_strs rs e1, h64, fun ys p hp hso hn => ?_⟩
          rw [srt_unique hp (sortedS_pw hso)]
          exact q.newL R (strs_rvs _) p hn
        · cases e
      | _ => simp [bltD] at e
theorem dict_all : CallR X (.type "dict") (rVs X.K T (bltD .dict)) := by
  intro pins s σ H xs us Q I rx ⟨μ, h, ds, r, R, vs, e, q⟩
  cases vs with
  | nil => simp [bltD] at e
  | cons v1 v2 =>
    cases v2 with
    | cons _ _ => cases v1 <;> simp [bltD] at e
    | nil =>
      cases v1 with
      | ref ea =>
        rename_i n a
        simp only [bltD] at e
        split at e
        · rename_i kvs hn
          simp only [hnew, Option.some.injEq] at e
          subst e
          obtain ⟨ks, o, rs⟩ := R.of ea hn
          refine call_dictD pins s σ H _ us Q I rx ⟨a, ks, rfl, .inl o, fun p hp => ?_⟩
          exact q.newDk R rs p hp
        · cases e
      | _ => simp [bltD] at e
end
end MP
namespace MP
open PySem PySem.Spec PyProof.Rows L2
section
variable {prog : Program} {w : World} {K : Type} [DecidableEq K] {knd : KeyKind prog w K} {A : Around} {E : Value → Shared → Prop} {s : Shared}
theorem put_pairs {d : Addr} {kvs : List (K × Value)} {k : K} {key v : Value} {Q : Unit → Shared → Prop} (hk0 : knd.is k key = true) (hm : s.heap.DictOf knd d kvs) (hz : kvs.length ≤ sizeLine)
    (hQ : ∀ h', h'.DictOf knd d (stored kvs k v) → Heap.SameBut d s.heap h' → Q () { s with heap := h' }) : wpAny (model prog w) A (dictPut d (knd.hash k) key v) Q E s := by
  obtain ⟨o, es, ep, ho, hc, hd, hk, hp, hn⟩ := hm
  have hes : es.size ≤ sizeLine := by
    have e1 := hp.length
    have e2 : es.toList.length = es.size := by simp
    omega
  unfold dictPut
  refine wpAny_bind (wpAny_dictFind_of hk0 ho hd hk ?_)
  have ix : (es.findIdx? fun e => knd.is k e.key) = kvs.findIdx? fun kv => decide (kv.1 = k) := by
    rw [← hp.findIdx k]
    obtain ⟨l⟩ := es
    simp
  cases hi : es.findIdx? fun e => knd.is k e.key with
  | some i =>
    refine wpAny_updateDict ho hd (hQ _ ⟨_, _, ep, Heap.get?_update_self _ ho (Obj.isFreed_of_dict (Obj.data_mapDict hd _)), hc.mapDict _, Obj.data_mapDict hd _, hk.modify _ _, ?_, ?_⟩ (Heap.SameBut.update ..))
    · rw [stored, if_pos (any_of_findIdx_some (ix ▸ hi))]
      have hl : (es.toList.findIdx? fun e => knd.is k e.key) = some i := by
        rw [← hi]
        obtain ⟨l⟩ := es
        simp
      have z := hp.modify hn hl v
      obtain ⟨l⟩ := es
      simpa using z
    · rw [stored, if_pos (any_of_findIdx_some (ix ▸ hi)), keys_map_store]
      exact hn
  | none =>
    have nk : k ∉ kvs.map (·.1) := not_mem_of_findIdx_none (ix ▸ hi)
    have na : ¬ (kvs.any fun kv => decide (kv.1 = k)) = true := by
      rw [List.any_eq_true]
      rintro ⟨kv, hkv, he⟩
      exact nk (List.mem_map.mpr ⟨kv, hkv, of_decide_eq_true he⟩)
    refine wpAny_updateDictKeys (hz := hes) ho hd (hQ _ ⟨_, _, ep + 1, Heap.get?_update_self _ ho (Obj.isFreed_of_dict (Obj.data_mapDictKeys hd _)), hc.mapDictKeys _, Obj.data_mapDictKeys hd _, hk.push hk0 _, ?_, ?_⟩ (Heap.SameBut.update ..))
    · rw [stored, if_neg na]
      have z := hp.append hk0 (knd.hash k) v
      obtain ⟨l⟩ := es
      simpa using z
    · rw [stored, if_neg na, List.map_append, List.nodup_append]
      refine ⟨hn, by simp, fun a ha b hb => ?_⟩
      have : b = k := by simpa using hb
      subst this
      exact fun e => nk (e ▸ ha)
theorem merge_map {d o : Addr} {kvs more : List (K × Value)} {Q : Unit → Shared → Prop} (hdo : d ≠ o) (hoS : (o == sysModules) = false) (hd : s.heap.DictOf knd d kvs) (ho : s.heap.DictOf knd o more) (hz : kvs.length + more.length ≤ sizeLine)
    (hQ : ∀ h', h'.DictOf knd d (merged kvs more) → Heap.SameBut d s.heap h' → Q () { s with heap := h' }) : wpAny (model prog w) A (mergeMapping d (.ref o) false) Q E s := by
  have tyo := ho.typeIs
  obtain ⟨od, esd, epd, hod, hcd, hdd, hkd, hpd, hnd⟩ := id hd
  obtain ⟨oo, eso, epo, hoo, hco, hdo', hko, hpo, hno⟩ := id ho
  have hlen : more.length = eso.size := by rw [← hpo.length]; simp
  have loop : wpAny (model prog w) A (dictEntries o >>= fun es => dictEpoch o >>= fun ep0 => (forIn (List.range es.size) PUnit.unit fun i (_ : PUnit) => (dictEntries o >>= fun es' => match es'[i]? with
      | some e => holding [e.key, e.val] (dictPut d e.hash e.key e.val) >>= fun _ => dictEpoch o >>= fun ep1 => if (ep1 != ep0) = true then (unsupported "dict.changed-during-merge" : Sem PUnit) >>= fun _ => pure (ForInStep.yield PUnit.unit) else pure (ForInStep.yield PUnit.unit)
      | _ => (unsupported "dict.changed-during-merge" : Sem PUnit) >>= fun _ => pure (ForInStep.yield PUnit.unit) : Sem (ForInStep PUnit))) >>= fun _ => pure ()) Q E s := by
    refine wpAny_bind (wpAny_dictEntries hoo hdo' (wpAny_bind (wpAny_dictEpoch hoo hdo' (wpAny_bind ?_))))
    refine wpAny_forIn_list _ (fun rest _ s' => ∃ h' i, s' = { s with heap := h' } ∧ rest = (List.range eso.size).drop i ∧ i ≤ eso.size ∧ h'.DictOf knd d (merged kvs (more.take i)) ∧ h'.get? o = some oo ∧ Heap.SameBut d s.heap h') _ ?_ ?_ _ _ ⟨s.heap, 0, rfl, by simp, Nat.zero_le _, by simpa [merged] using hd, hoo, Heap.SameBut.refl _ _⟩
    · rintro x rest b s' ⟨h', i, rfl, hr, hi, hd', hoo', hs'⟩
      have lt : i < eso.size := by
        rcases Nat.lt_or_ge i eso.size with h | h
        · exact h
        · rw [List.drop_of_length_le (by simpa using h)] at hr; cases hr
      rw [range_drop lt] at hr
      injection hr with hx hrest
      subst hx
      refine wpAny_bind (wpAny_dictEntries hoo' hdo' ?_)
      rw [Array.getElem?_eq_getElem lt]
      obtain ⟨kv, hkv⟩ : ∃ kv, more[x]? = some kv := ⟨more[x]'(by rw [hlen]; exact lt), List.getElem?_eq_getElem _⟩
      obtain ⟨k, v⟩ := kv
      obtain ⟨hkey, hval⟩ := hpo.get? (e := eso[x]) (by simp [lt]) hkv
      obtain ⟨k', hkey', hhash⟩ := hko eso[x] (Array.getElem_mem lt)
      obtain rfl : k' = k := knd.inj _ _ _ hkey' hkey
      show wpAny _ _ (holding [eso[x].key, eso[x].val] (dictPut d eso[x].hash eso[x].key eso[x].val) >>= _) _ _ _
      rw [hhash, hval]
      have hmx : (merged kvs (more.take x)).length ≤ sizeLine := by
        have e1 := merged_length_le kvs (more.take x)
        have e2 : (more.take x).length ≤ more.length := by rw [List.length_take]; omega
        omega
      refine wpAny_bind (wpAny_holding (put_pairs hkey hd' hmx fun h2 hd2 hs2 => ?_))
      have hoo2 : h2.get? o = some oo := (hs2.2 o (Ne.symm hdo)).trans hoo'
      refine wpAny_bind (wpAny_dictEpoch hoo2 hdo' ?_)
      rw [if_neg (by simp)]
      exact wpAny_pure ⟨h2, x + 1, rfl, hrest, lt, by rw [merged_take_succ kvs more x (k', v) hkv]; exact hd2, hoo2, hs'.trans hs2⟩
    · rintro b s' ⟨h', i, rfl, hr, hi, hd', hoo', hs'⟩
      have hin : i = eso.size := by
        rcases Nat.lt_or_ge i eso.size with h | h
        · rw [range_drop h] at hr; cases hr
        · omega
      refine wpAny_pure (hQ h' ?_ hs')
      rw [hin, ← hlen, List.take_length] at hd'
      exact hd'
  unfold mergeMapping
  refine wpAny_bind (wpAny_isInstance tyo isSubtype_dict_dict ?_)
  simp only [if_true]
  refine wpAny_bind (wpAny_specialOf tyo F.slot_dict_iter.lookup (wpAny_bind (wpAny_pure ?_)))
  simp only [beq_self_eq_true]
  rw [if_neg (by rw [hoS]; exact Bool.false_ne_true)]
  refine wpAny_bind (wpAny_dictEntries hod hdd ?_)
  split
  · refine wpAny_bind (wpAny_dictEntries hoo hdo' (wpAny_bind ?_))
    refine wpAny_mono (Q := fun _ s' => s' = s) ?_ (fun _ s' e => by subst e; exact loop) fun _ _ z => z
    rw [← Array.forIn_toList]
    refine wpAny_forIn_list _ (fun rest _ s' => s' = s ∧ ∀ e ∈ rest, e ∈ eso.toList) _ ?_ ?_ _ _ ⟨rfl, fun _ h => h⟩
    · rintro x rest b s' ⟨rfl, hin⟩
      obtain ⟨k', hk', _⟩ := hko x (Array.mem_toList_iff.mp (hin x List.mem_cons_self))
      have hb := knd.byValue k' _ hk'
      obtain ⟨xh, xk, xv⟩ := x
      cases xk with
      | ref a => cases hb
      | _ => exact wpAny_pure ⟨rfl, fun e he => hin e (List.mem_cons_of_mem _ he)⟩
    · rintro b s' ⟨rfl, _⟩
      rfl
  · exact loop
end
section
variable {prog : Program} {w : World} {K : Type} [DecidableEq K] {knd : KeyKind prog w K} {A : Around} {E : Value → Shared → Prop} {s : Shared}
theorem disp_star {env : Env} {a k v : Expr} {pos : Pos} {Q : Value → Shared → Prop}
    (h : wpAny (model prog w) A (eval a env) (fun m s1 => ∃ o more, m = .ref o ∧ (o == sysModules) = false ∧ s.heap.objs.size ≠ o ∧ more.length ≤ 8000000 ∧ s1.heap.DictOf knd s.heap.objs.size [] ∧ s1.heap.DictOf knd o more ∧
      ∀ h1, h1.DictOf knd s.heap.objs.size (merged [] more) → Heap.SameBut s.heap.objs.size s1.heap h1 →
        wpAny (model prog w) A (eval k env) (fun kv s2 => wpAny (model prog w) A (eval v env) (fun vv s3 => ∃ key kvs, knd.is key kv = true ∧ kvs.length ≤ 8000000 ∧ (h1.objs.size == sysModules) = false ∧ s.heap.objs.size ≠ h1.objs.size ∧ s3.heap.DictOf knd h1.objs.size [] ∧ s3.heap.DictOf knd s.heap.objs.size kvs ∧
          ∀ h2, h2.DictOf knd h1.objs.size [(key, vv)] → Heap.SameBut h1.objs.size s3.heap h2 → ∀ h3, h3.DictOf knd s.heap.objs.size (stored kvs key vv) → Heap.SameBut s.heap.objs.size h2 h3 → ∀ t, Q (.ref s.heap.objs.size) { s3 with heap := h3, toks := t }) E s2) E
          { s1 with heap := h1.push { cls := .type "dict", data := .dict #[] } }) E
      { s with heap := s.heap.push { cls := .type "dict", data := .dict #[] } }) :
    wpAny (model prog w) A (eval (.Dict [none, some k] [a, v] pos) env) Q E s := by
  rw [arm_eval_Dict]
  refine wpAny_bind (wpAny_standAt ?_)
  have hshape : (evalEachOpt [none, some k] env).zip ((evalEach [a, v] env).map fun v => do let x ← v; standAt pos; pure x) = [(none, eval a env >>= fun x => standAt pos >>= fun _ => pure x), (some (eval k env), eval v env >>= fun x => standAt pos >>= fun _ => pure x)] := rfl
  rw [hshape]
  unfold dictDisplay
  simp only [List.forIn_cons, List.forIn_nil, List.isEmpty_nil, if_true, pure_bind, List.nil_append, List.length_singleton]
  have seven : sizeLine = 16777216 := sizeLine_eq
  refine wpAny_bind (wpAny_bind (wpAny_bind (wpAny_alloc (wpAny_bind (wpAny_holding (wpAny_bind (wpAny_mono h (fun m s1 h1 => wpAny_bind (wpAny_standAt (wpAny_pure ?_))) fun _ _ z => z)))))))
  obtain ⟨o, more, rfl, hoS, hdo, hml, hd1, ho1, hk⟩ := h1
  refine wpAny_bind (wpAny_onRaise (wpAny_tryCatch (wpAny_onRaise (wpAny_holding (merge_map hdo hoS hd1 ho1 (by rw [List.length_nil, seven]; omega) fun h2 hd2 hs2 => wpAny_pure ?_)))))
  refine wpAny_bind ?_
  dsimp only
  rw [if_neg (by simp)]
  refine wpAny_pure (wpAny_pure ?_)
  refine wpAny_bind ?_
  dsimp only
  rw [if_neg (by simp)]
  refine wpAny_bind (wpAny_holding ?_)
  have hk := hk h2 hd2 hs2
  refine wpAny_subDict (knd := knd) (by simp) (evalPairs_cons (wpAny_mono hk (fun kv s2 q2 => wpAny_bind (wpAny_mono q2 (fun vv s3 q3 => wpAny_bind (wpAny_standAt (wpAny_pure (evalPairs_nil ?_)))) fun _ _ z => z)) fun _ _ z => z))
  obtain ⟨key, kvs, hkey, hkl, hsm, hne, hd3, hd0, fin⟩ := q3
  refine ⟨[(key, vv)], ⟨hkey, rfl, True.intro⟩, hd3, fun h4 hd4 hs4 => ?_⟩
  have hd4' : h4.DictOf knd h2.objs.size [(key, vv)] := hd4
  refine wpAny_bind (wpAny_onRaise (wpAny_holding (merge_map hne hsm (hd0.sameBut hs4 hne) hd4' (by rw [seven, List.length_singleton]; omega) fun h5 hd5 hs5 => wpAny_pure ?_)))
  dsimp only
  exact wpAny_pure (fin h4 hd4' hs4 h5 hd5 hs5 _)
end
end MP
namespace MP
open PySem PySem.Spec PyProof.Rows L2
def SetSO (P : Program) (w : World) (a : Addr) (S : Str → Bool) (n : Nat) : HO := .ext fun h => SetSE P w h a S n
theorem setSO_new {P : Program} {w : World} {H : Hp} {h : Heap} {a : Addr} {S : Str → Bool} {n : Nat} (R : SetSE P w h a S n) : ObjOk P w H h a (SetSO P w a S n) := by
  have ⟨o, _, _, _, r, _⟩ := R
  exact ⟨R, ⟨o, r.at_⟩, fun h1 h2 p k => SetSE.keep p k⟩
abbrev setOb (w : World) : Obj := { cls := .type "set", dict := none, data := .set #[] 0 (.fresh 0 0 (!w.params.followText "set-order")) }
theorem setS_none {P : Program} {w : World} {h : Heap} : SetSE P w (h.push (setOb w)) h.objs.size (fun _ => false) 0 :=
  SetSE.congr (setS_start (P := P) (xs := []) (Heap.get?_push_size _ rfl)) fun k => by simp
section
variable {X : Cx} {pins : List (Addr × Obj)} {σ : L2.St} {H : Hp} {s : Shared}
theorem addS_ok {E : Value → Shared → Prop} {D : Addr} {S : Str → Bool} {n : Nat} {y : Str} {tk : Tok} {Q : Value → Shared → Prop} (I : Inv X pins σ H s) (hD : H D = some (SetSO X.prog X.w D S n)) (room : n + 1 < scanBound)
    (h : ∀ s', Inv X pins σ (upd H D (SetSO X.prog X.w D (fun j => S j || decide (j = y)) (if S y = true then n else n + 1))) s' → Q .none s') : wpAny (model X.prog X.w) X.A (call (.builtin "set.add") [.ref D, .str y tk]) Q E s := by
  have R : SetSE X.prog X.w s.heap D S n := (I.hok D _ hD).1
  have ty : s.TypeIs (.ref D) "set" := by
    obtain ⟨o, es, ep, t, r, _⟩ := R
    exact ⟨o, r.at_, r.ex.1⟩
  refine wpAny_call_entry F.slot_set_add ty F.entry_set_add ?_ (F.args_set_add_2 _ _)
  unfold Builtin.«set.add» Builtin.Frozenset.oneOther Builtin.Frozenset.addrOf setAdd
  simp only [List.isEmpty_nil, bind_assoc]
  refine wpAny_bind (wpAny_pure (wpAny_bind (wpAny_pure (wpAny_bind (wpAny_holding (wpAny_bind ((strKind X.prog X.w).pyHash (strKind_is X.prog X.w y tk) ?_)))))))
  refine setS_add (s := { s with toks := s.toks + 1 }) R room fun h' sb new => wpAny_pure ⟨_, rfl, ?_⟩
  have ex : ∃ u, h'.get? D = some u := by
    obtain ⟨o, _, _, _, r, _⟩ := new
    exact ⟨o, r.at_⟩
  exact h _ (I.write (e := D) (t' := s.toks + 1) (by rw [hD]; trivial) (.inl rfl) (fun b u hb hu => (sb.2 b hb).trans hu) ex (setSO_new new))
end
section
variable {elt tg iter tg1 iter1 : Expr} {ifs ifs1 : List Expr} {scope : Scope} {pos : Pos}
abbrev sE (elt tg iter tg1 iter1 : Expr) (ifs ifs1 : List Expr) (scope : Scope) (pos : Pos) : Expr := .SetComp elt [⟨tg, iter, ifs, 0⟩, ⟨tg1, iter1, ifs1, 0⟩] scope pos
theorem sturn_out (it acc : Value) (env : Env) : compTurn (sE elt tg iter tg1 iter1 ifs ifs1 scope pos) 0 it acc env = (standAt iter.pos >>= fun _ => pyNext it >>= fun r => match r with
    | none => pure (.done .next)
    | some v => letOwnedTupleGo tg it v >>= fun _ => assign tg env v >>= fun _ => (forIn ifs true fun c r => if r = true then isTrue c env (eval c env) >>= fun b => pure (ForInStep.yield b) else pure (ForInStep.yield r)) >>= fun ok =>
      if ok = true then eval iter1 env >>= fun x => standAt iter1.pos >>= fun _ => foldedSetIterable iter1 env x >>= fun y => holding [y] (pyIter y) >>= fun z => runOwn (.compStart (sE elt tg iter tg1 iter1 ifs ifs1 scope pos) 1 z acc env) env >>= fun _ => again (.compLoop (sE elt tg iter tg1 iter1 ifs ifs1 scope pos) 0 it acc env)
      else again (.compLoop (sE elt tg iter tg1 iter1 ifs ifs1 scope pos) 0 it acc env)) := by rfl
theorem sturn_in (it acc : Value) (env : Env) : compTurn (sE elt tg iter tg1 iter1 ifs ifs1 scope pos) 1 it acc env = (standAt iter1.pos >>= fun _ => pyNext it >>= fun r => match r with
    | none => pure (.done .next)
    | some v => letOwnedTupleGo tg1 it v >>= fun _ => assign tg1 env v >>= fun _ => (forIn ifs1 true fun c r => if r = true then isTrue c env (eval c env) >>= fun b => pure (ForInStep.yield b) else pure (ForInStep.yield r)) >>= fun ok =>
      if ok = true then (eval elt env >>= fun x => standAt elt.pos >>= fun _ => call (.builtin "set.add") [acc, x] >>= fun _ => pure ()) >>= fun _ => again (.compLoop (sE elt tg iter tg1 iter1 ifs ifs1 scope pos) 1 it acc env)
      else again (.compLoop (sE elt tg iter tg1 iter1 ifs ifs1 scope pos) 1 it acc env)) := by rfl
end
def tSc2 (P : Program) (w : World) (wi : TI) (g : TG) (tt : TT) (wi1 : TI) (g1 : TG) (tt1 : TT) (te : TE) (vs vs1 : List Nat) (σ : L2.St) (H : Hp) (Q : Addr → Hp → Prop) : Prop := wi σ H fun J H1 => ∀ D, H1 D = none →
  ∃ W : Nat → Nat → Hp → Prop, (∃ m, W 0 m (upd H1 D (SetSO P w D (fun _ => false) 0))) ∧ ∀ i m H, W i m H → (J.stop i H ∧ Q D H) ∨ (J.go i H ∧ ∃ Nx : Hp → Prop, (∀ H', Nx H' → ∃ m', m' < m ∧ W (i + 1) m' H') ∧
    ∀ x H', J.yld i H x H' → g x (wipe σ vs) H' fun σ2 H2 => wipe σ2 vs = wipe σ vs ∧ tt σ2 H2 fun b H3 => if b = true then wi1 σ2 H3 fun J1 H4 =>
      ∃ W1 : Nat → Nat → Hp → Prop, (∃ m1, W1 0 m1 H4) ∧ ∀ j m1 H, W1 j m1 H → (J1.stop j H ∧ Nx H) ∨ (J1.go j H ∧ ∃ Nx1 : Hp → Prop, (∀ H', Nx1 H' → ∃ m', m' < m1 ∧ W1 (j + 1) m' H') ∧
        ∀ x H', J1.yld j H x H' → g1 x (wipe σ2 vs1) H' fun σ3 H5 => wipe σ3 vs1 = wipe σ2 vs1 ∧ tt1 σ3 H5 fun b H6 => if b = true then te σ3 H6 fun y H7 =>
          ∃ (z : Str) (S : Str → Bool) (n : Nat), y = .str z ∧ H7 D = some (SetSO P w D S n) ∧ n + 1 < scanBound ∧ Nx1 (upd H7 D (SetSO P w D (fun j => S j || decide (j = z)) (if S z = true then n else n + 1))) else Nx1 H6)
      else Nx H3)
section
variable {X : Cx} {pins : List (Addr × Obj)} {s : Shared} {σ : L2.St} {H : Hp} {Q : Addr → Hp → Prop} {elt tg iter tg1 iter1 : Expr} {ifs ifs1 : List Expr} {scope : Scope} {own : List (Str × Nat)} {vs1 : List Nat} {pos : Pos} {wi wi1 : TI} {g g1 : TG} {tt tt1 : TT} {te : TE} {Qf : Value → Shared → Prop}
theorem sc2_run (hc : X.calm = true) (hN : X.N.Nodup) (I : Inv X pins σ H s) (hi : PI X tg iter wi) (ok : BlkOk X.N X.env.scope scope own) (hsub : ∀ i ∈ vs1, i ∈ own.map (·.2))
    (hg : ∀ (s : Shared) (H : Hp) (C : Addr) (cl : List (Str × Addr)) (fp : List Addr), PG (X.blk s H scope (compEnvC scope cl C X.env) fp) tg g)
    (ht : ∀ (s : Shared) (H : Hp) (C : Addr) (cl : List (Str × Addr)) (fp : List Addr), PTs (X.blk s H scope (compEnvC scope cl C X.env) fp) ifs tt)
    (hi1 : ∀ (s : Shared) (H : Hp) (C : Addr) (cl : List (Str × Addr)) (fp : List Addr), PI (X.blk s H scope (compEnvC scope cl C X.env) fp) tg1 iter1 wi1)
    (hg1 : ∀ (s : Shared) (H : Hp) (C : Addr) (cl : List (Str × Addr)) (fp : List Addr), PG (X.blk s H scope (compEnvC scope cl C X.env) fp) tg1 g1)
    (ht1 : ∀ (s : Shared) (H : Hp) (C : Addr) (cl : List (Str × Addr)) (fp : List Addr), PTs (X.blk s H scope (compEnvC scope cl C X.env) fp) ifs1 tt1)
    (he : ∀ (s : Shared) (H : Hp) (C : Addr) (cl : List (Str × Addr)) (fp : List Addr), PE (X.blk s H scope (compEnvC scope cl C X.env) fp) elt te)
    (hs : ∀ x, foldedSetIterable iter X.env x = pure x) (hs1 : ∀ env x, foldedSetIterable iter1 env x = pure x)
    (h : tSc2 X.prog X.w wi g tt wi1 g1 tt1 te (own.map (·.2)) vs1 σ H Q)
    (hQ : ∀ D s' H', Inv X pins σ H' s' → Q D H' → Qf (.ref D) s') :
    wpAny (model X.prog X.w) X.A (eval (sE elt tg iter tg1 iter1 ifs ifs1 scope pos) X.env) Qf X.xe s := by
  have free : ∀ y ∈ scope.names, y.2 = .free → ∃ c, X.env.cells.lookup y.1 = some c := fun y hy e => I.ok.has _ (ok.free y hy e)
  show wpAny _ _ (comprehension (sE elt tg iter tg1 iter1 ifs ifs1 scope pos) scope X.env _ (newSet (.type "set")) _ _) _ _ s
  refine wpAny_comprehension_free rfl hs (closure_ok free) ok.kind (fun y hy e => by rw [ok.uniq y hy, e]) (thn (hi.run pins s σ H _ I h) fun xv s1 hx => thn hx fun itv s2 h2 => ?_)
  obtain ⟨it, fp, tn, J, H2, rfl, I2, T, st2, f2, q⟩ := h2
  refine PpSet.newSet_ok (newEnv_comp ?_)
  obtain ⟨D, hD⟩ : ∃ D, s2.heap.objs.size = D := ⟨_, rfl⟩
  rw [hD]
  have nD : H2 D = none := I2.hok.fresh (Nat.le_of_eq hD)
  obtain ⟨W, ⟨m0, w0⟩, turn⟩ := q D nD
  obtain ⟨s3, hs3⟩ : ∃ s3 : Shared, ({ s2 with heap := s2.heap.push (setOb X.w) } : Shared) = s3 := ⟨_, rfl⟩
  have hp3 : s3.heap = s2.heap.push (setOb X.w) := by rw [← hs3]
  have I3 : Inv X pins σ (upd H2 D (SetSO X.prog X.w D (fun _ => false) 0)) s3 := by
    rw [← hs3]
    exact I2.laid (t' := s2.toks) (fun b o e => Heap.get?_push_of_some _ e) (Nat.le_of_eq hD) (setSO_new (by rw [← hD]; exact setS_none))
  obtain ⟨H3, hH3⟩ : ∃ H3, upd H2 D (SetSO X.prog X.w D (fun _ => false) 0) = H3 := ⟨_, rfl⟩
  rw [hH3] at I3 w0
  have f3 : ∀ b ∈ fp, FpOk X pins H3 b ∧ b < s3.heap.objs.size := fun b hb => by
    obtain ⟨o, e, _⟩ := T.obj _ _ st2 b hb
    have lt := Heap.lt_size e
    refine ⟨⟨?_, (f2 b hb).2⟩, by rw [hp3, Heap.size_push]; exact Nat.lt_succ_of_lt lt⟩
    rw [← hH3, upd_ne (by rw [← hD]; exact Nat.ne_of_lt lt)]
    exact (f2 b hb).1
  have k3 : ∀ b o, s2.heap.get? b = some o → s3.heap.get? b = some o := fun b o e => by rw [hp3]; exact Heap.get?_push_of_some _ e
  have I4 := block_start I3 ok hN f3
  have G0 := hg s3 H3 s3.heap.objs.size (cellsFrom (s3.heap.objs.size + 1) scope.names (cloFrom X.env.cells scope.names [])) fp
  have T0 := ht s3 H3 s3.heap.objs.size (cellsFrom (s3.heap.objs.size + 1) scope.names (cloFrom X.env.cells scope.names [])) fp
  have I1 := hi1 s3 H3 s3.heap.objs.size (cellsFrom (s3.heap.objs.size + 1) scope.names (cloFrom X.env.cells scope.names [])) fp
  have G1 := hg1 s3 H3 s3.heap.objs.size (cellsFrom (s3.heap.objs.size + 1) scope.names (cloFrom X.env.cells scope.names [])) fp
  have T1' := ht1 s3 H3 s3.heap.objs.size (cellsFrom (s3.heap.objs.size + 1) scope.names (cloFrom X.env.cells scope.names [])) fp
  have E0 := he s3 H3 s3.heap.objs.size (cellsFrom (s3.heap.objs.size + 1) scope.names (cloFrom X.env.cells scope.names [])) fp
  show codeAny _ _ (.compStart (sE elt tg iter tg1 iter1 ifs ifs1 scope pos) 0 (.ref it) (.ref D) (compEnvC scope (cellsFrom ((s2.heap.push (setOb X.w)).objs.size + 1) scope.names (cloFrom X.env.cells scope.names [])) (s2.heap.push (setOb X.w)).objs.size X.env)) (compPost (model X.prog X.w) X.A X.xe none Qf (.ref D) (s2.heap.push (setOb X.w)).objs.size) { s2 with heap := pushCells ((s2.heap.push (setOb X.w)).push { cls := .type "dict", data := .dict #[] }) scope.names }
  rw [← hp3]
  obtain ⟨ce, hce⟩ : ∃ ce, compEnvC scope (cellsFrom (s3.heap.objs.size + 1) scope.names (cloFrom X.env.cells scope.names [])) s3.heap.objs.size X.env = ce := ⟨_, rfl⟩
  have cL : ce.locals = s3.heap.objs.size := by rw [← hce]; rfl
  rw [hce] at I4 G0 T0 I1 G1 T1' E0 ⊢
  have es4 : ({ s2 with heap := pushCells (s3.heap.push { cls := .type "dict", data := .dict #[] }) scope.names } : Shared) = { s3 with heap := pushCells (s3.heap.push { cls := .type "dict", data := .dict #[] }) scope.names } := by rw [← hs3]
  rw [es4]
  obtain ⟨s4, hs4⟩ : ∃ s4 : Shared, ({ s3 with heap := pushCells (s3.heap.push { cls := .type "dict", data := .dict #[] }) scope.names } : Shared) = s4 := ⟨_, rfl⟩
  rw [hs4] at I4 ⊢
  have st4 : tn 0 s4.heap := T.keep _ _ _ st2 fun b _ o e => by rw [← hs4]; exact pushCells_keeps _ _ _ _ (Heap.get?_push_of_some _ (k3 b o e))
  have nf3 : ∀ b ∈ fp, H3 b = none := fun b hb => (f3 b hb).1.1
  have stat : ∀ {σ' : L2.St} {H' : Hp} {s' : Shared}, Inv (X.blk s3 H3 scope ce fp) [] σ' H' s' → (∀ b ∈ fp, H' b = none) → ∀ b ∈ fp, FpOk (X.blk s3 H3 scope ce fp) [] H' b := fun {σ' H' s'} I' hn b hb =>
    ⟨hn b hb, (I'.ok.exf b hb).1, I'.ok.exfs b hb, .inl hb, fun x c e => (I'.ok.exf b hb).2 x c e, fun p hp => absurd (show p ∈ ([] : List (Addr × Obj)) ++ [] from hp) (by simp)⟩
  have loop : codeAny (model X.prog X.w) X.A (.compLoop (sE elt tg iter tg1 iter1 ifs ifs1 scope pos) 0 (.ref it) (.ref D) ce) (compPost (model X.prog X.w) X.A X.xe none Qf (.ref D) s3.heap.objs.size) s4 := by
    refine codeAny_loop rfl (fun n s' => ∃ i H', Inv (X.blk s3 H3 scope ce fp) [] (wipe σ (own.map (·.2))) H' s' ∧ tn i s'.heap ∧ (∀ b ∈ fp, H' b = none) ∧ W i n H') (fun n s5 h5 => ?_) m0 ⟨0, H3, I4, st4, nf3, w0⟩
    obtain ⟨i, H5, I5, st5, n5, w5⟩ := h5
    show wpAny _ X.A ((compTurn (sE elt tg iter tg1 iter1 ifs ifs1 scope pos) 0 (.ref it) (.ref D) ce).onRaise (fun x => noteFrame x ce >>= fun _ => theTreesLotGoes x)) _ _ s5
    refine wpAny_noted ?_
    rw [sturn_out]
    refine wpAny_bind (wpAny_standAt (wpAny_bind ?_))
    rcases turn i n H5 w5 with ⟨stop, qq⟩ | ⟨go, Nx, hNx, step⟩
    · refine thnF (T.done (X.blk s3 H3 scope ce fp) rfl rfl rfl hc i [] s5 _ H5 (fun _ _ => False) I5 (stat I5 n5) st5 stop) fun r s6 ⟨hr, I6⟩ => ?_
      subst hr
      have I7 : Inv X pins σ H5 s6 := I3.call' (ch := fp) I6.os I6.base I6.hok I6.bare fun b hb => ⟨(f3 b hb).1.2.2.2.1, (f3 b hb).1.2.1, (f3 b hb).1.2.2.2.2.1, (f3 b hb).1.2.2.2.2.2⟩
      obtain ⟨m, hn, _⟩ := I6.loc
      have hn : s6.heap.Ns ce.locals m := hn
      have nC : H5 ce.locals = none := I6.free
      rw [cL] at hn nC
      obtain ⟨f0, f1, f2', f3', f4, f5⟩ := I3.fpOk (Nat.le_refl _) nC
      exact wpAny_pure ⟨m, hn, fun h'' sb => hQ D _ H5 (I7.turned (t' := s6.toks) (fun b o hb e => (sb.2 b hb).trans e) f0 f1 f3' f4 f5) qq⟩
    · refine thnF (T.item (X.blk s3 H3 scope ce fp) rfl rfl rfl hc i [] s5 _ H5 (fun _ _ => False) I5 (stat I5 n5) st5 go) fun r s6 ⟨u, hr, h6⟩ => ?_
      subst hr
      refine wpAny_bind (thnF h6 fun _ s7 ⟨x, H7, I7, r7, y7, st7, n7⟩ => ?_)
      refine wpAny_bind (thnF (G0.run _ s7 _ H7 x u _ (I7.pinned (stat I7 n7) (T.obj _ _ st7)) r7 (step x H7 y7)) fun _ s8 ⟨σ8, H8, I8, hw8, q8⟩ => ?_)
      refine wpAny_bind (thnF (T0.run _ s8 σ8 H8 _ I8 q8) fun b s9 ⟨H9, I9, q9⟩ => ?_)
      have fin : ∀ {σ9 : L2.St} {s' : Shared} {H' : Hp}, Inv (X.blk s3 H3 scope ce fp) ([] ++ pinsAt fp s7.heap) σ9 H' s' → (wipe σ (own.map (·.2))).length = σ9.length → (∀ (j : Nat) v, (wipe σ (own.map (·.2)))[j]? = some (some v) → σ9[j]? = some (some v)) → Nx H' →
          ∃ m, m < n ∧ ∃ i H', Inv (X.blk s3 H3 scope ce fp) [] (wipe σ (own.map (·.2))) H' s' ∧ tn i s'.heap ∧ (∀ b ∈ fp, H' b = none) ∧ W i m H' := fun {σ9 s' H'} I' hl hk nx => by
        obtain ⟨m', hm, w'⟩ := hNx H' nx
        have pin' : ∀ b ∈ fp, ∀ o, s7.heap.get? b = some o → s'.heap.get? b = some o ∧ H' b = none := fun b hb o e =>
          let z := I'.pin (b, o) (List.mem_append_right _ (List.mem_append_right _ (mem_pinsAt hb e)))
          ⟨z.1, z.2.1⟩
        refine ⟨m', hm, i + 1, H', (I'.unpinned (pins := [])).weak hl hk, T.keep _ _ _ st7 fun b hb o e => (pin' b hb o e).1, fun b hb => ?_, w'⟩
        obtain ⟨o, e, _⟩ := T.obj _ _ st7 b hb
        exact (pin' b hb o e).2
      have l8 : (wipe σ (own.map (·.2))).length = σ8.length := by rw [← hw8, wipe_length]
      have k8 : ∀ (j : Nat) v, (wipe σ (own.map (·.2)))[j]? = some (some v) → σ8[j]? = some (some v) := fun j v e => by
        rw [← hw8] at e
        exact (wipe_some e).1
      have k9 : ∀ (j : Nat) v, (wipe σ (own.map (·.2)))[j]? = some (some v) → (wipe σ8 vs1)[j]? = some (some v) := fun j v e => by
        rw [← hw8] at e
        obtain ⟨e1, e2⟩ := wipe_some e
        rw [wipe_out fun z => e2 (hsub j z)]
        exact e1
      cases b with
      | false =>
        simp only [Bool.false_eq_true, if_false] at q9 ⊢
        exact wpAny_pure ⟨rfl, fin I9 l8 k8 q9⟩
      | true =>
        simp only [if_true] at q9 ⊢
        refine wpAny_bind (thnF (I1.run _ s9 σ8 H9 _ I9 q9) fun xv s10 hx => wpAny_bind (wpAny_standAt (wpAny_bind (wpAny_of_eq (hs1 ce xv) (wpAny_bind (wpAny_holding (thnF hx fun itv s11 h11 => ?_)))))))
        obtain ⟨it1, fp1, tn1, J1, H11, rfl, I11, T1, st11, f11, W1, ⟨m1, w1⟩, turn1⟩ := h11
        have stat1 : ∀ {H' : Hp}, (∀ b ∈ fp1, H' b = none) → ∀ b ∈ fp1, FpOk (X.blk s3 H3 scope ce fp) ([] ++ pinsAt fp s7.heap) H' b := fun hn b hb => ⟨hn b hb, (f11 b hb).2⟩
        have loop1 : codeAny (model X.prog X.w) X.A (.compLoop (sE elt tg iter tg1 iter1 ifs ifs1 scope pos) 1 (.ref it1) (.ref D) ce)
            (fun r s' => match r with
              | .ok _ => ∃ m, m < n ∧ ∃ i H', Inv (X.blk s3 H3 scope ce fp) [] (wipe σ (own.map (·.2))) H' s' ∧ tn i s'.heap ∧ (∀ b ∈ fp, H' b = none) ∧ W i m H'
              | .error _ => False) s11 := by
          refine codeAny_loop rfl (fun k s' => ∃ j H', Inv (X.blk s3 H3 scope ce fp) ([] ++ pinsAt fp s7.heap) (wipe σ8 vs1) H' s' ∧ tn1 j s'.heap ∧ (∀ b ∈ fp1, H' b = none) ∧ W1 j k H') (fun k s12 h12 => ?_) m1 ⟨0, H11, I11.weak (wipe_length _ _) (fun j v e => (wipe_some e).1), st11, fun b hb => (f11 b hb).1, w1⟩
          obtain ⟨j, H12, I12, st12, n12, w12⟩ := h12
          show wpAny _ X.A ((compTurn (sE elt tg iter tg1 iter1 ifs ifs1 scope pos) 1 (.ref it1) (.ref D) ce).onRaise (fun x => noteFrame x ce >>= fun _ => theTreesLotGoes x)) _ _ s12
          refine wpAny_noted ?_
          rw [sturn_in]
          refine wpAny_bind (wpAny_standAt (wpAny_bind ?_))
          rcases turn1 j k H12 w12 with ⟨stop1, nx1⟩ | ⟨go1, Nx1, hNx1, step1⟩
          · refine thnF (T1.done (X.blk s3 H3 scope ce fp) rfl rfl rfl hc j _ s12 _ H12 (fun _ _ => False) I12 (stat1 n12) st12 stop1) fun r s13 ⟨hr, I13⟩ => ?_
            subst hr
            exact wpAny_pure (fin I13 (l8.trans (wipe_length σ8 vs1).symm) k9 nx1)
          · refine thnF (T1.item (X.blk s3 H3 scope ce fp) rfl rfl rfl hc j _ s12 _ H12 (fun _ _ => False) I12 (stat1 n12) st12 go1) fun r s13 ⟨u1, hr, h13⟩ => ?_
            subst hr
            refine wpAny_bind (thnF h13 fun _ s14 ⟨x1, H14, I14, r14, y14, st14, n14⟩ => ?_)
            refine wpAny_bind (thnF (G1.run _ s14 _ H14 x1 u1 _ (I14.pinned (stat1 n14) (T1.obj _ _ st14)) r14 (step1 x1 H14 y14)) fun _ s15 ⟨σ15, H15, I15, hw15, q15⟩ => ?_)
            refine wpAny_bind (thnF (T1'.run _ s15 σ15 H15 _ I15 q15) fun b1 s16 ⟨H16, I16, q16⟩ => ?_)
            have fin1 : ∀ {s' : Shared} {H' : Hp}, Inv (X.blk s3 H3 scope ce fp) (([] ++ pinsAt fp s7.heap) ++ pinsAt fp1 s14.heap) σ15 H' s' → Nx1 H' → ∃ m, m < k ∧ ∃ j H', Inv (X.blk s3 H3 scope ce fp) ([] ++ pinsAt fp s7.heap) (wipe σ8 vs1) H' s' ∧ tn1 j s'.heap ∧ (∀ b ∈ fp1, H' b = none) ∧ W1 j m H' := fun {s' H'} I' nx => by
              obtain ⟨m', hm, w'⟩ := hNx1 H' nx
              have pin' : ∀ b ∈ fp1, ∀ o, s14.heap.get? b = some o → s'.heap.get? b = some o ∧ H' b = none := fun b hb o e =>
                let z := I'.pin (b, o) (List.mem_append_right _ (List.mem_append_right _ (mem_pinsAt hb e)))
                ⟨z.1, z.2.1⟩
              refine ⟨m', hm, j + 1, H', I'.unpinned.weak (by rw [← hw15, wipe_length]) (fun j v e => by rw [← hw15] at e; exact (wipe_some e).1), T1.keep _ _ _ st14 fun b hb o e => (pin' b hb o e).1, fun b hb => ?_, w'⟩
              obtain ⟨o, e, _⟩ := T1.obj _ _ st14 b hb
              exact (pin' b hb o e).2
            cases b1 with
            | false =>
              simp only [Bool.false_eq_true, if_false] at q16 ⊢
              exact wpAny_pure ⟨rfl, fin1 I16 q16⟩
            | true =>
              simp only [if_true] at q16 ⊢
              refine wpAny_bind (wpAny_bind (thnF (E0.run _ s16 σ15 H16 _ I16 q16) fun z s17 ⟨yv, H17, I17, r17, zt, S0, n0, ey, hD17, hz17, nx⟩ => wpAny_bind (wpAny_standAt (wpAny_bind ?_))))
              subst ey
              obtain ⟨tk, rfl⟩ := r17
              exact addS_ok (X := X.blk s3 H3 scope ce fp) I17 hD17 hz17 fun s18 I18 => wpAny_pure (wpAny_pure ⟨rfl, fin1 I18 nx⟩)
        have start1 : codeAny (model X.prog X.w) X.A (.compStart (sE elt tg iter tg1 iter1 ifs ifs1 scope pos) 1 (.ref it1) (.ref D) ce)
            (fun r s' => match r with
              | .ok _ => ∃ m, m < n ∧ ∃ i H', Inv (X.blk s3 H3 scope ce fp) [] (wipe σ (own.map (·.2))) H' s' ∧ tn i s'.heap ∧ (∀ b ∈ fp, H' b = none) ∧ W i m H'
              | .error _ => False) s11 := by
          refine codeAny_of_tree ?_
          show wpAny _ _ ((compStart (sE elt tg iter tg1 iter1 ifs ifs1 scope pos) 1 (.ref it1) (.ref D) ce).onRaise (fun x => noteFrame x ce >>= fun _ => standAt theWindowsPlace)) _ _ s11
          refine wpAny_notedAt ?_
          unfold compStart
          show wpAny _ _ (ask >>= _) _ _ s11
          refine wpAny_bind (wpAny_askSetting ?_)
          split
          · exact wpAny_pure ⟨rfl, loop1⟩
          · exact wpAny_bind (wpAny_rule (wpAny_bind (wpAny_standAt (wpAny_bind (T1.self _ 0 s11 _ _ st11 (wpAny_pure ⟨rfl, loop1⟩))))))
        refine wpAny_bind (wpAny_runOwn ?_)
        rw [Around.mark_none]
        refine codeAny_mono start1 fun r s' hr => ?_
        cases r with
        | ok f => exact wpAny_pure ⟨rfl, hr⟩
        | error e => exact hr.elim
  refine codeAny_of_tree ?_
  show wpAny _ _ ((compStart (sE elt tg iter tg1 iter1 ifs ifs1 scope pos) 0 (.ref it) (.ref D) ce).onRaise (fun x => noteFrame x ce >>= fun _ => standAt theWindowsPlace)) _ _ s4
  refine wpAny_notedAt ?_
  unfold compStart
  show wpAny _ _ (ask >>= _) _ _ s4
  refine wpAny_bind (wpAny_askSetting ?_)
  split
  · exact wpAny_pure ⟨rfl, loop⟩
  · exact wpAny_bind (wpAny_rule (wpAny_bind (wpAny_standAt (wpAny_bind (T.self _ 0 s4 _ _ st4 (wpAny_pure ⟨rfl, loop⟩))))))
end
end MP
namespace MP
open PySem PySem.Spec PyProof.Rows L2
def SR (K : PySem.W.Frag) (μ : List Addr) (H : Hp) (σd : MP.St) (σ : L2.St) : Prop := σd.length = σ.length ∧ ∀ (i : Nat) (d : D), σd[i]? = some (some d) → ∃ v : V, σ[i]? = some (some v) ∧ RV K μ H d v
section
variable (K : PySem.W.Frag) (T : List Addr)
def OkL (μ : List Addr) (H : Hp) (r : List D × HI) (Q : List V → Hp → Prop) : Prop := ∀ μ' H' vs, μ <+: μ' → TK K H H' → HR K T μ' r.2 H' → RVs K μ' H' r.1 vs → Q vs H'
def OkB (μ : List Addr) (H : Hp) (r : Bool × HI) (Q : Bool → Hp → Prop) : Prop := ∀ μ' H', μ <+: μ' → TK K H H' → HR K T μ' r.2 H' → Q r.1 H'
def tI (ev : MP.St → HI → Rz) : TE := fun σ H Q => ∃ μ h σd r, HR K T μ h H ∧ SR K μ H σd σ ∧ ev σd h = some r ∧ Ok1 K T μ H r Q
def tL (ev : MP.St → HI → Option (List D × HI)) : TA := fun σ H Q => ∃ μ h σd r, HR K T μ h H ∧ SR K μ H σd σ ∧ ev σd h = some r ∧ OkL K T μ H r Q
def tBl (ev : MP.St → HI → Option (Bool × HI)) : TT := fun σ H Q => ∃ μ h σd r, HR K T μ h H ∧ SR K μ H σd σ ∧ ev σd h = some r ∧ OkB K T μ H r Q
end
section
variable {K : PySem.W.Frag} {T : List Addr} {μ μ' : List Addr} {H H' : Hp} {σd : MP.St} {σ : L2.St}
theorem SR.mono (s : SR K μ H σd σ) (p : μ <+: μ') (t : TK K H H') : SR K μ' H' σd σ := ⟨s.1, fun i d e => by
  obtain ⟨v, h1, h2⟩ := s.2 i d e
  exact ⟨v, h1, h2.mono p t⟩⟩
theorem SR.set (s : SR K μ H σd σ) (i : Nat) {d : D} {v : V} (r : RV K μ H d v) : SR K μ H (σd.set i (some d)) (σ.set i (some v)) := by
  refine ⟨by rw [List.length_set, List.length_set]; exact s.1, fun j x e => ?_⟩
  by_cases z : i = j
  · subst z
    by_cases hl : i < σd.length
    · rw [List.getElem?_set_self hl] at e
      cases e
      exact ⟨v, by rw [List.getElem?_set_self (by rw [← s.1]; exact hl)], r⟩
    · rw [List.getElem?_eq_none (by simpa using hl)] at e; cases e
  · rw [List.getElem?_set_ne z] at e ⊢
    exact s.2 j x e
theorem SR.unset (s : SR K μ H σd σ) (i : Nat) : SR K μ H (σd.set i none) (σ.set i none) := by
  refine ⟨by rw [List.length_set, List.length_set]; exact s.1, fun j x e => ?_⟩
  by_cases z : i = j
  · subst z
    by_cases hl : i < σd.length
    · rw [List.getElem?_set_self hl] at e
      cases e
    · rw [List.getElem?_eq_none (by simpa using hl)] at e; cases e
  · rw [List.getElem?_set_ne z] at e ⊢
    exact s.2 j x e
theorem SR.wipe (s : SR K μ H σd σ) : ∀ vs : List Nat, SR K μ H (wipeD σd vs) (L2.wipe σ vs)
  | [] => s
  | v :: vs => (SR.wipe s vs).unset v
theorem Ok1.later {μ1 : List Addr} {H1 : Hp} {r : D × HI} {Q : VK} (q : Ok1 K T μ H r Q) (p : μ <+: μ1) (t : TK K H H1) : Ok1 K T μ1 H1 r Q := fun μ' H' v p' t' R rv => q μ' H' v (p.trans p') (t.trans t') R rv
theorem OkL.later {μ1 : List Addr} {H1 : Hp} {r : List D × HI} {Q : List V → Hp → Prop} (q : OkL K T μ H r Q) (p : μ <+: μ1) (t : TK K H H1) : OkL K T μ1 H1 r Q := fun μ' H' v p' t' R rv => q μ' H' v (p.trans p') (t.trans t') R rv
theorem OkB.later {μ1 : List Addr} {H1 : Hp} {r : Bool × HI} {Q : Bool → Hp → Prop} (q : OkB K T μ H r Q) (p : μ <+: μ1) (t : TK K H H1) : OkB K T μ1 H1 r Q := fun μ' H' p' t' R => q μ' H' (p.trans p') (t.trans t') R
theorem OkL.here {h : HI} {ds : List D} {vs : List V} {Q : List V → Hp → Prop} (q : OkL K T μ H (ds, h) Q) (R : HR K T μ h H) (rv : RVs K μ H ds vs) : Q vs H := q μ H vs (List.prefix_refl _) TK.refl R rv
end
theorem _root_.L2.PE.imp {X : Cx} {e : Expr} {t t' : TE} (h : PE X e t) (i : ∀ σ H Q, t' σ H Q → t σ H Q) : PE X e t' := ⟨fun pins s σ H Q I q => h.run pins s σ H Q I (i _ _ _ q)⟩
theorem _root_.L2.PT.imp {X : Cx} {e : Expr} {t t' : TT} (h : PT X e t) (i : ∀ σ H Q, t' σ H Q → t σ H Q) : PT X e t' := ⟨fun pins s σ H Q I q => h.run pins s σ H Q I (i _ _ _ q)⟩
theorem _root_.L2.PW.imp {X : Cx} {e : Expr} {t t' : TT} (h : PW X e t) (i : ∀ σ H Q, t' σ H Q → t σ H Q) : PW X e t' := ⟨fun wh pins s σ H Q I q => h.run wh pins s σ H Q I (i _ _ _ q)⟩
theorem _root_.L2.PA.imp {X : Cx} {e : List Expr} {t t' : TA} (h : PA X e t) (i : ∀ σ H Q, t' σ H Q → t σ H Q) : PA X e t' := ⟨fun pos pins s σ H Q I q => h.run pos pins s σ H Q I (i _ _ _ q)⟩
theorem _root_.L2.PTs.imp {X : Cx} {e : List Expr} {t t' : TT} (h : PTs X e t) (i : ∀ σ H Q, t' σ H Q → t σ H Q) : PTs X e t' := ⟨fun pins s σ H Q I q => h.run pins s σ H Q I (i _ _ _ q)⟩
theorem _root_.L2.PS.imp {X : Cx} {e : Stmt} {t t' : TS} (h : PS X e t) (i : ∀ D σ H, t' D σ H → t D σ H) : PS X e t' := ⟨fun pins s σ H D I q => h.run pins s σ H D I (i _ _ _ q)⟩
theorem _root_.L2.PSs.imp {X : Cx} {e : List Stmt} {t t' : TS} (h : PSs X e t) (i : ∀ D σ H, t' D σ H → t D σ H) : PSs X e t' := ⟨fun pins s σ H D I q => h.run pins s σ H D I (i _ _ _ q)⟩
section
variable {K : PySem.W.Frag} {T : List Addr} {σ : L2.St} {H : Hp} {Q : VK}
theorem tI_ev {f g : MP.St → HI → Rz} (h : ∀ σ x, f σ x = g σ x) (q : tI K T f σ H Q) : tI K T g σ H Q := by
  obtain ⟨μ, h0, σd, r, R, S, e, o⟩ := q
  exact ⟨μ, h0, σd, r, R, S, by rw [← h]; exact e, o⟩
theorem tI_un {a : MP.St → HI → Rz} {g : D → HI → Rz} (q : tI K T (fun σ h => (a σ h).bind fun r => g r.1 r.2) σ H Q) : tI K T a σ H fun x H1 => rV1 K T g x H1 Q := by
  obtain ⟨μ, h, σd, r, R, S, e, o⟩ := q
  obtain ⟨ra, e1, e2⟩ := Option.bind_eq_some_iff.mp e
  exact ⟨μ, h, σd, ra, R, S, e1, fun μ1 H1 x p t R1 rx => ⟨μ1, ra.2, ra.1, r, R1, rx, e2, o.later p t⟩⟩
theorem tI_bin {a b : MP.St → HI → Rz} {g : D → D → HI → Rz} (q : tI K T (fun σ h => (a σ h).bind fun r => (b σ r.2).bind fun q => g r.1 q.1 q.2) σ H Q) :
    tI K T a σ H fun x H1 => tI K T b σ H1 fun y H2 => rV2 K T g x y H2 Q := by
  obtain ⟨μ, h, σd, r, R, S, e, o⟩ := q
  obtain ⟨ra, e1, e2⟩ := Option.bind_eq_some_iff.mp e
  obtain ⟨rb, e3, e4⟩ := Option.bind_eq_some_iff.mp e2
  exact ⟨μ, h, σd, ra, R, S, e1, fun μ1 H1 x p t R1 rx => ⟨μ1, ra.2, σd, rb, R1, S.mono p t, e3, fun μ2 H2 y p2 t2 R2 ry => ⟨μ2, rb.2, ra.1, rb.1, r, R2, rx.mono p2 t2, ry, e4, (o.later p t).later p2 t2⟩⟩⟩
theorem tI_fn {a : MP.St → HI → Option (List D × HI)} {g : List D → HI → Rz} (q : tI K T (fun σ h => (a σ h).bind fun r => g r.1 r.2) σ H Q) : tL K T a σ H fun xs H1 => rVs K T g xs H1 Q := by
  obtain ⟨μ, h, σd, r, R, S, e, o⟩ := q
  obtain ⟨ra, e1, e2⟩ := Option.bind_eq_some_iff.mp e
  exact ⟨μ, h, σd, ra, R, S, e1, fun μ1 H1 x p t R1 rx => ⟨μ1, ra.2, ra.1, r, R1, rx, e2, o.later p t⟩⟩
theorem tL_nil {Q : List V → Hp → Prop} (q : tL K T (fun _ h => some ([], h)) σ H Q) : tNil σ H Q := by
  obtain ⟨μ, h, σd, r, R, S, e, o⟩ := q
  cases e
  exact o.here R .nil
theorem tL_cons {a : MP.St → HI → Rz} {b : MP.St → HI → Option (List D × HI)} {Q : List V → Hp → Prop} (q : tL K T (fun σ h => (a σ h).bind fun r => (b σ r.2).bind fun q => some (r.1 :: q.1, q.2)) σ H Q) : tCons (tI K T a) (tL K T b) σ H Q := by
  obtain ⟨μ, h, σd, r, R, S, e, o⟩ := q
  obtain ⟨ra, e1, e2⟩ := Option.bind_eq_some_iff.mp e
  obtain ⟨rb, e3, e4⟩ := Option.bind_eq_some_iff.mp e2
  cases e4
  exact ⟨μ, h, σd, ra, R, S, e1, fun μ1 H1 x p t R1 rx => ⟨μ1, ra.2, σd, rb, R1, S.mono p t, e3, fun μ2 H2 ys p2 t2 R2 ry => (o.later p t).later p2 t2 |>.here R2 (.cons (rx.mono p2 t2) ry)⟩⟩
theorem tI_mth {a : MP.St → HI → Rz} {b : MP.St → HI → Option (List D × HI)} {m : Mth} (q : tI K T (fun σ h => (a σ h).bind fun r => if recv m r.1 r.2 then (b σ r.2).bind fun q => mthD m r.1 q.1 q.2 else none) σ H Q) :
    tI K T a σ H fun x H1 => tyV K (mtId m).1 x H1 ∧ tL K T b σ H1 fun xs H2 => rVm K T (mthD m) x xs H2 Q := by
  obtain ⟨μ, h, σd, r, R, S, e, o⟩ := q
  obtain ⟨ra, e1, e2⟩ := Option.bind_eq_some_iff.mp e
  obtain ⟨hc, e2⟩ := Option.ite_none_right_eq_some.mp e2
  obtain ⟨rb, e3, e4⟩ := Option.bind_eq_some_iff.mp e2
  exact ⟨μ, h, σd, ra, R, S, e1, fun μ1 H1 x p t R1 rx => ⟨tyV_of R1 rx hc, μ1, ra.2, σd, rb, R1, S.mono p t, e3, fun μ2 H2 ys p2 t2 R2 ry => ⟨μ2, rb.2, ra.1, rb.1, r, R2, rx.mono p2 t2, ry, e4, (o.later p t).later p2 t2⟩⟩⟩
theorem tB_val {a : MP.St → HI → Rz} {Q : Bool → Hp → Prop} (q : tBl K T (fun σ h => (a σ h).bind fun r => (truth r.1 r.2).map fun b => (b, r.2)) σ H Q) : tI K T a σ H fun x H1 => ∃ k, TruV K x H1 k ∧ Q k H1 := by
  obtain ⟨μ, h, σd, r, R, S, e, o⟩ := q
  obtain ⟨ra, e1, e2⟩ := Option.bind_eq_some_iff.mp e
  obtain ⟨b, e3, rfl⟩ := Option.map_eq_some_iff.mp e2
  exact ⟨μ, h, σd, ra, R, S, e1, fun μ1 H1 x p t R1 rx => ⟨b, tru_of R1 rx e3, o μ1 H1 p t R1⟩⟩
end
section
variable {X : Cx} {a b : Expr} {rest : List Expr} {pos : Pos} {ta tb : TE}
def tAndX (K : PySem.W.Frag) (ta tb : TE) : TE := fun σ H Q => ta σ H fun x H1 => ∃ c, TruV K x H1 c ∧ if c = true then tb σ H1 Q else Q x H1
def tOrX (K : PySem.W.Frag) (ta tb : TE) : TE := fun σ H Q => ta σ H fun x H1 => ∃ c, TruV K x H1 c ∧ if c = true then Q x H1 else tb σ H1 Q
def tNotX (K : PySem.W.Frag) (ta : TE) : TE := fun σ H Q => ta σ H fun x H1 => ∃ c, TruV K x H1 c ∧ Q (.bl (!c)) H1
theorem pe_andX (ha : PE X a ta) (hb : PE X (.BoolOp .And (b :: rest) pos) tb) : PE X (.BoolOp .And (a :: b :: rest) pos) (tAndX X.K ta tb) := by
  refine ⟨fun pins s σ H Q I h => ?_⟩
  refine BoolOp_and (thn (ha.run pins s σ H _ I h) fun v s1 ⟨x, H1, I1, r1, c, tc, q1⟩ => ?_)
  refine thn (tru_ok pins s1 σ H1 x v (fun k H2 => H2 = H1 ∧ k = c) I1 r1 ⟨c, tc, rfl, rfl⟩) fun k s2 ⟨H2, I2, e, ek⟩ => ?_
  subst e ek
  cases k with
  | true => exact hb.run pins s2 σ H2 Q I2 q1
  | false => exact ⟨x, H2, I2, r1, q1⟩
theorem pe_orX (ha : PE X a ta) (hb : PE X (.BoolOp .Or (b :: rest) pos) tb) : PE X (.BoolOp .Or (a :: b :: rest) pos) (tOrX X.K ta tb) := by
  refine ⟨fun pins s σ H Q I h => ?_⟩
  refine BoolOp_or (thn (ha.run pins s σ H _ I h) fun v s1 ⟨x, H1, I1, r1, c, tc, q1⟩ => ?_)
  refine thn (tru_ok pins s1 σ H1 x v (fun k H2 => H2 = H1 ∧ k = c) I1 r1 ⟨c, tc, rfl, rfl⟩) fun k s2 ⟨H2, I2, e, ek⟩ => ?_
  subst e ek
  cases k with
  | false => exact hb.run pins s2 σ H2 Q I2 q1
  | true => exact ⟨x, H2, I2, r1, q1⟩
theorem pe_notX (ha : PE X a ta) : PE X (.UnaryOp .Not a pos) (tNotX X.K ta) := by
  refine ⟨fun pins s σ H Q I h => ?_⟩
  refine UnaryOp_ (thn (ha.run pins s σ H _ I h) fun v s1 ⟨x, H1, I1, r1, c, tc, q1⟩ => ?_)
  refine not_of (thn (tru_ok pins s1 σ H1 x v (fun k H2 => H2 = H1 ∧ k = c) I1 r1 ⟨c, tc, rfl, rfl⟩) fun k s2 ⟨H2, I2, e, ek⟩ => ?_)
  subst e ek
  exact ⟨.bl (!k), H2, I2, rfl, q1⟩
end
end MP
namespace MP
open PySem PySem.Spec PyProof.Rows L2
section
variable {X : Cx} {T : List Addr} {x : Expr} {p p2 pos pos2 : Pos} {ev : MP.St → HI → Rz}
theorem few64 : (64 : Nat) < scanBound := by decide
theorem pe_sst (hc : X.calm = true) (hg : Gl X "sorted") (hm : X.mg "sorted" = none) (hg2 : Gl X "set") (hm2 : X.mg "set" = none) (he : PE X x (tI X.K T ev)) (hv : bootBuiltins "sorted" = some (.builtin "sorted") := by decide +kernel) (hv2 : bootBuiltins "set" = some (.type "set") := by decide +kernel) (ns : starEach [x] X.env = (false, eval x X.env) :: starEach [] X.env) :
    PE X (.Call (.Name "sorted" p) [.Call (.Name "set" p2) [x] [] pos2] [] pos) (tI X.K T fun σ h => (ev σ h).bind fun r => sstD r.1 r.2) := by
  refine ⟨fun pins s σ H Q I ⟨μ, h, σd, r, R, Sr, e, o⟩ => ?_⟩
  obtain ⟨ra, e1, e2⟩ := Option.bind_eq_some_iff.mp e
  refine wpAny_Call_Name_kw (ld_blt I hg hm hv ?_)
  refine PyProof.Rows.callWith_builtin1 ?_ rfl (by rfl)
  show wpAny _ _ (spliced ((false, eval (.Call (.Name "set" p2) [x] [] pos2) X.env) :: backTo pos (starEach [] X.env))) _ _ s
  refine Calls.spliced_cons ?_
  refine wpAny_Call_Name_kw (ld_blt I hg2 hm2 hv2 ?_)
  refine PyProof.Rows.callWith_type1 ?_ ns (by rfl)
  rw [ns]
  show wpAny _ _ (spliced ((false, eval x X.env) :: backTo pos2 (starEach [] X.env))) _ _ s
  refine Calls.spliced_cons (thn (he.run pins s σ H (fun v H1 => ∃ μ1, HR X.K T μ1 ra.2 H1 ∧ RV X.K μ1 H1 ra.1 v ∧ μ <+: μ1 ∧ TK X.K H H1) I ⟨μ, h, σd, ra, R, Sr, e1, fun μ1 H1 v pr tk R1 rv => ⟨μ1, R1, rv, pr, tk⟩⟩) fun u s1 ⟨v, H1, I1, ru, μ1, R1, rv, pr, tk⟩ => ?_)
  refine Calls.spliced_nil ?_
  obtain ⟨d, h1⟩ := ra
  simp only [sstD] at e2
  obtain ⟨ds, f1, f2⟩ := Option.bind_eq_some_iff.mp e2
  obtain ⟨l, f3, f4⟩ := Option.bind_eq_some_iff.mp f2
  simp only [Option.ite_none_right_eq_some, hnew, Option.some.injEq] at f4
  obtain ⟨hl, rfl⟩ := f4
  have em := strsOf_map f3
  subst em
  have rf : ∃ n, d = .ref n := by
    cases d <;> first | exact ⟨_, rfl⟩ | simp [lstOf] at f1
  obtain ⟨n, rfl⟩ := rf
  cases rv with
  | ref ea =>
    obtain ⟨vs, hs, rs⟩ := list_of R1 ea f1
    have ew := rvs_strs l rs
    subst ew
    cases ru
    obtain ⟨its, rvals, pl, hz⟩ := I1.list hs
    have hst := rvals.strs
    refine call_set_strs (P := X.prog) (w := X.w) l (I1.ok.hd hc) pl.isList (by simpa using hst) (by have := few64; omega) fun h' tk' c hS hcl hk => ?_
    refine Calls.spliced_nil ?_
    have I2 : Inv X pins σ H1 { s1 with heap := h', toks := tk' } := I1.kept hk
    refine sorted_setS (s := { s1 with heap := h', toks := tk' }) hS (I1.ok.hd hc) (by omega) fun s' pa out c2 ys k1 g1 o1 hp hob hys hso hnd hmem hlen => ?_
    have hperm : ys.Perm (onceS l) := (List.perm_ext_iff_of_nodup hnd (once_nd l)).mpr fun k => by rw [hmem k, once_mem]; simp
    have ey := srt_unique hperm (sortedS_pw hso)
    have hn : H1 pa = none := I2.hok.fresh hp
    have ylen : ys.length ≤ sizeLine := by rw [hlen, sizeLine_eq]; omega
    have q := o.later pr tk
    subst ey
    have J := I2.call (ch := []) (Un.laid k1 hp hn) (I2.hok.laid k1 hp (o := .lst ((srtS (onceS l)).map V.str)) ⟨by rw [List.length_map]; exact ylen, out.toList, c2, vals_of_strs hys, by rw [Array.toArray_toList]; exact hob⟩) (g' := s'.gens) (by rw [g1]; exact I1.bare) (fun _ z => nomatch z) (d' := s'.drawn) (t' := s'.toks)
    have e : s' = { s1 with heap := s'.heap, gens := s'.gens, drawn := s'.drawn, toks := s'.toks } := by
      cases s'
      cases s1
      cases o1
      rfl
    rw [e]
    exact ⟨.ref pa, _, J, rfl, q.newL R1 (strs_rvs _) pa hn⟩
end
end MP
namespace MP
open PySem PySem.Spec PyProof.Rows L2
section
variable (K : PySem.W.Frag) (T : List Addr)
structure ItR (J : L2.It) (t : MP.It) (μ0 : List Addr) (H0 : Hp) : Prop where
  go : ∀ (μ : List Addr) (h : HI) (H : Hp) (i : Nat) (d : D), μ0 <+: μ → TK0 K H0 H → HR K T μ h H → t.nx i h = some d →
    J.go i H ∧ ∀ x H', J.yld i H x H' → RV K μ H' d x ∧ TK K H H' ∧ HR K T μ h H'
  stop : ∀ (μ : List Addr) (h : HI) (H : Hp), μ0 <+: μ → TK0 K H0 H → HR K T μ h H → t.fin h = true → J.stop t.len H
def tIt (ev : MP.St → HI → Option (MP.It × HI)) : TI := fun σ H R => ∃ μ h σd r, HR K T μ h H ∧ SR K μ H σd σ ∧ ev σd h = some r ∧
  ∀ μ' H' J, μ <+: μ' → TK K H H' → HR K T μ' r.2 H' → ItR K T J r.1 μ' H' → R J H'
end
section
variable {K : PySem.W.Frag} {T μ0 : List Addr} {H0 : Hp}
theorem itr_tup {a : Addr} {ds : List D} {vs : List V} (ht : SqT K H0 a vs) (rs : RVs K μ0 H0 ds vs) : ItR K T (Itt K a) (.seq ds) μ0 H0 where
  go := fun μ h H i d p t R e => by
    obtain ⟨v, h1, h2⟩ := (rs.mono0 p t.1).get (show ds[i]? = some d from e)
    have h3 := t.1 _ _ ht
    refine ⟨⟨vs, v, h3, h1⟩, fun x H' y => ?_⟩
    obtain ⟨eH, y⟩ := y
    subst eH
    have := y vs h3
    rw [h1] at this
    cases this
    exact ⟨h2, TK.refl, R⟩
  stop := fun μ h H p t R _ => ⟨vs, t.1 _ _ ht, by show vs.length ≤ ds.length; rw [rs.length]; exact Nat.le_refl _⟩
theorem itr_live {n : Nat} {a : Addr} {k : Nat} (ea : μ0[n]? = some a) : ItR K T (Itl K a) (.live n k) μ0 H0 where
  go := fun μ h H i d p t R e => by
    obtain ⟨ds, e1, e2⟩ := Option.bind_eq_some_iff.mp (show ((lstOf h (.ref n)).bind fun ds => ds[i]?) = some d from e)
    obtain ⟨vs, hs, rs⟩ := list_of R (pre_get p ea) e1
    obtain ⟨v, h1, h2⟩ := rs.get e2
    refine ⟨⟨vs, v, hs, h1⟩, fun x H' y => ?_⟩
    obtain ⟨eH, y⟩ := y
    subst eH
    have := y vs hs
    rw [h1] at this
    cases this
    exact ⟨h2, TK.refl, R⟩
  stop := fun μ h H p t R e => by
    have e : (match lstOf h (.ref n) with | some ds => decide (ds.length ≤ k) | none => false) = true := e
    split at e
    · rename_i ds e1
      obtain ⟨vs, hs, rs⟩ := list_of R (pre_get p ea) e1
      exact ⟨vs, hs, by rw [← rs.length]; exact of_decide_eq_true e⟩
    · cases e
theorem itr_str {z : Str} : ItR K T (Its z) (.seq (signs z)) μ0 H0 where
  go := fun μ h H i d p t R e => by
    have e : (signs z)[i]? = some d := e
    unfold signs at e
    rw [List.getElem?_map] at e
    obtain ⟨c, hc, rfl⟩ := Option.map_eq_some_iff.mp e
    rw [Array.getElem?_toList] at hc
    have hi : i < z.cps.size := by
      rcases Nat.lt_or_ge i z.cps.size with q | q
      · exact q
      · rw [Array.getElem?_eq_none q] at hc; cases hc
    refine ⟨hi, fun x H' y => ?_⟩
    obtain ⟨eH, c', hc', ex⟩ := y
    subst eH ex
    rw [hc] at hc'
    cases hc'
    exact ⟨.str _, TK.refl, R⟩
  stop := fun μ h H p t R _ => by
    show z.cps.size ≤ (signs z).length
    unfold signs
    simp
theorem itr_rng {i : Int} {n : Nat} : ItR K T (Itr i n) (.seq ((List.range n).map fun k => .int (i + (k : Nat)))) μ0 H0 where
  go := fun μ h H j d p t R e => by
    have e : ((List.range n).map fun k => D.int (i + (k : Nat)))[j]? = some d := e
    rw [List.getElem?_map] at e
    obtain ⟨c, hc, rfl⟩ := Option.map_eq_some_iff.mp e
    obtain ⟨hl, hv⟩ := List.getElem?_eq_some_iff.mp hc
    simp only [List.getElem_range] at hv
    subst hv
    simp only [List.length_range] at hl
    refine ⟨hl, fun x H' y => ?_⟩
    obtain ⟨eH, ex⟩ := y
    subst eH ex
    exact ⟨.int _, TK.refl, R⟩
  stop := fun μ h H p t R _ => by
    show n ≤ ((List.range n).map fun k => D.int (i + (k : Nat))).length
    simp
theorem itr_zipT {a b : Addr} {ds es : List D} {vs ws : List V} (ha : SqT K H0 a vs) (ra : RVs K μ0 H0 ds vs) (hb : SqT K H0 b ws) (rb : RVs K μ0 H0 es ws) : ItR K T (RZ.ItzT K a b) (.zip (.seq ds) (.seq es)) μ0 H0 where
  go := fun μ h H i d p t R e => by
    have e : (match ds[i]?, es[i]? with | some x, some y => some (D.tup [x, y]) | _, _ => none) = some d := e
    split at e
    · rename_i x y e1 e2
      cases e
      obtain ⟨v, h1, h2⟩ := (ra.mono0 p t.1).get e1
      obtain ⟨w, h3, h4⟩ := (rb.mono0 p t.1).get e2
      refine ⟨⟨vs, ws, v, w, t.1 _ _ ha, t.1 _ _ hb, h1, h3⟩, fun x H' y => ?_⟩
      obtain ⟨P, x1, y1, ex, hP, eH, q1, q2⟩ := y
      have z1 := q1 vs (t.1 _ _ ha)
      have z2 := q2 ws (t.1 _ _ hb)
      rw [h1] at z1
      rw [h3] at z2
      cases z1; cases z2
      subst ex eH
      refine ⟨.tup (.inl (.inl upd_same)) (.cons (h2.mono (List.prefix_refl _) (TK.newT hP)) (.cons (h4.mono (List.prefix_refl _) (TK.newT hP)) .nil)), TK.newT hP, R.tup hP⟩
    · cases e
  stop := fun μ h H p t R _ => by
    refine ⟨vs, ws, t.1 _ _ ha, t.1 _ _ hb, ?_⟩
    show vs.length ≤ min ds.length es.length ∨ ws.length ≤ min ds.length es.length
    have l1 := ra.length
    have l2 := rb.length
    omega
theorem itr_zipL {m n : Nat} {a b : Addr} {k l : Nat} (ea : μ0[m]? = some a) (eb : μ0[n]? = some b) : ItR K T (Itz K a b) (.zip (.live m k) (.live n l)) μ0 H0 where
  go := fun μ h H i d p t R e => by
    have e : (match ((lstOf h (.ref m)).bind fun ds => ds[i]?), ((lstOf h (.ref n)).bind fun ds => ds[i]?) with | some x, some y => some (D.tup [x, y]) | _, _ => none) = some d := e
    split at e
    · rename_i x y e1 e2
      cases e
      obtain ⟨ds, e1, e3⟩ := Option.bind_eq_some_iff.mp e1
      obtain ⟨es, e2, e4⟩ := Option.bind_eq_some_iff.mp e2
      obtain ⟨vs, hs, rs⟩ := list_of R (pre_get p ea) e1
      obtain ⟨ws, hs2, rs2⟩ := list_of R (pre_get p eb) e2
      obtain ⟨v, h1, h2⟩ := rs.get e3
      obtain ⟨w, h3, h4⟩ := rs2.get e4
      refine ⟨⟨vs, ws, v, w, hs, hs2, h1, h3⟩, fun x H' y => ?_⟩
      obtain ⟨P, x1, y1, ex, hP, eH, q1, q2⟩ := y
      have z1 := q1 vs hs
      have z2 := q2 ws hs2
      rw [h1] at z1
      rw [h3] at z2
      cases z1; cases z2
      subst ex eH
      refine ⟨.tup (.inl (.inl upd_same)) (.cons (h2.mono (List.prefix_refl _) (TK.newT hP)) (.cons (h4.mono (List.prefix_refl _) (TK.newT hP)) .nil)), TK.newT hP, R.tup hP⟩
    · cases e
  stop := fun μ h H p t R e => by
    have e : ((match lstOf h (.ref m) with | some ds => decide (ds.length ≤ k) | none => false) && (match lstOf h (.ref n) with | some ds => decide (ds.length ≤ l) | none => false)) = true := e
    rw [Bool.and_eq_true] at e
    obtain ⟨e1, e2⟩ := e
    split at e1
    · rename_i ds e3
      split at e2
      · rename_i es e4
        obtain ⟨vs, hs, rs⟩ := list_of R (pre_get p ea) e3
        obtain ⟨ws, hs2, rs2⟩ := list_of R (pre_get p eb) e4
        refine ⟨vs, ws, hs, hs2, ?_⟩
        show vs.length ≤ min k l ∨ ws.length ≤ min k l
        have l1 := rs.length
        have l2 := rs2.length
        have l3 := of_decide_eq_true e1
        have l4 := of_decide_eq_true e2
        omega
      · cases e2
    · cases e1
theorem itr_enm {n : Nat} {a : Addr} {k : Nat} (ea : μ0[n]? = some a) : ItR K T (Ite K a) (.enm (.live n k)) μ0 H0 where
  go := fun μ h H i d p t R e => by
    have e : (((lstOf h (.ref n)).bind fun ds => ds[i]?).map fun x => D.tup [.int i, x]) = some d := e
    obtain ⟨x, e1, rfl⟩ := Option.map_eq_some_iff.mp e
    obtain ⟨ds, e1, e3⟩ := Option.bind_eq_some_iff.mp e1
    obtain ⟨vs, hs, rs⟩ := list_of R (pre_get p ea) e1
    obtain ⟨v, h1, h2⟩ := rs.get e3
    refine ⟨⟨vs, v, hs, h1⟩, fun x H' y => ?_⟩
    obtain ⟨P, x1, ex, hP, eH, q1⟩ := y
    have z1 := q1 vs hs
    rw [h1] at z1
    cases z1
    subst ex eH
    exact ⟨.tup (.inl (.inl upd_same)) (.cons (.int _) (.cons (h2.mono (List.prefix_refl _) (TK.newT hP)) .nil)), TK.newT hP, R.tup hP⟩
  stop := fun μ h H p t R e => by
    have e : (match lstOf h (.ref n) with | some ds => decide (ds.length ≤ k) | none => false) = true := e
    split at e
    · rename_i ds e1
      obtain ⟨vs, hs, rs⟩ := list_of R (pre_get p ea) e1
      exact ⟨vs, hs, by rw [← rs.length]; exact of_decide_eq_true e⟩
    · cases e
end
section
variable {X : Cx} {T : List Addr} {tg e e2 : Expr} {es : List Expr} {a b : MP.St → HI → Rz} {l : MP.St → HI → Option (List D × HI)}
theorem pi_ex (he : PE X e (tI X.K T a)) : PI X tg e (tIt X.K T fun σ h => (a σ h).bind fun r => (itOf r.1 r.2).map fun t => (t, r.2)) := by
  refine ⟨fun pins s σ H Rr I ⟨μ, h, σd, r, R, S, e0, o⟩ => ?_⟩
  obtain ⟨ra, e1, e2⟩ := Option.bind_eq_some_iff.mp e0
  obtain ⟨t, e3, rfl⟩ := Option.map_eq_some_iff.mp e2
  obtain ⟨d, h1⟩ := ra
  cases d with
  | tup ds =>
    cases e3
    refine (pi_tup he).run pins s σ H Rr I ⟨μ, h, σd, _, R, S, e1, fun μ1 H1 x p t R1 rx => ?_⟩
    cases rx with
    | tup ht rs => exact ⟨_, rfl, ⟨_, ht⟩, o μ1 H1 _ p t R1 (itr_tup ht rs)⟩
  | str z =>
    simp only [itOf, Option.ite_none_right_eq_some, Option.some.injEq] at e3
    obtain ⟨_, rfl⟩ := e3
    refine (pi_str he).run pins s σ H Rr I ⟨μ, h, σd, _, R, S, e1, fun μ1 H1 x p t R1 rx => ?_⟩
    cases rx
    exact ⟨z, rfl, o μ1 H1 _ p t R1 itr_str⟩
  | ref n =>
    simp only [itOf, Option.map_eq_some_iff] at e3
    obtain ⟨ds, e4, rfl⟩ := e3
    refine (pi_list he).run pins s σ H Rr I ⟨μ, h, σd, _, R, S, e1, fun μ1 H1 x p t R1 rx => ?_⟩
    cases rx with
    | ref ea =>
      obtain ⟨vs, hs, _⟩ := list_of R1 ea e4
      exact ⟨_, rfl, ⟨vs, hs⟩, o μ1 H1 _ p t R1 (itr_live ea)⟩
  | _ => cases e3
theorem pi_rng1 {a1 : Expr} {p pos : Pos} (hg : Gl X "range") (hm : X.mg "range" = none) (ha : PA X [a1] (tL X.K T l)) (hs : starEach [a1] X.env = [(false, eval a1 X.env)]) (hl : ∀ σ h r, l σ h = some r → r.1.length = 1) :
    PI X tg (.Call (.Name "range" p) [a1] [] pos) (tIt X.K T fun σ h => (l σ h).bind fun r => (rngIt r.1).map fun t => (t, r.2)) := by
  refine ⟨fun pins s σ H Rr I ⟨μ, h, σd, r, R, S, e0, o⟩ => ?_⟩
  obtain ⟨ra, e1, e2⟩ := Option.bind_eq_some_iff.mp e0
  obtain ⟨t, e3, rfl⟩ := Option.map_eq_some_iff.mp e2
  refine (pi_range1 hg hm ha hs).run pins s σ H Rr I ⟨μ, h, σd, _, R, S, e1, fun μ1 H1 x p t R1 rx => ?_⟩
  have hl := hl _ _ _ e1
  obtain ⟨ds, h1⟩ := ra
  cases rx with
  | nil => cases hl
  | cons r1 r2 =>
    cases r2 with
    | cons _ _ => simp at hl
    | nil =>
      cases r1 with
      | int j =>
        simp only [rngIt, Option.ite_none_right_eq_some, Option.some.injEq] at e3
        obtain ⟨⟨c1, c2⟩, rfl⟩ := e3
        refine ⟨j, rfl, c1, c2, o μ1 H1 _ p t R1 ?_⟩
        have := itr_rng (K := X.K) (T := T) (μ0 := μ1) (H0 := H1) (i := 0) (n := j.toNat)
        simpa using this
      | _ => simp [rngIt] at e3
theorem pi_rng2 {a1 a2 : Expr} {p pos : Pos} (hg : Gl X "range") (hm : X.mg "range" = none) (ha : PA X [a1, a2] (tL X.K T l)) (hs : starEach [a1, a2] X.env = [(false, eval a1 X.env), (false, eval a2 X.env)]) (hs2 : starEach [a2] X.env = [(false, eval a2 X.env)]) (hl : ∀ σ h r, l σ h = some r → r.1.length = 2) :
    PI X tg (.Call (.Name "range" p) [a1, a2] [] pos) (tIt X.K T fun σ h => (l σ h).bind fun r => (rngIt r.1).map fun t => (t, r.2)) := by
  refine ⟨fun pins s σ H Rr I ⟨μ, h, σd, r, R, S, e0, o⟩ => ?_⟩
  obtain ⟨ra, e1, e2⟩ := Option.bind_eq_some_iff.mp e0
  obtain ⟨t, e3, rfl⟩ := Option.map_eq_some_iff.mp e2
  refine (pi_range2 hg hm ha hs hs2).run pins s σ H Rr I ⟨μ, h, σd, _, R, S, e1, fun μ1 H1 x p t R1 rx => ?_⟩
  have hl := hl _ _ _ e1
  obtain ⟨ds, h1⟩ := ra
  cases rx with
  | nil => cases hl
  | cons r1 r2 =>
    cases r2 with
    | nil => simp at hl
    | cons r2 r3 =>
      cases r3 with
      | cons _ _ => simp at hl
      | nil =>
        cases r1 with
        | int i =>
          cases r2 with
          | int j =>
            simp only [rngIt, Option.ite_none_right_eq_some, Option.some.injEq] at e3
            obtain ⟨c, rfl⟩ := e3
            exact ⟨i, j, rfl, c, o μ1 H1 _ p t R1 itr_rng⟩
          | _ => simp [rngIt] at e3
        | _ => simp [rngIt] at e3
theorem pi_zip' {elts : List Expr} {kk : Nat} {p pos tpos : Pos} (hg : Gl X "zip") (hm : X.mg "zip" = none) (ha : PE X e (tI X.K T a)) (hb : PE X e2 (tI X.K T b))
    (hs : starEach [e, e2] X.env = (false, eval e X.env) :: starEach [e2] X.env) (hs2 : starEach [e2] X.env = (false, eval e2 X.env) :: starEach [] X.env) (hpl : (backTo pos (starEach [e2] X.env)).any (·.1) = false) :
    PI X (.Tuple elts kk tpos) (.Call (.Name "zip" p) [e, e2] [] pos) (tIt X.K T fun σ h => (a σ h).bind fun r => (b σ r.2).bind fun q => (zipOf r.1 q.1 q.2).map fun t => (t, q.2)) := by
  refine ⟨fun pins s σ H Rr I ⟨μ, h, σd, r, R, S, e0, o⟩ => ?_⟩
  obtain ⟨ra, e1, e2⟩ := Option.bind_eq_some_iff.mp e0
  obtain ⟨rb, e3, e4⟩ := Option.bind_eq_some_iff.mp e2
  obtain ⟨t, e5, rfl⟩ := Option.map_eq_some_iff.mp e4
  refine (RZ.pi_zipA hg hm (pa_cons ha (pa_cons hb pa_nil hs2) hs) hs hpl).run pins s σ H Rr I ⟨μ, h, σd, ra, R, S, e1, fun μ1 H1 x p t R1 rx => ⟨μ1, ra.2, σd, rb, R1, S.mono p t, e3, fun μ2 H2 y p2 t2 R2 ry => ?_⟩⟩
  show ∃ a' b' xs ys, [x, y] = [V.ref a', V.ref b'] ∧ _
  have rx := rx.mono p2 t2
  obtain ⟨da, ha0⟩ := ra
  obtain ⟨db, hb0⟩ := rb
  cases da with
  | tup ds =>
    cases db with
    | tup es =>
      cases e5
      cases rx with
      | tup h1 r1 =>
        cases ry with
        | tup h2 r2 => exact ⟨_, _, _, _, rfl, .inr ⟨h1, h2, o μ2 H2 _ (p.trans p2) (t.trans t2) R2 (itr_zipT h1 r1 h2 r2)⟩⟩
    | _ => cases e5
  | ref m =>
    cases db with
    | ref n =>
      simp only [zipOf] at e5
      split at e5
      · rename_i ds es e6 e7
        cases e5
        cases rx with
        | ref ea =>
          cases ry with
          | ref eb =>
            obtain ⟨vs, h1, _⟩ := list_of R2 ea e6
            obtain ⟨ws, h2, _⟩ := list_of R2 eb e7
            exact ⟨_, _, _, _, rfl, .inl ⟨h1, h2, o μ2 H2 _ (p.trans p2) (t.trans t2) R2 (itr_zipL ea eb)⟩⟩
      · cases e5
    | _ => cases e5
  | _ => cases db <;> cases e5
theorem pi_enm' {elts : List Expr} {kk : Nat} {p pos tpos : Pos} (hg : Gl X "enumerate") (hm : X.mg "enumerate" = none) (ha : PE X e (tI X.K T a)) (hs : starEach [e] X.env = [(false, eval e X.env)]) :
    PI X (.Tuple elts kk tpos) (.Call (.Name "enumerate" p) [e] [] pos) (tIt X.K T fun σ h => (a σ h).bind fun r => (enmOf r.1 r.2).map fun t => (t, r.2)) := by
  refine ⟨fun pins s σ H Rr I ⟨μ, h, σd, r, R, S, e0, o⟩ => ?_⟩
  obtain ⟨ra, e1, e2⟩ := Option.bind_eq_some_iff.mp e0
  obtain ⟨t, e5, rfl⟩ := Option.map_eq_some_iff.mp e2
  refine (pi_enum hg hm (pa_cons ha pa_nil hs) hs).run pins s σ H Rr I ⟨μ, h, σd, ra, R, S, e1, fun μ1 H1 x p t R1 rx => ?_⟩
  show ∃ a' xs, [x] = [V.ref a'] ∧ _
  obtain ⟨da, ha0⟩ := ra
  cases da with
  | ref m =>
    simp only [enmOf, Option.map_eq_some_iff] at e5
    obtain ⟨ds, e6, rfl⟩ := e5
    cases rx with
    | ref ea =>
      obtain ⟨vs, h1, _⟩ := list_of R1 ea e6
      exact ⟨_, _, rfl, h1, o μ1 H1 _ p t R1 (itr_enm ea)⟩
  | _ => cases e5
end
end MP
namespace MP
open PySem PySem.Spec PyProof.Rows L2
section
variable {K : PySem.W.Frag} {T μ μ' : List Addr} {h : HI} {H H' : Hp} {a : Addr} {n : Nat}
theorem TSq.unl {o : Obj} {ks : List (Key × V)} {u : HO} (hf : H a = some (.frz o (.dK ks))) : TSq K H (upd H a u) := by
  have ne : ∀ b u', H b = some u' → (∀ o ks, u' ≠ .frz o (.dK ks)) → b ≠ a := fun b u' e h1 z => by
    rw [z, hf] at e; cases e; exact h1 _ _ rfl
  intro b xs q
  rcases q with (q | ⟨o, q⟩) | q
  · exact .inl (.inl (by rw [upd_ne (ne b _ q (fun _ _ z => by cases z))]; exact q))
  · exact .inl (.inr ⟨o, by rw [upd_ne (ne b _ q (fun _ _ z => by cases z))]; exact q⟩)
  · exact .inr q
theorem RKV.mono0 (p : μ <+: μ') (t : TSq K H H') {kvs : List (D × D)} {ks : List (Key × V)} (r : RKV K μ H kvs ks) : RKV K μ' H' kvs ks := Paired.mapP r fun x y q => ⟨q.1, q.2.mono0 p t⟩
theorem OR.mono0 {u : HB} (t : TSq K H H') (he : ∀ ob, H a = some ob → H' a = some ob) (q : OR K μ H a u) : OR K μ H' a u := by
  have p := List.prefix_refl μ
  cases u with
  | lst ds => obtain ⟨vs, e, r⟩ := q; exact ⟨vs, he _ e, r.mono0 p t⟩
  | dic kvs => obtain ⟨ks, e, r⟩ := q; exact ⟨ks, he _ e, r.mono0 p t⟩
  | frz kvs => obtain ⟨o, ks, e, r⟩ := q; exact ⟨o, ks, he _ e, r.mono0 p t⟩
  | rol ds =>
    obtain ⟨vs, e, r⟩ := q
    refine ⟨vs, ?_, r.mono0 p t⟩
    rcases e with ⟨ob, e⟩ | e
    · exact .inl ⟨ob, he _ e⟩
    · exact .inr e
  | set ds => exact q.elim
  | ins C fs => exact q.elim
theorem HR.unlock {o : Obj} {ks : List (Key × V)} {kvs : List (D × D)} (R : HR K T μ h H) (ea : μ[n]? = some a) (e : h[n]? = some (.frz kvs)) (hf : H a = some (.frz o (.dK ks))) : HR K T μ (h.set n (.dic kvs)) (upd H a (.dK ks)) := by
  have ts : TSq K H (upd H a (.dK ks)) := TSq.unl hf
  have hlt : n < h.length := by
    rcases Nat.lt_or_ge n h.length with z | z
    · exact z
    · rw [List.getElem?_eq_none z] at e; cases e
  have kind : ∀ {m : Nat} {u : HB}, (h.set n (.dic kvs))[m]? = some u → u.wr = true → ∃ u', h[m]? = some u' ∧ u'.wr = true := fun {m u} hm hu => by
    by_cases z : m = n
    · subst z; exact ⟨_, e, rfl⟩
    · rw [List.getElem?_set_ne (Ne.symm z)] at hm; exact ⟨u, hm, hu⟩
  refine ⟨by rw [List.length_set]; exact R.len, fun m k b u u' h1 h2 h3 h4 h5 h6 => ?_, fun m b u h1 h2 => ?_, fun P hP => ?_⟩
  · obtain ⟨v, a1, a2⟩ := kind h3 h5
    obtain ⟨v', b1, b2⟩ := kind h4 h6
    exact R.inj m k b v v' h1 h2 a1 b1 a2 b2
  · by_cases z : m = n
    · subst z
      rw [List.getElem?_set_self hlt] at h2
      cases h2
      rw [ea] at h1; cases h1
      obtain ⟨o2, ks2, e2, r⟩ := R.of ea e
      rw [hf] at e2; cases e2
      exact ⟨ks, upd_same, r.mono0 (List.prefix_refl _) ts⟩
    · rw [List.getElem?_set_ne (Ne.symm z)] at h2
      have q2 := R.of h1 h2
      by_cases zb : b = a
      · subst zb
        cases hu : u.wr with
        | true => exact absurd (R.inj m n b u _ h1 ea h2 e hu rfl) z
        | false =>
          cases u with
          | rol ds =>
            obtain ⟨vs, r1, r2⟩ := q2
            refine ⟨vs, ?_, r2.mono0 (List.prefix_refl _) ts⟩
            rcases r1 with ⟨o2, r1⟩ | r1
            · rw [hf] at r1; cases r1
            · exact .inr r1
          | lst ds => cases hu
          | dic ds => cases hu
          | frz ds => cases hu
          | set ds => cases hu
          | ins C fs => cases hu
      · exact q2.mono0 ts fun ob' z2 => by rw [upd_ne zb]; exact z2
  · refine tabG_upd (R.tab P hP) fun z => ?_
    obtain ⟨ps, e1, _⟩ := R.tab P hP
    rw [z, hf] at e1; cases e1
def lckE (i : Nat) (ev : MP.St → HI → Rz) : MP.St → HI → Rz := fun σ h => (lckD (σ.getD i none) h).bind fun q => (ev σ (h.set q.1 (.frz q.2))).bind fun r => (unlD q.1 r.2).map fun h2 => (r.1, h2)
theorem tI_lck {i : Nat} {ev : MP.St → HI → Rz} {σ : L2.St} {Q : VK} (q : tI K T (lckE i ev) σ H Q) : tLockE (tI K T ev) σ H Q := by
  obtain ⟨μ, h, σd, r, R, S, e, o⟩ := q
  obtain ⟨⟨n, kvs⟩, e1, e2⟩ := Option.bind_eq_some_iff.mp e
  obtain ⟨ra, e3, e4⟩ := Option.bind_eq_some_iff.mp e2
  obtain ⟨h2, e5, rfl⟩ := Option.map_eq_some_iff.mp e4
  have hn : h[n]? = some (.dic kvs) := by
    unfold lckD at e1
    split at e1
    · split at e1
      · rename_i q; cases e1; exact q
      · cases e1
    · cases e1
  obtain ⟨a, ea, oa⟩ := R.at hn
  obtain ⟨ks, eH, rk⟩ := oa
  refine ⟨a, .dK ks, eH, trivial, fun od => ?_⟩
  have tk1 : TK K H (upd H a (.frz od (.dK ks))) := TK.updW ⟨_, eH, .inr ⟨_, rfl⟩⟩
  have R1 : HR K T μ (h.set n (.frz kvs)) (upd H a (.frz od (.dK ks))) := R.set ea hn rfl rfl ⟨od, ks, upd_same, rk.mono (List.prefix_refl _) tk1⟩
  refine ⟨μ, _, σd, ra, R1, S.mono (List.prefix_refl _) tk1, e3, fun μ' H' v p t R2 rv => ?_⟩
  have hf : H' a = some (.frz od (.dK ks)) := t.1.2 a od ks upd_same
  have hq : ∃ kvs', ra.2[n]? = some (.frz kvs') ∧ h2 = ra.2.set n (.dic kvs') := by
    simp only [unlD] at e5
    split at e5
    · rename_i q; cases e5; exact ⟨_, q, rfl⟩
    · cases e5
  obtain ⟨kvs', g1, rfl⟩ := hq
  have t2 := tk1.trans t
  have tf : TK K H (upd H' a (.dK ks)) := ⟨⟨fun b xs q => TSq.unl hf b xs (t2.1.1 b xs q), fun b o' ks' q => by
    have : b ≠ a := fun z => by rw [z, eH] at q; cases q
    rw [upd_ne this]; exact t2.1.2 b o' ks' q⟩, fun b φ q => by
    have : b ≠ a := fun z => by rw [z, eH] at q; cases q
    rw [upd_ne this]; exact t2.2 b φ q⟩
  exact ⟨hf, o μ' _ v p tf (R2.unlock (pre_get p ea) g1 hf) (rv.mono0 (List.prefix_refl _) (TSq.unl hf))⟩
theorem rkv_get : ∀ {kvs : List (D × D)} {ks : List (Key × V)} {i : Nat} {d : D}, RKV K μ H kvs ks → (kvs.map (·.1))[i]? = some d → ∃ q, ks[i]? = some q ∧ keyOf d = some q.1
  | _, _, _, _, .nil, e => by simp at e
  | _, _, 0, _, .cons h _, e => by simp at e; subst e; exact ⟨_, rfl, h.1⟩
  | _, _, i + 1, _, .cons _ r, e => by
    obtain ⟨q, e1, e2⟩ := rkv_get (i := i) r (by simpa using e)
    exact ⟨q, by simpa using e1, e2⟩
theorem rv_key {d : D} {k : Key} (e : keyOf d = some k) : RV K μ H d (kV k) := by
  cases d <;> simp [keyOf] at e <;> subst e
  · exact .int _
  · exact .str _
theorem itr_keys {o : Obj} {ks : List (Key × V)} {kvs : List (D × D)} {H0 : Hp} {μ0 : List Addr} (ha : H0 a = some (.frz o (.dK ks))) (rk : RKV K μ0 H0 kvs ks) : ItR K T (Itk a o ks) (.seq (kvs.map (·.1))) μ0 H0 where
  go := fun μ h H i d p t R e => by
    obtain ⟨q, e1, e2⟩ := rkv_get rk (show (kvs.map (·.1))[i]? = some d from e)
    refine ⟨⟨t.2 _ _ _ ha, (List.getElem?_eq_some_iff.mp e1).1⟩, fun x H' y => ?_⟩
    obtain ⟨eH, k, v, y1, y2⟩ := y
    subst eH
    rw [e1] at y1
    cases y1
    subst y2
    exact ⟨rv_key e2, TK.refl, R⟩
  stop := fun μ h H p t R _ => ⟨t.2 _ _ _ ha, by show ks.length ≤ (kvs.map (·.1)).length; rw [List.length_map, Paired.length rk]; exact Nat.le_refl _⟩
end
section
variable {X : Cx} {T : List Addr} {tg e : Expr} {a : MP.St → HI → Rz} {i : Nat}
theorem pi_kys (he : PE X e (tI X.K T a)) : PI X tg e (tIt X.K T fun σ h => (a σ h).bind fun r => (keysOf r.1 r.2).map fun t => (t, r.2)) := by
  refine ⟨fun pins s σ H Rr I ⟨μ, h, σd, r, R, S, e0, o⟩ => ?_⟩
  obtain ⟨ra, e1, e2⟩ := Option.bind_eq_some_iff.mp e0
  obtain ⟨t, e3, rfl⟩ := Option.map_eq_some_iff.mp e2
  obtain ⟨d, h1⟩ := ra
  have hd : ∃ n kvs, d = .ref n ∧ h1[n]? = some (.frz kvs) ∧ t = .seq (kvs.map (·.1)) := by
    simp only [keysOf] at e3
    split at e3
    · split at e3
      · rename_i q; cases e3; exact ⟨_, _, rfl, q, rfl⟩
      · cases e3
    · cases e3
  obtain ⟨n, kvs, rfl, hn, rfl⟩ := hd
  refine (pi_keys he).run pins s σ H Rr I ⟨μ, h, σd, _, R, S, e1, fun μ1 H1 x p t R1 rx => ?_⟩
  cases rx with
  | ref ea =>
    obtain ⟨od, ks, e4, rk⟩ := R1.of ea hn
    exact ⟨_, od, rfl, .inl ⟨ks, e4, o μ1 H1 _ p t R1 (itr_keys e4 rk)⟩⟩
theorem pe_lck (he : PE X e (tI X.K T a)) : PE X e (tI X.K T (lckE i a)) := (pe_lock he).imp fun σ H Q q => tI_lck q
end
end MP
namespace MP
open PySem PySem.Spec PyProof.Rows L2
mutual
def Tg.ix : Tg → List Nat
  | .nm i => [i]
  | .tp ts => ts.ix
def Tgs.ix : Tgs → List Nat
  | .nil => []
  | .cons t ts => t.ix ++ ts.ix
end
section
variable (K : PySem.W.Frag) (T : List Addr)
def tGd (t : Tg) : TG := fun x σ H Q => ∃ μ d σd σd', RV K μ H d x ∧ SR K μ H σd σ ∧ bind1 t d σd = some σd' ∧ ∀ σ', SR K μ H σd' σ' → (∀ vs, (∀ i ∈ t.ix, i ∈ vs) → wipe σ' vs = wipe σ vs) → Q σ' H
end
section
variable {K : PySem.W.Frag} {T : List Addr} {σ : L2.St} {H : Hp}
theorem wipe_set {i : Nat} {v : Option V} : ∀ {vs : List Nat} {σ : L2.St}, i ∈ vs → wipe (σ.set i v) vs = wipe σ vs
  | j :: vs, σ, h => by
    unfold wipe
    by_cases z : i = j
    · subst z
      by_cases hm : i ∈ vs
      · rw [wipe_set hm]
      · have : ∀ {us : List Nat} {τ : L2.St}, i ∉ us → wipe (τ.set i v) us = (wipe τ us).set i v := by
          intro us
          induction us with
          | nil => intro τ _; rfl
          | cons k us ih =>
            intro τ hk
            simp only [List.mem_cons, not_or] at hk
            unfold wipe
            rw [ih hk.2, List.set_comm _ _ hk.1]
        rw [this hm, List.set_set]
    · rw [wipe_set (by simpa [z] using h)]
theorem turn_of {ρ : Type} {t : Tg} {own : List Nat} {cnd : MP.St → HI → Rz} {EMf : MP.St → HI → Option ρ} {NOf : HI → Option ρ} {res : ρ} {μ : List Addr} {h : HI} {d : D} {x : V} {σd : MP.St} {TX : L2.St → Hp → Prop} {NX : Hp → Prop}
    (hix : ∀ i ∈ t.ix, i ∈ own) (R : HR K T μ h H) (rx : RV K μ H d x) (S : SR K μ H σd σ)
    (e : ((bind1 t d (wipeD σd own)).bind fun σ' => (cnd σ' h).bind fun q => match truth q.1 q.2 with | some true => EMf σ' q.2 | some false => NOf q.2 | none => none) = some res)
    (hEM : ∀ μ2 H2 h2 σd2 σ2, μ <+: μ2 → TK K H H2 → HR K T μ2 h2 H2 → SR K μ2 H2 σd2 σ2 → EMf σd2 h2 = some res → TX σ2 H2)
    (hNO : ∀ μ2 H2 h2, μ <+: μ2 → TK K H H2 → HR K T μ2 h2 H2 → NOf h2 = some res → NX H2) :
    tGd K t x (wipe σ own) H fun σ2 H2 => wipe σ2 own = wipe σ own ∧ tBl K T (fun σ h => (cnd σ h).bind fun r => (truth r.1 r.2).map fun b => (b, r.2)) σ2 H2 fun b H3 => if b = true then TX σ2 H3 else NX H3 := by
  obtain ⟨σd', e1, e2⟩ := Option.bind_eq_some_iff.mp e
  obtain ⟨q, e3, e4⟩ := Option.bind_eq_some_iff.mp e2
  refine ⟨μ, d, wipeD σd own, σd', rx, S.wipe own, e1, fun σ' S' hw => ⟨?_, ?_⟩⟩
  · rw [hw own hix]
    clear hw e e1 hix S' S
    have : ∀ {σ : L2.St} {vs : List Nat} {i : Nat}, i ∈ vs → (wipe σ vs).set i none = wipe σ vs := by
      intro σ vs i hm
      have hp : ∀ (i : Nat), i ∈ vs → ∀ x, (wipe σ vs)[i]? ≠ some (some x) := fun i hi x z => (wipe_some z).2 hi
      refine List.ext_getElem? fun j => ?_
      by_cases z : i = j
      · subst z
        by_cases hl : i < (wipe σ vs).length
        · rw [List.getElem?_set_self hl]
          cases c : (wipe σ vs)[i]? with
          | none => rw [List.getElem?_eq_none_iff] at c; omega
          | some y =>
            cases y with
            | none => rfl
            | some y => exact absurd c (hp i hm y)
        · rw [List.getElem?_eq_none (by simpa using hl), List.getElem?_eq_none (by omega)]
      · rw [List.getElem?_set_ne z]
    have h2 : ∀ (vs : List Nat), (∀ i ∈ vs, i ∈ own) → wipe (wipe σ own) vs = wipe σ own := by
      intro vs
      induction vs with
      | nil => intro _; rfl
      | cons i vs ih =>
        intro hv
        show (wipe (wipe σ own) vs).set i none = _
        rw [ih fun j hj => hv j (List.mem_cons_of_mem _ hj), this (hv i List.mem_cons_self)]
    exact h2 own fun _ z => z
  · cases c : truth q.1 q.2 with
    | none => rw [c] at e4; cases e4
    | some b =>
      rw [c] at e4
      refine ⟨μ, h, σd', (b, q.2), R, S', by show (cnd σd' h).bind _ = _; rw [e3]; show (truth q.1 q.2).map _ = _; rw [c]; rfl, fun μ2 H2 p t R2 => ?_⟩
      cases b with
      | true => exact hEM μ2 H2 q.2 σd' σ' p t R2 (S'.mono p t) e4
      | false => exact hNO μ2 H2 q.2 p t R2 e4
end
section
variable {K : PySem.W.Frag} {T : List Addr}
theorem loop_gen {α β κ : Type} {t : MP.It} {J : L2.It} {μ1 : List Addr} {H1 : Hp} {h0 : HI} {a0 : α} {k0 : κ} {body : D → α → HI → Option ((α ⊕ β) × HI)} {z : (α ⊕ β) × HI} (rel : κ → α → List Addr → HI → Hp → Prop)
    (IR : ItR K T J t μ1 H1) (e3 : loopN t.nx t.fin body t.len 0 a0 h0 = some z) (R1 : HR K T μ1 h0 H1) (r0 : rel k0 a0 μ1 h0 H1) :
    ∃ W : Nat → Nat → κ → Hp → Prop, (∃ m, W 0 m k0 H1) ∧ ∀ i m k H, W i m k H →
      (J.stop i H ∧ ∃ a μ h, z = (.inl a, h) ∧ μ1 <+: μ ∧ TK K H1 H ∧ HR K T μ h H ∧ rel k a μ h H) ∨
      (J.go i H ∧ ∃ Nx : κ → Hp → Prop, (∀ k' H', Nx k' H' → ∃ m', m' < m ∧ W (i + 1) m' k' H') ∧ ∀ x H', J.yld i H x H' → ∃ μ a h d res, μ1 <+: μ ∧ TK K H1 H' ∧ TK K H H' ∧ HR K T μ h H' ∧ rel k a μ h H ∧ RV K μ H' d x ∧ body d a h = some res ∧
        (∀ a' h' μ' H'' k', res = (.inl a', h') → μ <+: μ' → TK K H' H'' → HR K T μ' h' H'' → rel k' a' μ' h' H'' → Nx k' H'') ∧ ∀ b h', res = (.inr b, h') → z = (.inr b, h')) := by
  refine ⟨fun i m k H => ∃ μ h a, i + m = t.len ∧ HR K T μ h H ∧ μ1 <+: μ ∧ TK K H1 H ∧ rel k a μ h H ∧ loopN t.nx t.fin body m i a h = some z, ⟨t.len, _, _, _, by omega, R1, List.prefix_refl _, TK.refl, r0, e3⟩, ?_⟩
  rintro i m k H ⟨μ, h, a, hm, R, p, tk, rl, e⟩
  cases m with
  | zero =>
    simp only [loopN, Option.ite_none_right_eq_some, Option.some.injEq] at e
    obtain ⟨hf, e⟩ := e
    exact .inl ⟨by have := IR.stop μ h H p tk.1 R hf; rw [← hm] at this; exact this, a, μ, h, e.symm, p, tk, R, rl⟩
  | succ m =>
    simp only [loopN] at e
    cases e6 : t.nx i h with
    | none => rw [e6] at e; cases e
    | some d =>
      rw [e6] at e
      simp only at e
      obtain ⟨go, st⟩ := IR.go μ h H i d p tk.1 R e6
      refine .inr ⟨go, fun k' H' => ∃ μ2 h2 a2, HR K T μ2 h2 H' ∧ μ1 <+: μ2 ∧ TK K H1 H' ∧ rel k' a2 μ2 h2 H' ∧ loopN t.nx t.fin body m (i + 1) a2 h2 = some z, ?_, ?_⟩
      · rintro k' H' ⟨μ2, h2, a2, q1, q2, q3, q4, q5⟩
        exact ⟨m, Nat.lt_succ_self m, μ2, h2, a2, by omega, q1, q2, q3, q4, q5⟩
      · intro x H' y
        obtain ⟨rx, t2, R2⟩ := st x H' y
        cases e7 : body d a h with
        | none => rw [e7] at e; cases e
        | some res =>
          rw [e7] at e
          refine ⟨μ, a, h, d, res, p, tk.trans t2, t2, R2, rl, rx, e7, fun a' h' μ' H'' k' er p2 t3 R3 rl3 => ?_, fun b h' er => ?_⟩
          · subst er
            exact ⟨μ', h', a', R3, p.trans p2, (tk.trans t2).trans t3, rl3, e⟩
          · subst er
            exact (Option.some.inj e).symm
end
section
variable {K : PySem.W.Frag} {T : List Addr} {σ : L2.St} {H : Hp} {Q : VK} {cl : Nat → List D → HI → Rz}
abbrev tst (ev : MP.St → HI → Rz) : MP.St → HI → Option (Bool × HI) := fun σ h => (ev σ h).bind fun r => (truth r.1 r.2).map fun b => (b, r.2)
theorem ItR.later {J : L2.It} {t : MP.It} {μ0 μ1 : List Addr} {H0 H1 : Hp} (I : ItR K T J t μ0 H0) (p : μ0 <+: μ1) (tk : TK K H0 H1) : ItR K T J t μ1 H1 :=
  ⟨fun μ h H i d p' t' R e => I.go μ h H i d (p.trans p') (tk.1.trans t') R e, fun μ h H p' t' R e => I.stop μ h H (p.trans p') (tk.1.trans t') R e⟩
theorem lc_of {own : List Nat} {t : Tg} {i : MI} {c e v : ME} (hv : v = .omit) (hix : ∀ j ∈ t.ix, j ∈ own) (q : tI K T (evC cl .lst own (.one t i c e v)) σ H Q) :
    tLc (tIt K T (evI cl i)) (tGd K t) (tBl K T (tst (evE cl c))) (tI K T (evE cl e)) own σ H Q := by
  subst hv
  obtain ⟨μ, h, σd, r, R, S, e0, o⟩ := q
  simp only [evC] at e0
  obtain ⟨r0, e1, e2⟩ := Option.bind_eq_some_iff.mp e0
  obtain ⟨z, e3, e4⟩ := Option.bind_eq_some_iff.mp e2
  refine ⟨μ, h, σd, r0, R, S, e1, fun μ1 H1 J p t1 R1 IR => ?_⟩
  intro L hL
  have pre1 : μ1 <+: μ1 ++ [L] := List.prefix_append ..
  have R1' : HR K T (μ1 ++ [L]) (r0.2 ++ [.lst []]) (upd H1 L (.lst [])) := R1.new hL ⟨[], upd_same, .nil⟩
  have gL : (μ1 ++ [L])[r0.2.length]? = some L := by
    rw [← R1.len, List.getElem?_append_right (Nat.le_refl _)]; simp
  have tL := TK.newT (K := K) (ob := .lst []) hL
  obtain ⟨W, h0, hW⟩ := loop_gen (κ := Unit) (k0 := ()) (fun _ _ _ _ _ => True) (IR.later pre1 tL) e3 R1' True.intro
  refine ⟨fun i m H => W i m () H, h0, fun i m H w => ?_⟩
  rcases hW i m () H w with ⟨st, a, μ2, h2, ez, p2, t2, R2, _⟩ | ⟨go, Nx, hNx, turn⟩
  · refine .inl ⟨st, ?_⟩
    subst ez
    simp only [compEnd, Option.map_some, Option.some.injEq] at e4
    subst e4
    exact o μ2 H _ (p.trans (pre1.trans p2)) (t1.trans (tL.trans t2)) R2 (.ref (pre_get p2 gL))
  · refine .inr ⟨go, fun H' => Nx () H', fun H' n => hNx () H' n, fun x H' y => ?_⟩
    obtain ⟨μ2, a, h2, d, res, p2, t2, _, R2, _, rx, e7, nx, _⟩ := turn x H' y
    have S2 := S.mono (p.trans (pre1.trans p2)) (t1.trans (tL.trans t2))
    refine turn_of (T := T) (EMf := fun σ' h => (evE cl e σ' h).bind fun x => (evE cl .omit σ' x.2).bind fun y => emit .lst r0.2.length x.1 y.1 a y.2) (NOf := fun h => some (.inl a, h)) hix R2 rx S2 e7 ?_ ?_
    · intro μ3 H3 h3 σd3 σ3 p3 t3 R3 S3 e8
      obtain ⟨x8, e8, e9⟩ := Option.bind_eq_some_iff.mp e8
      obtain ⟨y8, e10, e9⟩ := Option.bind_eq_some_iff.mp e9
      cases e10
      refine ⟨μ3, h3, σd3, x8, R3, S3, e8, fun μ4 H4 v p4 t4 R4 rv => ?_⟩
      simp only [emit] at e9
      split at e9
      · rename_i ds hn
        simp only [Option.ite_none_right_eq_some, Option.some.injEq] at e9
        obtain ⟨hl, rfl⟩ := e9
        have eL := pre_get ((p2.trans p3).trans p4) gL
        obtain ⟨acc, hA, rs⟩ := R4.of eL hn
        have w : Wr H4 L := ⟨_, hA, .inl ⟨_, rfl⟩⟩
        have pr := List.prefix_refl μ4
        exact ⟨acc, hA, by rw [← big_eq, ← rs.length]; exact hl, nx _ _ μ4 _ () rfl (p3.trans p4) ((t3.trans t4).trans (TK.updW w)) (R4.set eL hn rfl rfl ⟨_, upd_same, (rs.mono pr (TK.updW w)).append (.cons (rv.mono pr (TK.updW w)) .nil)⟩) True.intro⟩
      · cases e9
    · intro μ3 H3 h3 p3 t3 R3 e8
      cases e8
      exact nx _ _ μ3 _ () rfl p3 t3 R3 True.intro
theorem dc_of {own : List Nat} {t : Tg} {i : MI} {c e v : ME} (hix : ∀ j ∈ t.ix, j ∈ own) (q : tI K T (evC cl .dct own (.one t i c e v)) σ H Q) :
    tDc (tIt K T (evI cl i)) (tGd K t) (tBl K T (tst (evE cl c))) (tI K T (evE cl e)) (tI K T (evE cl v)) own σ H Q := by
  obtain ⟨μ, h, σd, r, R, S, e0, o⟩ := q
  simp only [evC] at e0
  obtain ⟨r0, e1, e2⟩ := Option.bind_eq_some_iff.mp e0
  obtain ⟨z, e3, e4⟩ := Option.bind_eq_some_iff.mp e2
  refine ⟨μ, h, σd, r0, R, S, e1, fun μ1 H1 J p t1 R1 IR => ?_⟩
  intro L hL
  have pre1 : μ1 <+: μ1 ++ [L] := List.prefix_append ..
  have R1' : HR K T (μ1 ++ [L]) (r0.2 ++ [.dic []]) (upd H1 L (.dK [])) := R1.new hL ⟨[], upd_same, .nil⟩
  have gL : (μ1 ++ [L])[r0.2.length]? = some L := by
    rw [← R1.len, List.getElem?_append_right (Nat.le_refl _)]; simp
  have tL := TK.newT (K := K) (ob := .dK []) hL
  obtain ⟨W, h0, hW⟩ := loop_gen (κ := Unit) (k0 := ()) (fun _ _ _ _ _ => True) (IR.later pre1 tL) e3 R1' True.intro
  refine ⟨fun i m H => W i m () H, h0, fun i m H w => ?_⟩
  rcases hW i m () H w with ⟨st, a, μ2, h2, ez, p2, t2, R2, _⟩ | ⟨go, Nx, hNx, turn⟩
  · refine .inl ⟨st, ?_⟩
    subst ez
    simp only [compEnd, Option.map_some, Option.some.injEq] at e4
    subst e4
    exact o μ2 H _ (p.trans (pre1.trans p2)) (t1.trans (tL.trans t2)) R2 (.ref (pre_get p2 gL))
  · refine .inr ⟨go, fun H' => Nx () H', fun H' n => hNx () H' n, fun x H' y => ?_⟩
    obtain ⟨μ2, a, h2, d, res, p2, t2, _, R2, _, rx, e7, nx, _⟩ := turn x H' y
    have S2 := S.mono (p.trans (pre1.trans p2)) (t1.trans (tL.trans t2))
    refine turn_of (T := T) (EMf := fun σ' h => (evE cl e σ' h).bind fun x => (evE cl v σ' x.2).bind fun y => emit .dct r0.2.length x.1 y.1 a y.2) (NOf := fun h => some (.inl a, h)) hix R2 rx S2 e7 ?_ ?_
    · intro μ3 H3 h3 σd3 σ3 p3 t3 R3 S3 e8
      obtain ⟨x8, e8, e9⟩ := Option.bind_eq_some_iff.mp e8
      obtain ⟨y8, e10, e9⟩ := Option.bind_eq_some_iff.mp e9
      refine ⟨μ3, h3, σd3, x8, R3, S3, e8, fun μ4 H4 v4 p4 t4 R4 rv => ⟨μ4, x8.2, σd3, y8, R4, S3.mono p4 t4, e10, fun μ5 H5 v5 p5 t5 R5 rv5 => ?_⟩⟩
      simp only [emit] at e9
      split at e9
      · rename_i kvs hn
        simp only [Option.ite_none_right_eq_some, Bool.and_eq_true, decide_eq_true_eq, Option.some.injEq] at e9
        obtain ⟨⟨hk, hl⟩, rfl⟩ := e9
        obtain ⟨k, ek⟩ := key_some hk
        have eL := pre_get (((p2.trans p3).trans p4).trans p5) gL
        obtain ⟨ks, hA, rs⟩ := R5.of eL hn
        have w : Wr H5 L := ⟨_, hA, .inr ⟨_, rfl⟩⟩
        have pr := List.prefix_refl μ5
        exact ⟨ks, k, keyOf_kV rv ek, hA, by rw [← big_eq, ← rs.length]; exact hl, nx _ _ μ5 _ () rfl ((p3.trans p4).trans p5) (((t3.trans t4).trans t5).trans (TK.updW w)) (R5.set eL hn rfl rfl ⟨_, upd_same, (rs.mono pr (TK.updW w)).put ek (rv5.mono pr (TK.updW w))⟩) True.intro⟩
      · cases e9
    · intro μ3 H3 h3 p3 t3 R3 e8
      cases e8
      exact nx _ _ μ3 _ () rfl p3 t3 R3 True.intro
theorem tabG_of {P : Addr} {μ : List Addr} {h : HI} (hP : P ∈ T) (R : HR K T μ h H) : GxR.TabG H P := R.tab P hP
theorem gtup_of {P : Addr} (hP : P ∈ T) {own : List Nat} {t : Tg} {i : MI} {c e v : ME} (hv : v = .omit) (hix : ∀ j ∈ t.ix, j ∈ own) (q : tI K T (evC cl .gtup own (.one t i c e v)) σ H Q) :
    tGTup P (tIt K T (evI cl i)) (lp1 (tGd K t) (tBl K T (tst (evE cl c))) (tI K T (evE cl e)) own) σ H Q := by
  subst hv
  obtain ⟨μ, h, σd, r, R, S, e0, o⟩ := q
  simp only [evC] at e0
  obtain ⟨r0, e1, e2⟩ := Option.bind_eq_some_iff.mp e0
  obtain ⟨z, e3, e4⟩ := Option.bind_eq_some_iff.mp e2
  refine ⟨μ, h, σd, r0, R, S, e1, fun μ1 H1 J p t1 R1 IR => ⟨R1.tab P hP, fun H2 tb => ?_⟩⟩
  obtain ⟨tk2, R2⟩ := R1.tabbed hP tb
  have pr := List.prefix_refl μ1
  obtain ⟨W, h0, hW⟩ := loop_gen (κ := List V) (k0 := []) (fun ys a μ h H => ∃ l, a = .ds l ∧ RVs K μ H l ys) (IR.later pr tk2) e3 R2 ⟨[], rfl, .nil⟩
  refine ⟨W, h0, fun i m ys H w => ?_⟩
  rcases hW i m ys H w with ⟨st, a, μ2, h2, ez, p2, t2, R2, l, ea, rl⟩ | ⟨go, Nx, hNx, turn⟩
  · refine .inl ⟨st, ?_⟩
    subst ez ea
    simp only [compEnd, Option.map_some, Option.some.injEq] at e4
    subst e4
    exact ((o.later p t1).later p2 (tk2.trans t2)).newT R2 rl
  · refine .inr ⟨go, Nx, hNx, fun x H' y => ?_⟩
    obtain ⟨μ2, a, h2, d, res, p2, t2, th, R2, ⟨l, ea, rl⟩, rx, e7, nx, _⟩ := turn x H' y
    subst ea
    have S2 := S.mono (p.trans p2) (t1.trans (tk2.trans t2))
    refine turn_of (T := T) (EMf := fun σ' h => (evE cl e σ' h).bind fun x => (evE cl .omit σ' x.2).bind fun y => emit .gtup r0.2.length x.1 y.1 (.ds l) y.2) (NOf := fun h => some (.inl (.ds l), h)) hix R2 rx S2 e7 ?_ ?_
    · intro μ3 H3 h3 σd3 σ3 p3 t3 R3 S3 e8
      obtain ⟨x8, e8, e9⟩ := Option.bind_eq_some_iff.mp e8
      obtain ⟨y8, e10, e9⟩ := Option.bind_eq_some_iff.mp e9
      cases e10
      refine ⟨μ3, h3, σd3, x8, R3, S3, e8, fun μ4 H4 v p4 t4 R4 rv => ?_⟩
      simp only [emit, Option.ite_none_right_eq_some, Option.some.injEq] at e9
      obtain ⟨hl, rfl⟩ := e9
      exact ⟨by rw [← big_eq, ← rl.length]; exact hl, nx _ _ μ4 _ _ rfl (p3.trans p4) (t3.trans t4) R4 ⟨_, rfl, (rl.mono (p3.trans p4) (th.trans (t3.trans t4))).append (.cons rv .nil)⟩⟩
    · intro μ3 H3 h3 p3 t3 R3 e8
      cases e8
      exact nx _ _ μ3 _ _ rfl p3 t3 R3 ⟨l, rfl, rl.mono p3 (th.trans t3)⟩
theorem gall_of {P : Addr} (hP : P ∈ T) {own : List Nat} {t : Tg} {i : MI} {c e v : ME} (hv : v = .omit) (hix : ∀ j ∈ t.ix, j ∈ own) (q : tI K T (evC cl .gall own (.one t i c e v)) σ H Q) :
    tGAll P (tIt K T (evI cl i)) (lp1 (tGd K t) (tBl K T (tst (evE cl c))) (tI K T (evE cl e)) own) σ H Q := by
  subst hv
  obtain ⟨μ, h, σd, r, R, S, e0, o⟩ := q
  simp only [evC] at e0
  obtain ⟨r0, e1, e2⟩ := Option.bind_eq_some_iff.mp e0
  obtain ⟨z, e3, e4⟩ := Option.bind_eq_some_iff.mp e2
  refine ⟨μ, h, σd, r0, R, S, e1, fun μ1 H1 J p t1 R1 IR => ⟨R1.tab P hP, fun H2 tb => ?_⟩⟩
  obtain ⟨tk2, R2⟩ := R1.tabbed hP tb
  have pr := List.prefix_refl μ1
  obtain ⟨W, h0, hW⟩ := loop_gen (κ := Unit) (k0 := ()) (fun _ _ _ _ _ => True) (IR.later pr tk2) e3 R2 True.intro
  refine ⟨W, h0, fun i m ys H w => ?_⟩
  rcases hW i m ys H w with ⟨st, a, μ2, h2, ez, p2, t2, R2, _⟩ | ⟨go, Nx, hNx, turn⟩
  · refine .inl ⟨st, ?_⟩
    subst ez
    simp only [compEnd, Option.map_some, Option.some.injEq] at e4
    subst e4
    exact ((o.later p t1).later p2 (tk2.trans t2)).here R2 (.bl true)
  · refine .inr ⟨go, Nx, hNx, fun x H' y => ?_⟩
    obtain ⟨μ2, a, h2, d, res, p2, t2, th, R2, _, rx, e7, nx, br⟩ := turn x H' y
    have S2 := S.mono (p.trans p2) (t1.trans (tk2.trans t2))
    refine turn_of (T := T) (EMf := fun σ' h => (evE cl e σ' h).bind fun x => (evE cl .omit σ' x.2).bind fun y => emit .gall r0.2.length x.1 y.1 a y.2) (NOf := fun h => some (.inl a, h)) hix R2 rx S2 e7 ?_ ?_
    · intro μ3 H3 h3 σd3 σ3 p3 t3 R3 S3 e8
      obtain ⟨x8, e8, e9⟩ := Option.bind_eq_some_iff.mp e8
      obtain ⟨y8, e10, e9⟩ := Option.bind_eq_some_iff.mp e9
      cases e10
      refine ⟨μ3, h3, σd3, x8, R3, S3, e8, fun μ4 H4 v p4 t4 R4 rv => ?_⟩
      obtain ⟨x80, x81⟩ := x8
      cases x80 with
      | bl b =>
        cases rv
        refine ⟨b, rfl, ?_⟩
        cases b with
        | true =>
          cases e9
          exact .inl ⟨rfl, nx _ _ μ4 _ _ rfl (p3.trans p4) (t3.trans t4) R4 True.intro⟩
        | false =>
          cases e9
          have ez := br _ _ rfl
          subst ez
          cases e4
          exact .inr ⟨rfl, (((o.later p t1).later p2 (tk2.trans t2)).later (p3.trans p4) (t3.trans t4)).here R4 (.bl false)⟩
      | _ => cases e9
    · intro μ3 H3 h3 p3 t3 R3 e8
      cases e8
      exact nx _ _ μ3 _ _ rfl p3 t3 R3 True.intro
theorem gany_of {P : Addr} (hP : P ∈ T) {own : List Nat} {t : Tg} {i : MI} {c e v : ME} (hv : v = .omit) (hix : ∀ j ∈ t.ix, j ∈ own) (q : tI K T (evC cl .gany own (.one t i c e v)) σ H Q) :
    tGAny P (tIt K T (evI cl i)) (lp1 (tGd K t) (tBl K T (tst (evE cl c))) (tI K T (evE cl e)) own) σ H Q := by
  subst hv
  obtain ⟨μ, h, σd, r, R, S, e0, o⟩ := q
  simp only [evC] at e0
  obtain ⟨r0, e1, e2⟩ := Option.bind_eq_some_iff.mp e0
  obtain ⟨z, e3, e4⟩ := Option.bind_eq_some_iff.mp e2
  refine ⟨μ, h, σd, r0, R, S, e1, fun μ1 H1 J p t1 R1 IR => ⟨R1.tab P hP, fun H2 tb => ?_⟩⟩
  obtain ⟨tk2, R2⟩ := R1.tabbed hP tb
  have pr := List.prefix_refl μ1
  obtain ⟨W, h0, hW⟩ := loop_gen (κ := Unit) (k0 := ()) (fun _ _ _ _ _ => True) (IR.later pr tk2) e3 R2 True.intro
  refine ⟨W, h0, fun i m ys H w => ?_⟩
  rcases hW i m ys H w with ⟨st, a, μ2, h2, ez, p2, t2, R2, _⟩ | ⟨go, Nx, hNx, turn⟩
  · refine .inl ⟨st, ?_⟩
    subst ez
    simp only [compEnd, Option.map_some, Option.some.injEq] at e4
    subst e4
    exact ((o.later p t1).later p2 (tk2.trans t2)).here R2 (.bl false)
  · refine .inr ⟨go, Nx, hNx, fun x H' y => ?_⟩
    obtain ⟨μ2, a, h2, d, res, p2, t2, th, R2, _, rx, e7, nx, br⟩ := turn x H' y
    have S2 := S.mono (p.trans p2) (t1.trans (tk2.trans t2))
    refine turn_of (T := T) (EMf := fun σ' h => (evE cl e σ' h).bind fun x => (evE cl .omit σ' x.2).bind fun y => emit .gany r0.2.length x.1 y.1 a y.2) (NOf := fun h => some (.inl a, h)) hix R2 rx S2 e7 ?_ ?_
    · intro μ3 H3 h3 σd3 σ3 p3 t3 R3 S3 e8
      obtain ⟨x8, e8, e9⟩ := Option.bind_eq_some_iff.mp e8
      obtain ⟨y8, e10, e9⟩ := Option.bind_eq_some_iff.mp e9
      cases e10
      refine ⟨μ3, h3, σd3, x8, R3, S3, e8, fun μ4 H4 v p4 t4 R4 rv => ?_⟩
      obtain ⟨x80, x81⟩ := x8
      cases x80 with
      | bl b =>
        cases rv
        refine ⟨b, rfl, ?_⟩
        cases b with
        | false =>
          cases e9
          exact .inl ⟨rfl, nx _ _ μ4 _ _ rfl (p3.trans p4) (t3.trans t4) R4 True.intro⟩
        | true =>
          cases e9
          have ez := br _ _ rfl
          subst ez
          cases e4
          exact .inr ⟨rfl, (((o.later p t1).later p2 (tk2.trans t2)).later (p3.trans p4) (t3.trans t4)).here R4 (.bl true)⟩
      | _ => cases e9
    · intro μ3 H3 h3 p3 t3 R3 e8
      cases e8
      exact nx _ _ μ3 _ _ rfl p3 t3 R3 True.intro
end
end MP
namespace MP
open PySem PySem.Spec PyProof.Rows L2
section
variable {X : Cx} {T : List Addr} {ea ek ev eb ec : Expr} {a b c k v : ME} {cl : Nat → List D → HI → Rz} {pos : Pos}
theorem lt_of_get {α : Type} {l : List α} {n : Nat} {x : α} (h : l[n]? = some x) : n < l.length := by
  rcases Nat.lt_or_ge n l.length with z | z
  · exact z
  · rw [List.getElem?_eq_none z] at h; cases h
theorem merged_self {ks : List (Key × Value)} {P : Program} {w : World} {h : Heap} {a : Addr} (d : h.DictOf (mixKind P w) a ks) : merged [] ks = ks :=
  let ⟨_, _, _, _, _, _, _, _, hn⟩ := d
  merged_nil_of_nodup ks hn
theorem pe_dst (ha : PE X ea (tI X.K T (evE cl a))) (hk : PE X ek (tI X.K T (evE cl k))) (hv : PE X ev (tI X.K T (evE cl v))) : PE X (.Dict [none, some ek] [ea, ev] pos) (tI X.K T (evE cl (.x (.dst a k v)))) := by
  refine ⟨fun pins s σ H Q I ⟨μ, h, σd, r, R, S, e, o⟩ => ?_⟩
  simp only [evE, evX] at e
  obtain ⟨ra, e1, e2⟩ := Option.bind_eq_some_iff.mp e
  obtain ⟨da, h1⟩ := ra
  cases da with
  | ref m =>
    simp only at e2
    split at e2
    · cases e2
    · rename_i hmn
      split at e2
      · rename_i kvs g1 g2
        obtain ⟨hkl, e3⟩ := Option.ite_none_right_eq_some.mp e2
        obtain ⟨rk, e4, e5⟩ := Option.bind_eq_some_iff.mp e3
        obtain ⟨rv, e6, e7⟩ := Option.bind_eq_some_iff.mp e5
        split at e7
        · rename_i kv1 g3 g4
          simp only [Option.ite_none_right_eq_some, Bool.and_eq_true, decide_eq_true_eq, Option.some.injEq] at e7
          obtain ⟨⟨hkey, hl1⟩, rfl⟩ := e7
          obtain ⟨key, ekey⟩ := key_some hkey
          have pn : H s.heap.objs.size = none := I.hok.fresh (Nat.le_refl _)
          obtain ⟨p, hp⟩ : ∃ p, s.heap.objs.size = p := ⟨_, rfl⟩
          rw [hp] at pn
          have I0 : Inv X pins σ (upd H p (.dK [])) { s with heap := s.heap.push { cls := .type "dict", data := .dict #[] } } := I.laid (t' := s.toks) (fun _ _ q => Heap.get?_push_of_some _ q) (Nat.le_of_eq hp) (by rw [← hp]; exact dk_empty s.heap I.big)
          have pre0 : μ <+: μ ++ [p] := List.prefix_append ..
          have t0 := TK.newT (K := X.K) (ob := .dK []) pn
          have R0 : HR X.K T (μ ++ [p]) (h ++ [.dic []]) (upd H p (.dK [])) := R.new pn ⟨[], upd_same, .nil⟩
          have gp : (μ ++ [p])[h.length]? = some p := by
            rw [← R.len, List.getElem?_append_right (Nat.le_refl _)]
            simp
          refine disp_star (knd := mixKind X.prog X.w) (thn (ha.run pins _ σ _ (fun x H1 => ∃ μ1, HR X.K T μ1 h1 H1 ∧ RV X.K μ1 H1 (.ref m) x ∧ μ ++ [p] <+: μ1 ∧ TK X.K (upd H p (.dK [])) H1) I0 ⟨_, _, σd, _, R0, S.mono pre0 t0, e1, fun μ1 H1 x p1 t1 R1 rx => ⟨μ1, R1, rx, p1, t1⟩⟩) fun mv s1 ⟨x, H1, I1, rx, μ1, R1, rm, p1, t1⟩ => ?_)
          cases rm with
          | ref eo =>
            rename_i oa
            obtain rfl : mv = Value.ref oa := rx
            have gp1 := pre_get p1 gp
            obtain ⟨ks, hks, rks⟩ := R1.of eo g2
            obtain ⟨ks0, hks0, rks0⟩ := R1.of gp1 g1
            cases rks0
            have hpo : p ≠ oa := fun z => hmn (R1.inj m h.length oa (.dic kvs) (.dic []) eo (by rw [z] at gp1; exact gp1) g2 g1 rfl rfl)
            obtain ⟨z1, sm1, vs1, kv1', dd1⟩ := dk_of I1.hok hks
            obtain ⟨_, sm0, vs0, kv0, dd0⟩ := dk_of I1.hok hks0
            cases kv0
            have len1 : vs1.length = kvs.length := by rw [← kv1'.length, rks.length]
            refine ⟨oa, vs1, rfl, sm1, by rw [hp]; exact hpo, by omega, by rw [hp]; exact dd0, dd1, fun h2 dd2 hs2 => ?_⟩
            rw [hp] at dd2 hs2
            rw [merged_self dd1] at dd2
            have hz1 : ks.length ≤ sizeLine := z1
            have ex2 : ∃ q, h2.get? p = some q := let ⟨q, _, _, hq, _⟩ := dd2; ⟨q, hq⟩
            have I2 : Inv X pins σ (upd H1 p (.dK ks)) { s1 with heap := h2 } := d_write (t' := s1.toks) I1 (by rw [hks0]; exact True.intro) hs2 ex2 (dk_new hz1 sm0 kv1' dd2)
            have w1 : Wr H1 p := ⟨_, hks0, .inr ⟨_, rfl⟩⟩
            have R2 := R1.set (o' := .dic kvs) (ob := .dK ks) gp1 g1 rfl rfl ⟨ks, upd_same, rks.mono (List.prefix_refl _) (TK.updW w1)⟩
            have t2 := t1.trans (TK.updW (K := X.K) (ob := .dK ks) w1)
            obtain ⟨q, hq⟩ : ∃ q, h2.objs.size = q := ⟨_, rfl⟩
            have qn : (upd H1 p (.dK ks)) q = none := I2.hok.fresh (Nat.le_of_eq hq)
            have I3 : Inv X pins σ (upd (upd H1 p (.dK ks)) q (.dK [])) { s1 with heap := h2.push { cls := .type "dict", data := .dict #[] } } := I2.laid (t' := s1.toks) (fun _ _ z => Heap.get?_push_of_some _ z) (Nat.le_of_eq hq) (by rw [← hq]; exact dk_empty h2 I2.big)
            have R3 : HR X.K T (μ1 ++ [q]) (h1.set h.length (.dic kvs) ++ [.dic []]) (upd (upd H1 p (.dK ks)) q (.dK [])) := R2.new qn ⟨[], upd_same, .nil⟩
            have pre3 : μ1 <+: μ1 ++ [q] := List.prefix_append ..
            have t3 := t2.trans (TK.newT (K := X.K) (ob := .dK []) qn)
            have gq : (μ1 ++ [q])[h1.length]? = some q := by
              rw [← R1.len, List.getElem?_append_right (Nat.le_refl _)]
              simp
            have gp3 := pre_get pre3 gp1
            refine thn (hk.run pins _ σ _ (fun x H4 => ∃ μ4, HR X.K T μ4 rk.2 H4 ∧ RV X.K μ4 H4 rk.1 x ∧ μ1 ++ [q] <+: μ4 ∧ TK X.K (upd (upd H1 p (.dK ks)) q (.dK [])) H4) I3 ⟨_, _, σd, _, R3, (S.mono pre0 t0).mono (p1.trans pre3) t3, e4, fun μ1 H1 x p1 t1 R1 rx => ⟨μ1, R1, rx, p1, t1⟩⟩) fun kval s4 ⟨x4, H4, I4, rx4, μ4, R4, rm4, p4, t4⟩ => ?_
            refine thn (hv.run pins _ σ _ (fun x H5 => ∃ μ5, HR X.K T μ5 rv.2 H5 ∧ RV X.K μ5 H5 rv.1 x ∧ μ4 <+: μ5 ∧ TK X.K H4 H5) I4 ⟨_, _, σd, _, R4, ((S.mono pre0 t0).mono (p1.trans pre3) t3).mono p4 t4, e6, fun μ1 H1 x p1 t1 R1 rx => ⟨μ1, R1, rx, p1, t1⟩⟩) fun vval s5 ⟨x5, H5, I5, rx5, μ5, R5, rm5, p5, t5⟩ => ?_
            have gp5 := pre_get (p4.trans p5) gp3
            have gq5 := pre_get (p4.trans p5) gq
            obtain ⟨ks5, hk5, rk5⟩ := R5.of gp5 g3
            obtain ⟨ks6, hk6, rk6⟩ := R5.of gq5 g4
            cases rk6
            have hpq : p ≠ q := fun z => by
              have n1 : h.length ≠ h1.length := Nat.ne_of_lt (lt_of_get g1)
              exact n1 (R5.inj h.length h1.length p (.dic kv1) (.dic []) gp5 (by rw [z]; exact gq5) g3 g4 rfl rfl)
            obtain ⟨z5, sm5, vs5, kv5, dd5⟩ := dk_of I5.hok hk5
            obtain ⟨_, sm6, vs6, kv6, dd6⟩ := dk_of I5.hok hk6
            cases kv6
            have ex4 := keyOf_kV rm4 ekey
            subst ex4
            have len5 : vs5.length = kv1.length := by rw [← kv5.length, rk5.length]
            refine ⟨key, vs5, kV_is rx4, by omega, by rw [hq]; exact sm6, by rw [hp, hq]; exact hpq, by rw [hq]; exact dd6, by rw [hp]; exact dd5, fun h6 dd7 hs7 h8 dd8 hs8 t => ?_⟩
            rw [hq] at dd7 hs7
            rw [hp] at dd8 hs8 ⊢
            have ex7 : ∃ u, h6.get? q = some u := let ⟨u, _, _, hu, _⟩ := dd7; ⟨u, hu⟩
            have ex8 : ∃ u, h8.get? p = some u := let ⟨u, _, _, hu, _⟩ := dd8; ⟨u, hu⟩
            have rxv : KV [(key, x5)] [(key, vval)] := .cons ⟨rfl, rx5⟩ .nil
            have I6 : Inv X pins σ (upd H5 q (.dK [(key, x5)])) { s5 with heap := h6 } := d_write (t' := s5.toks) I5 (by rw [hk6]; exact True.intro) hs7 ex7 (dk_new (by rw [sizeLine_eq]; simp) sm6 rxv dd7)
            have hk5' : (upd H5 q (.dK [(key, x5)])) p = some (.dK ks5) := by rw [upd_ne hpq]; exact hk5
            have I7 : Inv X pins σ (upd (upd H5 q (.dK [(key, x5)])) p (.dK (putK ks5 key x5))) { s5 with heap := h8, toks := t } := d_write (s := { s5 with heap := h6 }) (t' := t) I6 (by rw [hk5']; exact True.intro) hs8 ex8 (dk_new (by
              have := length_putK ks5 key x5
              have := kv5.length
              rw [sizeLine_eq]; omega) sm5 (kv5.put key rx5) dd8)
            have w6 : Wr H5 q := ⟨_, hk6, .inr ⟨_, rfl⟩⟩
            have t6 := TK.updW (K := X.K) (ob := .dK [(key, x5)]) w6
            have pr := List.prefix_refl μ5
            have rm4' := rm4.mono p5 t5
            have R6 := R5.set (o' := .dic [(rk.1, rv.1)]) (ob := .dK [(key, x5)]) gq5 g4 rfl rfl ⟨_, upd_same, .cons ⟨ekey, rm5.mono pr t6⟩ .nil⟩
            have w7 : Wr (upd H5 q (.dK [(key, x5)])) p := ⟨_, hk5', .inr ⟨_, rfl⟩⟩
            have t7 := TK.updW (K := X.K) (ob := .dK (putK ks5 key x5)) w7
            have g3' : (rv.2.set h1.length (.dic [(rk.1, rv.1)]))[h.length]? = some (.dic kv1) := by
              rw [List.getElem?_set_ne (Nat.ne_of_gt (lt_of_get g1))]
              exact g3
            have R7 := R6.set (o' := .dic (kPut kv1 rk.1 rv.1)) (ob := .dK (putK ks5 key x5)) gp5 g3' rfl rfl ⟨_, upd_same, ((rk5.mono pr t6).mono pr t7).put ekey ((rm5.mono pr t6).mono pr t7)⟩
            exact ⟨.ref p, _, I7, rfl, o _ _ _ (pre0.trans (p1.trans (pre3.trans (p4.trans p5)))) (t0.trans (t3.trans (t4.trans (t5.trans (t6.trans t7))))) R7 (.ref gp5)⟩
        · cases e7
      · cases e2
  | _ => cases e2
theorem chain_of {K : PySem.W.Frag} {o1 o2 : COp} {σ : L2.St} {H : Hp} {Q : VK} (q : tI K T (evE cl (.x (.chn o1 o2 a b c))) σ H Q) :
    tChain (rV2 K T fun x y h => (cmpB o1 x y h).map fun c => (.bl c, h)) (rV2 K T fun x y h => (cmpB o2 x y h).map fun c => (.bl c, h)) (tI K T (evE cl a)) (tI K T (evE cl b)) (tI K T (evE cl c)) σ H Q := by
  obtain ⟨μ, h, σd, r, R, S, e, o⟩ := q
  simp only [evE, evX] at e
  obtain ⟨ra, e1, e2⟩ := Option.bind_eq_some_iff.mp e
  obtain ⟨rb, e3, e4⟩ := Option.bind_eq_some_iff.mp e2
  obtain ⟨t, e5, e6⟩ := Option.bind_eq_some_iff.mp e4
  refine ⟨μ, h, σd, ra, R, S, e1, fun μ1 H1 x p1 t1 R1 rx => ⟨μ1, ra.2, σd, rb, R1, S.mono p1 t1, e3, fun μ2 H2 y p2 t2 R2 ry => ?_⟩⟩
  refine ⟨μ2, rb.2, ra.1, rb.1, (.bl t, rb.2), R2, rx.mono p2 t2, ry, by show (cmpB o1 ra.1 rb.1 rb.2).map _ = _; rw [e5]; rfl, fun μ3 H3 z p3 t3 R3 rz => ?_⟩
  cases rz
  refine ⟨t, rfl, ?_⟩
  cases t with
  | false =>
    simp only [Bool.false_eq_true, if_false, Option.some.injEq] at e6 ⊢
    subst e6
    exact (((o.later p1 t1).later p2 t2).later p3 t3).here R3 (.bl false)
  | true =>
    simp only [if_true] at e6 ⊢
    obtain ⟨rc, e7, e8⟩ := Option.bind_eq_some_iff.mp e6
    obtain ⟨t2', e9, rfl⟩ := Option.map_eq_some_iff.mp e8
    refine ⟨μ3, rb.2, σd, rc, R3, ((S.mono p1 t1).mono p2 t2).mono p3 t3, e7, fun μ4 H4 u p4 t4 R4 ru => ?_⟩
    exact ⟨μ4, rc.2, rb.1, rc.1, (.bl t2', rc.2), R4, (ry.mono p3 t3).mono p4 t4, ru, by show (cmpB o2 rb.1 rc.1 rc.2).map _ = _; rw [e9]; rfl, (((o.later p1 t1).later p2 t2).later p3 t3).later p4 t4⟩
theorem chain_test {K : PySem.W.Frag} {o1 o2 : COp} {σ : L2.St} {H : Hp} {Q : Bool → Hp → Prop} (q : tBl K T (tst (evE cl (.x (.chn o1 o2 a b c)))) σ H Q) : tI K T (evE cl (.x (.chn o1 o2 a b c))) σ H fun x H' => ∃ k, x = .bl k ∧ Q k H' := by
  obtain ⟨μ, h, σd, r, R, S, e, o⟩ := q
  obtain ⟨rr, e1, e2⟩ := Option.bind_eq_some_iff.mp e
  obtain ⟨b0, e3, rfl⟩ := Option.map_eq_some_iff.mp e2
  refine ⟨μ, h, σd, rr, R, S, e1, fun μ1 H1 v p1 t1 R1 rv => ?_⟩
  have hb : ∃ t, rr.1 = .bl t := by
    simp only [evE, evX] at e1
    obtain ⟨ra, f1, f2⟩ := Option.bind_eq_some_iff.mp e1
    obtain ⟨rb, f3, f4⟩ := Option.bind_eq_some_iff.mp f2
    obtain ⟨t, f5, f6⟩ := Option.bind_eq_some_iff.mp f4
    cases t with
    | false => cases f6; exact ⟨false, rfl⟩
    | true =>
      obtain ⟨rc, f7, f8⟩ := Option.bind_eq_some_iff.mp f6
      obtain ⟨t2, f9, rfl⟩ := Option.map_eq_some_iff.mp f8
      exact ⟨t2, rfl⟩
  obtain ⟨t, et⟩ := hb
  rw [et] at rv e3
  cases rv
  simp only [truth, Option.some.injEq] at e3
  subst e3
  exact ⟨t, rfl, o μ1 H1 p1 t1 R1⟩
theorem pe_rev {j : Nat} {p1 p2 p3 : Pos} (ha : PE X ea (tI X.K T (evE cl a))) : PE X (.Subscript ea (.Slice none none (some (.UnaryOp .USub (.Constant (.int 1) j p1) p2)) p3) pos) (tI X.K T (evE cl (.x (.rev a)))) := by
  refine (pe_revL ha).imp fun σ H Q q => ?_
  obtain ⟨μ, h, σd, r, R, S, e, o⟩ := q
  simp only [evE, evX] at e
  obtain ⟨ra, e1, e2⟩ := Option.bind_eq_some_iff.mp e
  refine ⟨μ, h, σd, ra, R, S, e1, fun μ1 H1 x p1 t1 R1 rx => ?_⟩
  simp only [revD] at e2
  obtain ⟨ds, e3, e4⟩ := Option.bind_eq_some_iff.mp e2
  simp only [hnew, Option.some.injEq] at e4
  subst e4
  obtain ⟨da, h1⟩ := ra
  cases da with
  | ref m =>
    cases rx with
    | ref eo =>
      obtain ⟨vs, hs, rs⟩ := list_of R1 eo e3
      refine ⟨_, vs, rfl, hs, (o.later p1 t1).newL R1 ?_⟩
      have rev : ∀ {ds : List D} {vs : List V}, RVs X.K μ1 H1 ds vs → RVs X.K μ1 H1 ds.reverse vs.reverse := fun {ds} => by
        induction ds with
        | nil => intro vs q; cases q; exact .nil
        | cons d ds ih =>
          intro vs q
          cases q with
          | cons q1 q2 =>
            rw [List.reverse_cons, List.reverse_cons]
            exact (ih q2).append (.cons q1 .nil)
      exact rev rs
  | _ => simp [lstOf] at e3
theorem pe_drg {p p2 pos2 : Pos} (hc : X.calm = true) (hg : Gl X "list") (hm : X.mg "list" = none) (hg2 : Gl X "range") (hm2 : X.mg "range" = none) (ha : PE X ea (tI X.K T (evE cl a))) (na : starEach [ea] X.env = (false, eval ea X.env) :: starEach [] X.env) :
    PE X (.Call (.Name "list" p) [.Call (.Name "range" p2) [ea] [] pos2] [] pos) (tI X.K T (evE cl (.x (.drg a)))) := by
  refine (pe_listRg hc hg hm (prg_1 hg2 hm2 ha na) rfl).imp fun σ H Q q => ?_
  obtain ⟨μ, h, σd, r, R, S, e, o⟩ := q
  simp only [evE, evX] at e
  obtain ⟨ra, e1, e2⟩ := Option.bind_eq_some_iff.mp e
  refine ⟨μ, h, σd, ra, R, S, e1, fun μ1 H1 x p1 t1 R1 rx => ?_⟩
  obtain ⟨da, h1⟩ := ra
  cases da with
  | int j =>
    simp only [Option.ite_none_right_eq_some, hnew, Option.some.injEq] at e2
    obtain ⟨⟨j0, j1⟩, rfl⟩ := e2
    cases rx
    refine ⟨j, rfl, ⟨by omega, by omega, by omega, by omega, by omega⟩, (o.later p1 t1).newL R1 ?_⟩
    have go : ∀ l : List Nat, RVs X.K μ1 H1 (l.map fun k => D.int (k : Nat)) (l.map fun i => V.int (0 + (i : Nat))) := by
      intro l
      induction l with
      | nil => exact .nil
      | cons x r ih => exact .cons (by show RV X.K μ1 H1 (.int (x : Nat)) (V.int (0 + (x : Nat))); rw [Int.zero_add]; exact .int _) ih
    have z := go (List.range j.toNat)
    unfold rgV
    rw [Int.sub_zero]
    exact z
  | _ => cases e2
end
def KVal (K : PySem.W.Frag) (d : D) (u : Value) : Prop := ∃ v : V, RelV v u ∧ ∀ μ H, RV K μ H d v
structure KDi (K : PySem.W.Frag) (a : Addr) (kvs : List (D × D)) : Prop where
  ex : ∃ (es : Array DictEntry) (n : Nat), K.lookup a = some ⟨.type "dict", none, .dict es n, #[]⟩ ∧ Paired (fun (p : D × D) (e : DictEntry) => ∃ i t, p.1 = .int i ∧ e.key = .int i t ∧ e.hash = hashInt i ∧ KVal K p.2 e.val) kvs es.toList
  low : (a == sysModules) = false
section
variable {X : Cx} {T : List Addr}
theorem find_kdi {P : Program} {w : World} {K : PySem.W.Frag} {i : Int} : ∀ {kvs : List (D × D)} {es : List DictEntry}, Paired (fun (p : D × D) (e : DictEntry) => ∃ i t, p.1 = .int i ∧ e.key = .int i t ∧ e.hash = hashInt i ∧ KVal K p.2 e.val) kvs es →
    match kFind kvs (.int i) with
    | some d => ∃ u, findBy (intKind P w).is es.toArray i = some u ∧ KVal K d u
    | none => findBy (intKind P w).is es.toArray i = none
  | _, _, .nil => rfl
  | p :: r, e :: es, .cons h t => by
    obtain ⟨j, tk, e1, e2, e3, kv⟩ := h
    have ih := find_kdi (P := P) (w := w) (i := i) t
    obtain ⟨pd, px⟩ := p
    simp only at e1 kv
    subst e1
    have hd : D.eqv (.int j) (.int i) = (j == i) := rfl
    have hv : (intKind P w).is i e.key = (j == i) := by rw [e2]; rfl
    unfold kFind findBy at *
    simp only [List.find?_toArray, List.find?_cons, hd, hv] at ih ⊢
    cases hji : (j == i) with
    | true =>
      simp only [Option.map_some]
      exact ⟨_, rfl, kv⟩
    | false => exact ih
theorem keysOf_kdi {P : Program} {w : World} {K : PySem.W.Frag} : ∀ {kvs : List (D × D)} {es : List DictEntry}, Paired (fun (p : D × D) (e : DictEntry) => ∃ i t, p.1 = .int i ∧ e.key = .int i t ∧ e.hash = hashInt i ∧ KVal K p.2 e.val) kvs es → ∀ e ∈ es, ∃ k, (intKind P w).is k e.key = true ∧ e.hash = (intKind P w).hash k
  | _, _, .nil, e, h => by cases h
  | _, _, .cons h t, e, hm => by
    rcases List.mem_cons.mp hm with rfl | hm
    · obtain ⟨j, tk, _, e2, e3, _⟩ := h
      exact ⟨j, by rw [e2]; exact intKind_is P w j tk, e3⟩
    · exact keysOf_kdi t e hm
theorem KDi.map {a : Addr} {kvs : List (D × D)} (d : KDi X.K a kvs) {pins : List (Addr × Obj)} {σ : L2.St} {H : Hp} {s : Shared} (I : Inv X pins σ H s) : ∃ f : Int → Option Value, s.heap.MapOf (intKind X.prog X.w) a f ∧ ∀ i, match kFind kvs (.int i) with
    | some d => ∃ u, f i = some u ∧ KVal X.K d u
    | none => f i = none := by
  obtain ⟨⟨es, n, hl, hp⟩, low⟩ := d
  refine ⟨fun i => findBy (intKind X.prog X.w).is es i, ⟨_, es, n, I.kIn _ _ hl, ⟨rfl, rfl, rfl⟩, rfl, fun e he => keysOf_kdi hp e (Array.mem_toList_iff.mpr he), fun _ => rfl⟩, fun i => ?_⟩
  have := find_kdi (P := X.prog) (w := X.w) (i := i) hp
  simpa using this
theorem ix_kdi {a : Addr} {kvs : List (D × D)} (d : KDi X.K a kvs) : IxR X (fun x y H Q => ∃ i dd, x = .ref a ∧ y = .int i ∧ kFind kvs (.int i) = some dd ∧ ∀ v : V, (∀ μ H, RV X.K μ H dd v) → Q v H) := by
  intro value slice pins s σ H x y v u Q I rx ry h hs
  obtain ⟨i, dd, rfl, rfl, e, q⟩ := h
  obtain rfl : v = Value.ref a := rx
  obtain ⟨t, rfl⟩ := ry
  obtain ⟨f, hm, hf⟩ := d.map I
  have hi := hf i
  rw [e] at hi
  obtain ⟨u0, e0, v0, r0, rv0⟩ := hi
  exact tail_any hm.typeIs slot_dict_getitem.lookup (wpAny_getItem_of (intKind_is X.prog X.w i t) hm e0 ⟨v0, H, I.tok _, r0, q v0 rv0⟩) hs
theorem op_in_kdi {a : Addr} {kvs : List (D × D)} (d : KDi X.K a kvs) (neg : Bool) : OpR X (compareOp (if neg then .NotIn else .In)) (fun x y H Q => ∃ i, x = .int i ∧ y = .ref a ∧ Q (.bl (if neg then !(kFind kvs (.int i)).isSome else (kFind kvs (.int i)).isSome)) H) := by
  intro pins s σ H x y v u Q I rx ry h
  obtain ⟨i, rfl, rfl, q⟩ := h
  obtain ⟨t, rfl⟩ := rx
  cases ry
  obtain ⟨f, hm, hf⟩ := d.map I
  have hi := hf i
  have es : (f i).isSome = (kFind kvs (.int i)).isSome := by
    cases c : kFind kvs (.int i) with
    | none => rw [c] at hi; rw [show f i = none from hi]; rfl
    | some dd => rw [c] at hi; obtain ⟨u, e, _⟩ := hi; rw [e]; rfl
  cases neg with
  | false =>
    refine wpAny_in_of (intKind_is X.prog X.w i t) d.low hm ?_
    rw [es]
    exact ⟨.bl _, H, I.tok _, rfl, q⟩
  | true =>
    refine wpAny_notIn_of (intKind_is X.prog X.w i t) d.low hm ?_
    rw [es]
    exact ⟨.bl _, H, I.tok _, rfl, q⟩
variable {ea : Expr} {a : ME} {cl : Nat → List D → HI → Rz} {pos p0 : Pos}
theorem pe_gix {g : Addr} {x : Str} {kvs : List (D × D)} (d : KDi X.K g kvs) (hx : Gl X x) (hm : X.mg x = some (.ref g)) (hdb : (x == ("__debug__" : Str)) = false) (ha : PE X ea (tI X.K T (evE cl a))) (hp : PlainIx ea) :
    PE X (.Subscript (.Name x p0) ea pos) (tI X.K T (evE cl (.x (.gix kvs a)))) := by
  refine (pe_ix (ix_kdi d) (pe_glob (v := .ref g) (u := .ref g) hx hm rfl hdb) ha hp).imp fun σ H Q q => ?_
  obtain ⟨μ, h, σd, r, R, S, e, o⟩ := q
  simp only [evE, evX] at e
  obtain ⟨ra, e1, e2⟩ := Option.bind_eq_some_iff.mp e
  refine ⟨μ, h, σd, ra, R, S, e1, fun μ1 H1 y p1 t1 R1 ry => ?_⟩
  obtain ⟨da, h1⟩ := ra
  cases da with
  | int i =>
    obtain ⟨dd, e3, rfl⟩ := Option.map_eq_some_iff.mp e2
    cases ry
    exact ⟨i, dd, rfl, rfl, e3, fun v rv => (o.later p1 t1).here R1 (rv _ _)⟩
  | _ => cases e2
theorem gin_of {g : Addr} {kvs : List (D × D)} {neg : Bool} {σ : L2.St} {H : Hp} {Q : VK} (q : tI X.K T (evE cl (.x (.gin neg kvs a))) σ H Q) :
    tOp (fun x y H Q => ∃ i, x = .int i ∧ y = .ref g ∧ Q (.bl (if neg then !(kFind kvs (.int i)).isSome else (kFind kvs (.int i)).isSome)) H) (tI X.K T (evE cl a)) (tC (.ref g)) σ H Q := by
  obtain ⟨μ, h, σd, r, R, S, e, o⟩ := q
  simp only [evE, evX] at e
  obtain ⟨ra, e1, e2⟩ := Option.bind_eq_some_iff.mp e
  refine ⟨μ, h, σd, ra, R, S, e1, fun μ1 H1 y p1 t1 R1 ry => ?_⟩
  obtain ⟨da, h1⟩ := ra
  cases da with
  | int i =>
    cases e2
    cases ry
    exact ⟨i, rfl, rfl, (o.later p1 t1).here R1 (.bl _)⟩
  | _ => cases e2
theorem pe_gin {g : Addr} {x : Str} {kvs : List (D × D)} {neg : Bool} (d : KDi X.K g kvs) (hx : Gl X x) (hm : X.mg x = some (.ref g)) (hdb : (x == ("__debug__" : Str)) = false) (ha : PE X ea (tI X.K T (evE cl a))) :
    PE X (.Compare ea [if neg then .NotIn else .In] [.Name x p0] pos) (tI X.K T (evE cl (.x (.gin neg kvs a)))) :=
  (pe_cmpR (op_in_kdi d neg) ha (pe_glob (v := .ref g) (u := .ref g) hx hm rfl hdb) (by cases neg <;> rfl)).imp fun σ H Q q => gin_of q
theorem pt_gin {g : Addr} {x : Str} {kvs : List (D × D)} {neg : Bool} (d : KDi X.K g kvs) (hx : Gl X x) (hm : X.mg x = some (.ref g)) (hdb : (x == ("__debug__" : Str)) = false) (ha : PE X ea (tI X.K T (evE cl a))) :
    PT X (.Compare ea [if neg then .NotIn else .In] [.Name x p0] pos) (tBl X.K T (tst (evE cl (.x (.gin neg kvs a))))) :=
  (pt_cmpR (op_in_kdi d neg) ha (pe_glob (v := .ref g) (u := .ref g) hx hm rfl hdb) (by cases neg <;> rfl)).imp fun σ H Q q => by
    refine gin_of (a := a) (g := g) (neg := neg) (kvs := kvs) ?_
    obtain ⟨μ, h, σd, r, R, S, e, o⟩ := q
    obtain ⟨rr, e1, e2⟩ := Option.bind_eq_some_iff.mp e
    obtain ⟨b0, e3, rfl⟩ := Option.map_eq_some_iff.mp e2
    refine ⟨μ, h, σd, rr, R, S, e1, fun μ1 H1 v p1 t1 R1 rv => ?_⟩
    have hb : ∃ t, rr.1 = .bl t := by
      simp only [evE, evX] at e1
      obtain ⟨ra, f1, f2⟩ := Option.bind_eq_some_iff.mp e1
      obtain ⟨da, h1⟩ := ra
      cases da with
      | int i => cases f2; exact ⟨_, rfl⟩
      | _ => cases f2
    obtain ⟨t, et⟩ := hb
    rw [et] at rv e3
    cases rv
    simp only [truth, Option.some.injEq] at e3
    subst e3
    exact ⟨t, rfl, o μ1 H1 p1 t1 R1⟩
end
end MP
namespace MP
open PySem PySem.Spec PyProof.Rows L2
section
variable {α β : Type} (nx : Nat → HI → Option D) (bodyC : D → α → HI → Option (((α ⊕ β) × HI) × Nat))
def costN : Nat → Nat → α → HI → Nat
  | 0, _, _, _ => 0
  | r + 1, i, a, h => match nx i h with
    | none => 0
    | some d => match bodyC d a h with
      | some ((.inl a', h'), c) => c + 1 + costN r (i + 1) a' h'
      | some ((.inr _, _), c) => c + 1
      | none => 0
end
section
variable {K : PySem.W.Frag} {T : List Addr}
theorem loop_cost {α β κ : Type} {t : MP.It} {J : L2.It} {μ1 : List Addr} {H1 : Hp} {h0 : HI} {a0 : α} {k0 : κ} {body : D → α → HI → Option ((α ⊕ β) × HI)} {bodyC : D → α → HI → Option (((α ⊕ β) × HI) × Nat)} {z : (α ⊕ β) × HI} (rel : κ → α → List Addr → HI → Hp → Prop)
    (hb : ∀ d a h, (bodyC d a h).map (·.1) = body d a h)
    (IR : ItR K T J t μ1 H1) (e3 : loopN t.nx t.fin body t.len 0 a0 h0 = some z) (R1 : HR K T μ1 h0 H1) (r0 : rel k0 a0 μ1 h0 H1) :
    ∃ W : Nat → Nat → κ → Hp → Prop, (∃ m, W 0 m k0 H1) ∧ ∀ i m k H, W i m k H →
      (J.stop i H ∧ ∃ a μ h, z = (.inl a, h) ∧ μ1 <+: μ ∧ TK K H1 H ∧ HR K T μ h H ∧ rel k a μ h H) ∨
      (J.go i H ∧ ∃ Nx : Nat → κ → Hp → Prop, (∀ q k' H', Nx q k' H' → W (i + 1) q k' H') ∧ ∀ x H', J.yld i H x H' → ∃ μ a h d res c rest, μ1 <+: μ ∧ TK K H1 H' ∧ TK K H H' ∧ HR K T μ h H' ∧ rel k a μ h H ∧ RV K μ H' d x ∧ bodyC d a h = some (res, c) ∧ c + rest < m ∧
        (∀ a' h' μ' H'' k', res = (.inl a', h') → μ <+: μ' → TK K H' H'' → HR K T μ' h' H'' → rel k' a' μ' h' H'' → Nx rest k' H'') ∧ ∀ b h', res = (.inr b, h') → z = (.inr b, h')) := by
  refine ⟨fun i m k H => ∃ μ h a rr, i + rr = t.len ∧ m = costN t.nx bodyC rr i a h ∧ HR K T μ h H ∧ μ1 <+: μ ∧ TK K H1 H ∧ rel k a μ h H ∧ loopN t.nx t.fin body rr i a h = some z, ⟨_, _, _, _, t.len, by omega, rfl, R1, List.prefix_refl _, TK.refl, r0, e3⟩, ?_⟩
  rintro i m k H ⟨μ, h, a, rr, hm, rfl, R, p, tk, rl, e⟩
  cases rr with
  | zero =>
    simp only [loopN, Option.ite_none_right_eq_some, Option.some.injEq] at e
    obtain ⟨hf, e⟩ := e
    exact .inl ⟨by have := IR.stop μ h H p tk.1 R hf; rw [← hm] at this; exact this, a, μ, h, e.symm, p, tk, R, rl⟩
  | succ rr =>
    simp only [loopN] at e
    cases e6 : t.nx i h with
    | none => rw [e6] at e; cases e
    | some d =>
      rw [e6] at e
      simp only at e
      obtain ⟨go, st⟩ := IR.go μ h H i d p tk.1 R e6
      refine .inr ⟨go, fun q k' H' => ∃ μ2 h2 a2, q = costN t.nx bodyC rr (i + 1) a2 h2 ∧ HR K T μ2 h2 H' ∧ μ1 <+: μ2 ∧ TK K H1 H' ∧ rel k' a2 μ2 h2 H' ∧ loopN t.nx t.fin body rr (i + 1) a2 h2 = some z, ?_, ?_⟩
      · rintro q k' H' ⟨μ2, h2, a2, q0, q1, q2, q3, q4, q5⟩
        exact ⟨μ2, h2, a2, rr, by omega, q0, q1, q2, q3, q4, q5⟩
      · intro x H' y
        obtain ⟨rx, t2, R2⟩ := st x H' y
        have eb := hb d a h
        cases e8 : bodyC d a h with
        | none =>
          rw [e8] at eb
          rw [← eb] at e
          cases e
        | some rc =>
          obtain ⟨res, c⟩ := rc
          rw [e8] at eb
          have e7 : body d a h = some res := eb.symm
          rw [e7] at e
          have ec : costN t.nx bodyC (rr + 1) i a h = match (some (res, c) : Option (((α ⊕ β) × HI) × Nat)) with
              | some ((.inl a', h'), c) => c + 1 + costN t.nx bodyC rr (i + 1) a' h'
              | some ((.inr _, _), c) => c + 1
              | none => 0 := by
            simp only [costN, e6, e8]
          rw [ec]
          obtain ⟨res1, h'⟩ := res
          cases res1 with
          | inl a' =>
            refine ⟨μ, a, h, d, (.inl a', h'), c, costN t.nx bodyC rr (i + 1) a' h', p, tk.trans t2, t2, R2, rl, rx, e8, by simp only; omega, fun a2 h2 μ' H'' k' er p2 t3 R3 rl3 => ?_, fun b h' er => by cases er⟩
            cases er
            exact ⟨μ', _, _, rfl, R3, p.trans p2, (tk.trans t2).trans t3, rl3, e⟩
          | inr b =>
            refine ⟨μ, a, h, d, (.inr b, h'), c, 0, p, tk.trans t2, t2, R2, rl, rx, e8, by simp only; omega, fun a2 h2 μ' H'' k' er => by (cases er), fun b h' er => ?_⟩
            cases er
            exact (Option.some.inj e).symm
theorem loop_left {α β κ : Type} {t : MP.It} {J : L2.It} {μ1 : List Addr} {H1 : Hp} {h0 : HI} {a0 : α} {k0 : κ} {body : D → α → HI → Option ((α ⊕ β) × HI)} {z : (α ⊕ β) × HI} (rel : κ → α → List Addr → HI → Hp → Prop)
    (IR : ItR K T J t μ1 H1) (e3 : loopN t.nx t.fin body t.len 0 a0 h0 = some z) (R1 : HR K T μ1 h0 H1) (r0 : rel k0 a0 μ1 h0 H1) :
    ∃ W : Nat → Nat → κ → Hp → Prop, W 0 t.len k0 H1 ∧ ∀ i m k H, W i m k H →
      (J.stop i H ∧ m = 0 ∧ ∃ a μ h, z = (.inl a, h) ∧ μ1 <+: μ ∧ TK K H1 H ∧ HR K T μ h H ∧ rel k a μ h H) ∨
      (J.go i H ∧ ∃ Nx : κ → Hp → Prop, (∀ k' H', Nx k' H' → ∃ m', m' < m ∧ W (i + 1) m' k' H') ∧ ∀ x H', J.yld i H x H' → ∃ μ a h d res, μ1 <+: μ ∧ TK K H1 H' ∧ TK K H H' ∧ HR K T μ h H' ∧ rel k a μ h H ∧ RV K μ H' d x ∧ body d a h = some res ∧
        (∀ a' h' μ' H'' k', res = (.inl a', h') → μ <+: μ' → TK K H' H'' → HR K T μ' h' H'' → rel k' a' μ' h' H'' → Nx k' H'') ∧ ∀ b h', res = (.inr b, h') → z = (.inr b, h')) := by
  refine ⟨fun i m k H => ∃ μ h a, i + m = t.len ∧ HR K T μ h H ∧ μ1 <+: μ ∧ TK K H1 H ∧ rel k a μ h H ∧ loopN t.nx t.fin body m i a h = some z, ⟨_, _, _, by omega, R1, List.prefix_refl _, TK.refl, r0, e3⟩, ?_⟩
  rintro i m k H ⟨μ, h, a, hm, R, p, tk, rl, e⟩
  cases m with
  | zero =>
    simp only [loopN, Option.ite_none_right_eq_some, Option.some.injEq] at e
    obtain ⟨hf, e⟩ := e
    exact .inl ⟨by have := IR.stop μ h H p tk.1 R hf; rw [← hm] at this; exact this, rfl, a, μ, h, e.symm, p, tk, R, rl⟩
  | succ m =>
    simp only [loopN] at e
    cases e6 : t.nx i h with
    | none => rw [e6] at e; cases e
    | some d =>
      rw [e6] at e
      simp only at e
      obtain ⟨go, st⟩ := IR.go μ h H i d p tk.1 R e6
      refine .inr ⟨go, fun k' H' => ∃ μ2 h2 a2, HR K T μ2 h2 H' ∧ μ1 <+: μ2 ∧ TK K H1 H' ∧ rel k' a2 μ2 h2 H' ∧ loopN t.nx t.fin body m (i + 1) a2 h2 = some z, ?_, ?_⟩
      · rintro k' H' ⟨μ2, h2, a2, q1, q2, q3, q4, q5⟩
        exact ⟨m, Nat.lt_succ_self m, μ2, h2, a2, by omega, q1, q2, q3, q4, q5⟩
      · intro x H' y
        obtain ⟨rx, t2, R2⟩ := st x H' y
        cases e7 : body d a h with
        | none => rw [e7] at e; cases e
        | some res =>
          rw [e7] at e
          refine ⟨μ, a, h, d, res, p, tk.trans t2, t2, R2, rl, rx, e7, fun a' h' μ' H'' k' er p2 t3 R3 rl3 => ?_, fun b h' er => ?_⟩
          · subst er
            exact ⟨μ', h', a', R3, p.trans p2, (tk.trans t2).trans t3, rl3, e⟩
          · subst er
            exact (Option.some.inj e).symm
end
section
variable {K : PySem.W.Frag} {T : List Addr} {σ : L2.St} {H : Hp} {Q : VK} {cl : Nat → List D → HI → Rz}
def bodyC2 (cl : Nat → List D → HI → Rz) (k : CK) (n : Nat) (t t1 : Tg) (own own1 : List Nat) (c c1 e : ME) (i1 : MI) (σd : MP.St) (d : D) (a : Acc) (h : HI) : Option (((Acc ⊕ D) × HI) × Nat) :=
  (bind1 t d (wipeD σd own)).bind fun σ' => (evE cl c σ' h).bind fun q => match truth q.1 q.2 with
    | some true => (evI cl i1 σ' q.2).bind fun r => (loopN r.1.nx r.1.fin (fun d a h => (bind1 t1 d (wipeD σ' own1)).bind fun σ2 => (evE cl c1 σ2 h).bind fun q => match truth q.1 q.2 with
        | some true => (evE cl e σ2 q.2).bind fun x => (evE cl .omit σ2 x.2).bind fun y => emit k n x.1 y.1 a y.2
        | some false => some (.inl a, q.2)
        | none => none) r.1.len 0 a r.2).map fun z => (z, r.1.len)
    | some false => some ((.inl a, q.2), 0)
    | none => none
theorem bodyC2_fst {k : CK} {n : Nat} {t t1 : Tg} {own own1 : List Nat} {c c1 e : ME} {i1 : MI} {σd : MP.St} (d : D) (a : Acc) (h : HI) : (bodyC2 cl k n t t1 own own1 c c1 e i1 σd d a h).map (·.1) =
    ((bind1 t d (wipeD σd own)).bind fun σ' => (evE cl c σ' h).bind fun q => match truth q.1 q.2 with
      | some true => evD cl k own1 n (.one t1 i1 c1 e .omit) a σ' q.2
      | some false => some (.inl a, q.2)
      | none => none) := by
  unfold bodyC2
  cases bind1 t d (wipeD σd own) with
  | none => rfl
  | some σ' =>
    simp only [Option.bind_some]
    cases evE cl c σ' h with
    | none => rfl
    | some q =>
      simp only [Option.bind_some]
      cases truth q.1 q.2 with
      | none => rfl
      | some b =>
        cases b with
        | false => rfl
        | true =>
          simp only [evD]
          cases evI cl i1 σ' q.2 with
          | none => rfl
          | some r =>
            simp only [Option.bind_some, Option.map_map]
            exact Option.map_id'
theorem g2_of {P : Addr} (hP : P ∈ T) (kk : Bool) {own own1 : List Nat} {t t1 : Tg} {i i1 : MI} {c c1 e v : ME} (hv : v = .omit) (hix : ∀ j ∈ t.ix, j ∈ own) (hix1 : ∀ j ∈ t1.ix, j ∈ own1) (q : tI K T (evC cl (if kk then .gall else .gany) own (.more t i c own1 (.one t1 i1 c1 e v))) σ H Q) :
    tGen P (tIt K T (evI cl i)) (lp2 (tGd K t) (tBl K T (tst (evE cl c))) (tIt K T (evI cl i1)) (tGd K t1) (tBl K T (tst (evE cl c1))) (tI K T (evE cl e)) own own1)
      (fun (_ : Unit) y H Nx => ∃ b, y = V.bl b ∧ ((b = kk ∧ Nx () H) ∨ (b = !kk ∧ Q (.bl (!kk)) H))) (fun _ H => Q (.bl kk) H) () σ H := by
  subst hv
  obtain ⟨μ, h, σd, r, R, S, e0, o⟩ := q
  simp only [evC] at e0
  obtain ⟨r0, e1, e2⟩ := Option.bind_eq_some_iff.mp e0
  obtain ⟨z, e3, e4⟩ := Option.bind_eq_some_iff.mp e2
  refine ⟨μ, h, σd, r0, R, S, e1, fun μ1 H1 J p t1' R1 IR => ⟨R1.tab P hP, fun H2 tb => ?_⟩⟩
  obtain ⟨tk2, R2⟩ := R1.tabbed hP tb
  have pr := List.prefix_refl μ1
  have ea : (acc0 (if kk then CK.gall else CK.gany) r0.2).2 = r0.2 := by cases kk <;> rfl
  rw [ea] at e3
  obtain ⟨W, h0, hW⟩ := loop_cost (κ := Unit) (k0 := ()) (bodyC := bodyC2 cl (if kk then .gall else .gany) r0.2.length t t1 own own1 c c1 e i1 σd) (fun _ _ _ _ _ => True) (fun d a h => bodyC2_fst d a h) (IR.later pr tk2) e3 R2 True.intro
  refine ⟨W, h0, fun i m ys H w => ?_⟩
  rcases hW i m ys H w with ⟨st, a, μ2, h2, ez, p2, t2, R2, _⟩ | ⟨go, Nx, hNx, turn⟩
  · refine .inl ⟨st, ?_⟩
    subst ez
    have e5 : r = (.bl kk, h2) := by cases kk <;> · cases e4; rfl
    subst e5
    exact ((o.later p t1').later p2 (tk2.trans t2)).here R2 (.bl kk)
  · refine .inr ⟨go, Nx, hNx, fun x H' y => ?_⟩
    obtain ⟨μ2, a, h2, d, res, cc, rest, p2, t2, th, R2, _, rx, e7, hcost, nx, br⟩ := turn x H' y
    have S2 := S.mono (p.trans p2) (t1'.trans (tk2.trans t2))
    refine turn_of (T := T) (res := (res, cc)) (EMf := fun σ' h => (evI cl i1 σ' h).bind fun r => (loopN r.1.nx r.1.fin (fun d a h => (bind1 t1 d (wipeD σ' own1)).bind fun σ2 => (evE cl c1 σ2 h).bind fun q => match truth q.1 q.2 with
        | some true => (evE cl e σ2 q.2).bind fun x => (evE cl .omit σ2 x.2).bind fun y => emit (if kk then .gall else .gany) r0.2.length x.1 y.1 a y.2
        | some false => some (.inl a, q.2)
        | none => none) r.1.len 0 a r.2).map fun z => (z, r.1.len)) (NOf := fun h => some ((.inl a, h), 0)) hix R2 rx S2 e7 ?_ ?_
    · intro μ3 H3 h3 σd3 σ3 p3 t3 R3 S3 e8
      obtain ⟨r1, e9, e10⟩ := Option.bind_eq_some_iff.mp e8
      obtain ⟨z1, e11, e12⟩ := Option.map_eq_some_iff.mp e10
      cases e12
      refine ⟨μ3, h3, σd3, r1, R3, S3, e9, fun μ4 H4 J1 p4 t4 R4 IR1 => ?_⟩
      obtain ⟨W1, w1, hW1⟩ := loop_left (κ := Unit) (k0 := ()) (fun _ _ _ _ _ => True) IR1 e11 R4 True.intro
      refine ⟨fun j m1 k H => ∃ m', m1 = m' + rest ∧ W1 j m' k H, ⟨_, by omega, _, rfl, w1⟩, ?_⟩
      rintro j m1 k1 H5 ⟨m', rfl, w5⟩
      rcases hW1 j m' k1 H5 w5 with ⟨st1, hm0, a1, μ5, h5, ez1, p5, t5, R5, _⟩ | ⟨go1, Nx1, hNx1, turn1⟩
      · refine .inl ⟨st1, ?_⟩
        subst hm0
        rw [Nat.zero_add]
        exact nx a1 h5 μ5 H5 () (ez1 ▸ rfl) (p3.trans (p4.trans p5)) (t3.trans (t4.trans t5)) R5 True.intro
      · refine .inr ⟨go1, Nx1, fun k' H' n => ?_, fun x1 H6 y1 => ?_⟩
        · obtain ⟨m2, hm2, w2⟩ := hNx1 k' H' n
          exact ⟨m2 + rest, by omega, m2, rfl, w2⟩
        · obtain ⟨μ5, a1, h5, d1, res1, p5, t5, th1, R5, _, rx1, e13, nx1, br1⟩ := turn1 x1 H6 y1
          have S5 := S3.mono (p4.trans p5) (t4.trans t5)
          refine turn_of (T := T) (EMf := fun σ2 h => (evE cl e σ2 h).bind fun x => (evE cl .omit σ2 x.2).bind fun y => emit (if kk then .gall else .gany) r0.2.length x.1 y.1 a1 y.2) (NOf := fun h => some (.inl a1, h)) hix1 R5 rx1 S5 e13 ?_ ?_
          · intro μ6 H7 h7 σd7 σ7 p7 t7 R7 S7 e14
            obtain ⟨x8, e15, e16⟩ := Option.bind_eq_some_iff.mp e14
            obtain ⟨y8, e17, e16⟩ := Option.bind_eq_some_iff.mp e16
            cases e17
            refine ⟨μ6, h7, σd7, x8, R7, S7, e15, fun μ8 H8 v p8 t8 R8 rv => ?_⟩
            obtain ⟨x80, x81⟩ := x8
            cases x80 with
            | bl b =>
              cases rv
              refine ⟨b, rfl, ?_⟩
              by_cases hb : b = kk
              · subst hb
                refine .inl ⟨rfl, nx1 a1 x81 μ8 _ () ?_ (p7.trans p8) (t7.trans t8) R8 True.intro⟩
                cases b <;> · cases e16; rfl
              · have hb' : b = !kk := by cases b <;> cases kk <;> simp at hb ⊢
                subst hb'
                refine .inr ⟨rfl, ?_⟩
                have er : res1 = (.inr (.bl (!kk)), x81) := by cases kk <;> · cases e16; rfl
                have ez1 := br1 _ _ er
                have ez := br (.bl (!kk)) x81 ez1
                subst ez
                simp only [Option.some.injEq] at e4
                subst e4
                exact ((((o.later p t1').later p2 (tk2.trans t2)).later p3 t3).later ((p4.trans p5).trans (p7.trans p8)) ((t4.trans t5).trans (t7.trans t8))).here R8 (.bl (!kk))
            | _ => cases kk <;> cases e16
          · intro μ6 H7 h7 p7 t7 R7 e14
            cases e14
            exact nx1 a1 h7 μ6 _ () rfl p7 t7 R7 True.intro
    · intro μ3 H3 h3 p3 t3 R3 e8
      cases e8
      exact ⟨rest, by omega, nx a h3 μ3 _ () rfl p3 t3 R3 True.intro⟩
end
section
variable {K : PySem.W.Frag} {T μ μ' : List Addr} {h : HI} {H H1 H' : Hp} {D a : Addr} {φ ψ : Heap → Prop} {σd : MP.St} {σ : L2.St}
theorem SR.mono0 (s : SR K μ H σd σ) (p : μ <+: μ') (t : TSq K H H') : SR K μ' H' σd σ := ⟨s.1, fun i d e => by
  obtain ⟨v, h1, h2⟩ := s.2 i d e
  exact ⟨v, h1, h2.mono0 p t⟩⟩
theorem TK0.updE (t : TK0 K H1 H) (e : H D = some (.ext φ)) : TK0 K H1 (upd H D (.ext ψ)) := by
  have ne : ∀ b u, H b = some u → (∀ χ, u ≠ .ext χ) → b ≠ D := fun b u e' h1 z => by
    rw [z, e] at e'
    cases e'
    exact h1 φ rfl
  refine ⟨fun b xs q => ?_, fun b o ks q => by rw [upd_ne (ne b _ (t.2 b o ks q) fun _ z => by cases z)]; exact t.2 b o ks q⟩
  rcases t.1 b xs q with (q | ⟨o, q⟩) | q
  · exact .inl (.inl (by rw [upd_ne (ne b _ q fun _ z => by cases z)]; exact q))
  · exact .inl (.inr ⟨o, by rw [upd_ne (ne b _ q fun _ z => by cases z)]; exact q⟩)
  · exact .inr q
theorem TK.updE (t : TK K H1 H) (h0 : H1 D = none) (e : H D = some (.ext φ)) : TK K H1 (upd H D (.ext ψ)) :=
  ⟨t.1.updE e, fun b χ q => by rw [upd_ne (fun z => by rw [z, h0] at q; cases q)]; exact t.2 b χ q⟩
theorem TK0.here (e : H D = some (.ext φ)) : TK0 K H (upd H D (.ext ψ)) := TK0.refl.updE e
theorem RKV.monoE (p : μ <+: μ') (t : TSq K H H') {kvs : List (MP.D × MP.D)} {ks : List (Key × V)} (r : Paired (fun p q => keyOf p.1 = some q.1 ∧ RV K μ H p.2 q.2) kvs ks) : RKV K μ' H' kvs ks := Paired.mapP r fun x y q => ⟨q.1, q.2.mono0 p t⟩
theorem HR.updE (R : HR K T μ h H) (e : H D = some (.ext φ)) : HR K T μ h (upd H D (.ext ψ)) := by
  have ne : ∀ b u, H b = some u → (∀ χ, u ≠ .ext χ) → b ≠ D := fun b u e' h1 z => by
    rw [z, e] at e'
    cases e'
    exact h1 φ rfl
  have t : TSq K H (upd H D (.ext ψ)) := (TK0.here e).1
  have pr := List.prefix_refl μ
  refine ⟨R.len, R.inj, fun m b u h1 h2 => ?_, fun Q hQ => ?_⟩
  · have q := R.of h1 h2
    cases u with
    | lst ds => obtain ⟨vs, e1, r⟩ := q; exact ⟨vs, by rw [upd_ne (ne b _ e1 fun _ z => by cases z)]; exact e1, r.mono0 pr t⟩
    | dic kvs => obtain ⟨ks, e1, r⟩ := q; exact ⟨ks, by rw [upd_ne (ne b _ e1 fun _ z => by cases z)]; exact e1, RKV.monoE pr t r⟩
    | frz kvs => obtain ⟨o, ks, e1, r⟩ := q; exact ⟨o, ks, by rw [upd_ne (ne b _ e1 fun _ z => by cases z)]; exact e1, RKV.monoE pr t r⟩
    | rol ds =>
      obtain ⟨vs, e1, r⟩ := q
      refine ⟨vs, ?_, r.mono0 pr t⟩
      rcases e1 with ⟨ob, e1⟩ | e1
      · exact .inl ⟨ob, by rw [upd_ne (ne b _ e1 fun _ z => by cases z)]; exact e1⟩
      · exact .inr e1
    | set ds => exact q.elim
    | ins C fs => exact q.elim
  · obtain ⟨ps, e1, r⟩ := R.tab Q hQ
    exact ⟨ps, by rw [upd_ne (ne Q _ e1 fun _ z => by cases z)]; exact e1, r⟩
theorem HR.newE (R : HR K T μ h H) (hD : H D = none) : HR K T μ h (upd H D (.ext φ)) := by
  refine ⟨R.len, R.inj, fun m b u h1 h2 => (R.of h1 h2).mono (List.prefix_refl _) (TK.newT hD) fun ob _ z => by rw [upd_ne (ne_of_none z hD)]; exact z, fun Q hQ => ?_⟩
  obtain ⟨ps, e1, r⟩ := R.tab Q hQ
  exact ⟨ps, by rw [upd_ne (ne_of_none e1 hD)]; exact e1, r⟩
end
section
variable {K : PySem.W.Frag} {T : List Addr} {σ : L2.St} {H : Hp} {Q : VK} {cl : Nat → List D → HI → Rz} {Pg : Program} {w : World}
theorem few62 : 62 + 1 < scanBound := by decide
def SetHas (Pg : Program) (w : World) (D : Addr) (H : Hp) (l : List Str) : Prop := ∃ n, n ≤ l.length ∧ H D = some (SetSO Pg w D (fun k => decide (k ∈ l)) n)
theorem loop_own {t : MP.It} {J : L2.It} {μ1 : List Addr} {H1 Hb Hs : Hp} {D0 : Addr} {h0 : HI} {l0 : List Str} {body : MP.D → Acc → HI → Option ((Acc ⊕ MP.D) × HI)} {z : (Acc ⊕ MP.D) × HI}
    (IR : ItR K T J t μ1 Hb) (e3 : loopN t.nx t.fin body t.len 0 (.ds (l0.map .str)) h0 = some z) (R1 : HR K T μ1 h0 Hs) (tb : TK0 K Hb Hs) (t1 : TK K H1 Hs) (r0 : SetHas Pg w D0 Hs l0) :
    ∃ W : Nat → Nat → Hp → Prop, (∃ m, W 0 m Hs) ∧ ∀ i m H, W i m H →
      (J.stop i H ∧ ∃ l μ h, z = (.inl (.ds (l.map .str)), h) ∧ μ1 <+: μ ∧ TK0 K Hb H ∧ TK K H1 H ∧ HR K T μ h H ∧ SetHas Pg w D0 H l) ∨
      (J.go i H ∧ ∃ Nx : Hp → Prop, (∀ H', Nx H' → ∃ m', m' < m ∧ W (i + 1) m' H') ∧ ∀ x H', J.yld i H x H' → ∃ μ l h d res, μ1 <+: μ ∧ TK0 K Hb H' ∧ TK K H1 H' ∧ HR K T μ h H' ∧ SetHas Pg w D0 H' l ∧ RV K μ H' d x ∧ body d (.ds (l.map .str)) h = some res ∧
        (∀ l' h' μ' H'', res = (.inl (.ds (l'.map .str)), h') → μ <+: μ' → TK0 K H' H'' → TK K H1 H'' → HR K T μ' h' H'' → SetHas Pg w D0 H'' l' → Nx H'') ∧ (∀ a h', res = (.inl a, h') → True) ∧ ∀ b h', res = (.inr b, h') → z = (.inr b, h')) := by
  refine ⟨fun i m H => ∃ μ h l, i + m = t.len ∧ HR K T μ h H ∧ μ1 <+: μ ∧ TK0 K Hb H ∧ TK K H1 H ∧ SetHas Pg w D0 H l ∧ loopN t.nx t.fin body m i (.ds (l.map .str)) h = some z, ⟨t.len, _, _, l0, by omega, R1, List.prefix_refl _, tb, t1, r0, e3⟩, ?_⟩
  rintro i m H ⟨μ, h, l, hm, R, p, tkb, tk, rl, e⟩
  cases m with
  | zero =>
    simp only [loopN, Option.ite_none_right_eq_some, Option.some.injEq] at e
    obtain ⟨hf, e⟩ := e
    exact .inl ⟨by have := IR.stop μ h H p tkb R hf; rw [← hm] at this; exact this, l, μ, h, e.symm, p, tkb, tk, R, rl⟩
  | succ m =>
    simp only [loopN] at e
    cases e6 : t.nx i h with
    | none => rw [e6] at e; cases e
    | some d =>
      rw [e6] at e
      simp only at e
      obtain ⟨go, st⟩ := IR.go μ h H i d p tkb R e6
      refine .inr ⟨go, fun H' => ∃ μ2 h2 l2, HR K T μ2 h2 H' ∧ μ1 <+: μ2 ∧ TK0 K Hb H' ∧ TK K H1 H' ∧ SetHas Pg w D0 H' l2 ∧ loopN t.nx t.fin body m (i + 1) (.ds (l2.map .str)) h2 = some z, ?_, ?_⟩
      · rintro H' ⟨μ2, h2, l2, q1, q2, q3, q4, q5, q6⟩
        exact ⟨m, Nat.lt_succ_self m, μ2, h2, l2, by omega, q1, q2, q3, q4, q5, q6⟩
      · intro x H' y
        obtain ⟨rx, t2, R2⟩ := st x H' y
        have rl' : SetHas Pg w D0 H' l := by
          obtain ⟨n, hn, e9⟩ := rl
          exact ⟨n, hn, t2.2 _ _ e9⟩
        cases e7 : body d (.ds (l.map .str)) h with
        | none => rw [e7] at e; cases e
        | some res =>
          rw [e7] at e
          refine ⟨μ, l, h, d, res, p, tkb.trans t2.1, tk.trans t2, R2, rl', rx, e7, fun l' h' μ' H'' er p2 t3 t4 R3 rl3 => ?_, fun _ _ _ => trivial, fun b h' er => ?_⟩
          · subst er
            exact ⟨μ', h', l', R3, p.trans p2, (tkb.trans t2.1).trans t3, t4, rl3, e⟩
          · subst er
            exact (Option.some.inj e).symm
theorem ssc_of {own own1 : List Nat} {t t1 : Tg} {i i1 : MI} {c c1 e v : ME} (hv : v = .omit) (hix : ∀ j ∈ t.ix, j ∈ own) (hix1 : ∀ j ∈ t1.ix, j ∈ own1) (q : tI K T (fun σ h => (evC cl .sset own (.more t i c own1 (.one t1 i1 c1 e v)) σ h).bind fun r => sscD r.1 r.2) σ H Q) :
    tSc2 Pg w (tIt K T (evI cl i)) (tGd K t) (tBl K T (tst (evE cl c))) (tIt K T (evI cl i1)) (tGd K t1) (tBl K T (tst (evE cl c1))) (tI K T (evE cl e)) own own1 σ H
      (fun D0 H' => ∃ l, SetHas Pg w D0 H' l ∧ l.length < 63 ∧ ∀ p, H' p = none → Q (.ref p) (upd H' p (.lst ((srtS (onceS l)).map V.str)))) := by
  subst hv
  obtain ⟨μ, h, σd, r, R, S, e0, o⟩ := q
  obtain ⟨rc, ec, es⟩ := Option.bind_eq_some_iff.mp e0
  simp only [evC] at ec
  obtain ⟨r0, e1, e2⟩ := Option.bind_eq_some_iff.mp ec
  obtain ⟨z, e3, e4⟩ := Option.bind_eq_some_iff.mp e2
  refine ⟨μ, h, σd, r0, R, S, e1, fun μ1 H1 J p t1' R1 IR D0 hD => ?_⟩
  have st0 : SetHas Pg w D0 (upd H1 D0 (SetSO Pg w D0 (fun _ => false) 0)) [] := ⟨0, Nat.le_refl _, by rw [upd_same]; rfl⟩
  have tn := TK.newT (K := K) (ob := SetSO Pg w D0 (fun _ => false) 0) hD
  obtain ⟨W, h0, hW⟩ := loop_own (l0 := []) (Pg := Pg) (w := w) IR e3 (R1.newE hD) tn.1 tn st0
  refine ⟨W, h0, fun i m H w0 => ?_⟩
  rcases hW i m H w0 with ⟨st, l, μ2, h2, ez, p2, tb2, t2, R2, hs⟩ | ⟨go, Nx, hNx, turn⟩
  · refine .inl ⟨st, l, hs, ?_⟩
    subst ez
    simp only [compEnd, Option.map_some, Option.some.injEq] at e4
    subst e4
    simp only [sscD] at es
    obtain ⟨l', f1, f2⟩ := Option.bind_eq_some_iff.mp es
    have em := strsOf_map f1
    have el : l = l' := by
      have inj : ∀ {a b : List Str}, a.map D.str = b.map D.str → a = b := fun {a} => by
        induction a with
        | nil => intro b hb; cases b <;> simp at hb; rfl
        | cons x a ih =>
          intro b hb
          cases b with
          | nil => simp at hb
          | cons y b =>
            simp only [List.map_cons, List.cons.injEq, D.str.injEq] at hb
            rw [hb.1, ih hb.2]
      exact inj em
    subst el
    simp only [Option.ite_none_right_eq_some, hnew, Option.some.injEq] at f2
    obtain ⟨hl, rfl⟩ := f2
    exact ⟨hl, (o.later (p.trans p2) (t1'.trans t2)).newL R2 (strs_rvs _)⟩
  · refine .inr ⟨go, Nx, hNx, fun x H' y => ?_⟩
    obtain ⟨μ2, l, h2, d, res, p2, tb2, t2, R2, hs, rx, e7, nx, _, br⟩ := turn x H' y
    have S2 := S.mono (p.trans p2) (t1'.trans t2)
    refine turn_of (T := T) (EMf := fun σ' h => evD cl .sset own1 r0.2.length (.one t1 i1 c1 e .omit) (.ds (l.map .str)) σ' h) (NOf := fun h => some (.inl (.ds (l.map .str)), h)) hix R2 rx S2 e7 ?_ ?_
    · intro μ3 H3 h3 σd3 σ3 p3 t3 R3 S3 e8
      simp only [evD] at e8
      obtain ⟨r1, e9, e10⟩ := Option.bind_eq_some_iff.mp e8
      refine ⟨μ3, h3, σd3, r1, R3, S3, e9, fun μ4 H4 J1 p4 t4 R4 IR1 => ?_⟩
      have hs4 : SetHas Pg w D0 H4 l := by
        obtain ⟨n, hn, e11⟩ := hs
        exact ⟨n, hn, (t3.trans t4).2 _ _ e11⟩
      obtain ⟨W1, w1, hW1⟩ := loop_own (H1 := H1) (l0 := l) (Pg := Pg) (w := w) IR1 e10 R4 TK0.refl (t2.trans (t3.trans t4)) hs4
      refine ⟨W1, w1, fun j m1 H5 w5 => ?_⟩
      rcases hW1 j m1 H5 w5 with ⟨st1, l1, μ5, h5, ez1, p5, tb5, t5, R5, hs5⟩ | ⟨go1, Nx1, hNx1, turn1⟩
      · exact .inl ⟨st1, nx l1 h5 μ5 H5 ez1 (p3.trans (p4.trans p5)) ((t3.trans t4).1.trans tb5) t5 R5 hs5⟩
      · refine .inr ⟨go1, Nx1, hNx1, fun x1 H6 y1 => ?_⟩
        obtain ⟨μ5, l1, h5, d1, res1, p5, tb5, t5, R5, hs5, rx1, e13, nx1, _, br1⟩ := turn1 x1 H6 y1
        have S5 := (S3.mono p4 t4).mono0 p5 tb5.1
        refine turn_of (T := T) (EMf := fun σ2 h => (evE cl e σ2 h).bind fun x => (evE cl .omit σ2 x.2).bind fun y => emit .sset r0.2.length x.1 y.1 (.ds (l1.map .str)) y.2) (NOf := fun h => some (.inl (.ds (l1.map .str)), h)) hix1 R5 rx1 S5 e13 ?_ ?_
        · intro μ6 H7 h7 σd7 σ7 p7 t7 R7 S7 e14
          obtain ⟨x8, e15, e16⟩ := Option.bind_eq_some_iff.mp e14
          obtain ⟨y8, e17, e16⟩ := Option.bind_eq_some_iff.mp e16
          cases e17
          refine ⟨μ6, h7, σd7, x8, R7, S7, e15, fun μ8 H8 v p8 t8 R8 rv => ?_⟩
          obtain ⟨x80, x81⟩ := x8
          cases x80 with
          | str zt =>
            cases rv
            simp only [emit, Option.ite_none_right_eq_some, Option.some.injEq] at e16
            obtain ⟨hl, rfl⟩ := e16
            obtain ⟨n, hn, e18⟩ := hs5
            have e19 := (t7.trans t8).2 _ _ e18
            have hl' : l1.length < 62 := by simpa using hl
            refine ⟨zt, _, n, rfl, e19, by have := few62; omega, ?_⟩
            refine nx1 (l1 ++ [zt]) x81 μ8 _ (by simp) (p7.trans p8) ((t7.trans t8).1.updE e19) ((t5.trans (t7.trans t8)).updE hD e19) (R8.updE e19) ⟨if decide (zt ∈ l1) = true then n else n + 1, ?_, ?_⟩
            · rw [List.length_append, List.length_singleton]
              split <;> omega
            · rw [upd_same]
              congr 2
              funext k
              simp [List.mem_append]
          | _ => cases e16
        · intro μ6 H7 h7 p7 t7 R7 e14
          cases e14
          obtain ⟨n, hn, e18⟩ := hs5
          exact nx1 l1 h7 μ6 H7 rfl p7 t7.1 (t5.trans t7) R7 ⟨n, hn, t7.2 _ _ e18⟩
    · intro μ3 H3 h3 p3 t3 R3 e8
      cases e8
      obtain ⟨n, hn, e18⟩ := hs
      exact nx l h3 μ3 H3 rfl p3 t3.1 (t2.trans t3) R3 ⟨n, hn, t3.2 _ _ e18⟩
end
section
variable {X : Cx} {T : List Addr} {cl : Nat → List D → HI → Rz}
theorem pe_ssc {elt tg iter tg1 iter1 : Expr} {ifs ifs1 : List Expr} {scope : Scope} {own : List (Str × Nat)} {vs1 : List Nat} {pos p pos2 : Pos} {ev : L2.TE} {wi wi1 : TI} {g g1 : TG} {tt tt1 : TT} {te : TE} (hc : X.calm = true) (hg0 : Gl X "sorted") (hm0 : X.mg "sorted" = none) (hv0 : bootBuiltins "sorted" = some (.builtin "sorted") := by decide +kernel) (hN : X.N.Nodup) (hi : PI X tg iter wi) (ok : BlkOk X.N X.env.scope scope own) (hsub : ∀ i ∈ vs1, i ∈ own.map (·.2))
    (hg : ∀ (s : Shared) (H : Hp) (C : Addr) (cl : List (Str × Addr)) (fp : List Addr), PG (X.blk s H scope (compEnvC scope cl C X.env) fp) tg g)
    (ht : ∀ (s : Shared) (H : Hp) (C : Addr) (cl : List (Str × Addr)) (fp : List Addr), PTs (X.blk s H scope (compEnvC scope cl C X.env) fp) ifs tt)
    (hi1 : ∀ (s : Shared) (H : Hp) (C : Addr) (cl : List (Str × Addr)) (fp : List Addr), PI (X.blk s H scope (compEnvC scope cl C X.env) fp) tg1 iter1 wi1)
    (hg1 : ∀ (s : Shared) (H : Hp) (C : Addr) (cl : List (Str × Addr)) (fp : List Addr), PG (X.blk s H scope (compEnvC scope cl C X.env) fp) tg1 g1)
    (ht1 : ∀ (s : Shared) (H : Hp) (C : Addr) (cl : List (Str × Addr)) (fp : List Addr), PTs (X.blk s H scope (compEnvC scope cl C X.env) fp) ifs1 tt1)
    (he : ∀ (s : Shared) (H : Hp) (C : Addr) (cl : List (Str × Addr)) (fp : List Addr), PE (X.blk s H scope (compEnvC scope cl C X.env) fp) elt te)
    (hs : ∀ x, foldedSetIterable iter X.env x = pure x) (hs1 : ∀ env x, foldedSetIterable iter1 env x = pure x)
    (hev : ∀ σ H Q, ev σ H Q → tSc2 X.prog X.w wi g tt wi1 g1 tt1 te (own.map (·.2)) vs1 σ H (fun D0 H' => ∃ l, SetHas X.prog X.w D0 H' l ∧ l.length < 63 ∧ ∀ p, H' p = none → Q (.ref p) (upd H' p (.lst ((srtS (onceS l)).map V.str))))) :
    PE X (.Call (.Name "sorted" p) [sE elt tg iter tg1 iter1 ifs ifs1 scope pos2] [] pos) ev := by
  refine ⟨fun pins s σ H Q I q => ?_⟩
  refine wpAny_Call_Name_kw (ld_blt I hg0 hm0 hv0 ?_)
  refine PyProof.Rows.callWith_builtin1 ?_ rfl (by rfl)
  show wpAny _ _ (spliced ((false, eval (sE elt tg iter tg1 iter1 ifs ifs1 scope pos2) X.env) :: backTo pos (starEach [] X.env))) _ _ s
  refine Calls.spliced_cons (sc2_run hc hN I hi ok hsub hg ht hi1 hg1 ht1 he hs hs1 (hev σ H Q q) fun D0 s1 H1 I1 hq => Calls.spliced_nil ?_)
  obtain ⟨l, ⟨n, hn, hD⟩, hl, fin⟩ := hq
  have hS : SetSE X.prog X.w s1.heap D0 (fun k => decide (k ∈ l)) n := (I1.hok D0 _ hD).1
  refine sorted_setS hS (I1.ok.hd hc) (by omega) fun s' pa out c2 ys k1 g1' o1 hp hob hys hso hnd hmem hlen => ?_
  have hperm : ys.Perm (onceS l) := (List.perm_ext_iff_of_nodup hnd (once_nd l)).mpr fun k => by rw [hmem k, once_mem]; simp
  have ey := srt_unique hperm (sortedS_pw hso)
  have hna : H1 pa = none := I1.hok.fresh hp
  have ylen : ys.length ≤ sizeLine := by rw [hlen, sizeLine_eq]; omega
  subst ey
  have J := I1.call (ch := []) (Un.laid k1 hp hna) (I1.hok.laid k1 hp (o := .lst ((srtS (onceS l)).map V.str)) ⟨by rw [List.length_map]; exact ylen, out.toList, c2, vals_of_strs hys, by rw [Array.toArray_toList]; exact hob⟩) (g' := s'.gens) (by rw [g1']; exact I1.bare) (fun _ z => nomatch z) (d' := s'.drawn) (t' := s'.toks)
  have e : s' = { s1 with heap := s'.heap, gens := s'.gens, drawn := s'.drawn, toks := s'.toks } := by
    cases s'
    cases s1
    cases o1
    rfl
  rw [e]
  exact ⟨.ref pa, _, J, rfl, fin pa hna⟩
end
end MP
namespace MP
open PySem PySem.Spec PyProof.Rows L2
section
variable {K : PySem.W.Frag} {T : List Addr} {σ : L2.St} {H : Hp} {Q : VK} {cl : Nat → List D → HI → Rz}
theorem lc2_of {own own1 : List Nat} {t t1 : Tg} {i i1 : MI} {c c1 e v : ME} (hv : v = .omit) (hix : ∀ j ∈ t.ix, j ∈ own) (hix1 : ∀ j ∈ t1.ix, j ∈ own1) (q : tI K T (evC cl .lst own (.more t i c own1 (.one t1 i1 c1 e v))) σ H Q) :
    tLc2 (tIt K T (evI cl i)) (tGd K t) (tBl K T (tst (evE cl c))) (tIt K T (evI cl i1)) (tGd K t1) (tBl K T (tst (evE cl c1))) (tI K T (evE cl e)) own own1 σ H Q := by
  subst hv
  obtain ⟨μ, h, σd, r, R, S, e0, o⟩ := q
  simp only [evC] at e0
  obtain ⟨r0, e1, e2⟩ := Option.bind_eq_some_iff.mp e0
  obtain ⟨z, e3, e4⟩ := Option.bind_eq_some_iff.mp e2
  refine ⟨μ, h, σd, r0, R, S, e1, fun μ1 H1 J p t1' R1 IR => ?_⟩
  intro L hL
  have pre1 : μ1 <+: μ1 ++ [L] := List.prefix_append ..
  have R1' : HR K T (μ1 ++ [L]) (r0.2 ++ [.lst []]) (upd H1 L (.lst [])) := R1.new hL ⟨[], upd_same, .nil⟩
  have gL : (μ1 ++ [L])[r0.2.length]? = some L := by
    rw [← R1.len, List.getElem?_append_right (Nat.le_refl _)]; simp
  have tL := TK.newT (K := K) (ob := .lst []) hL
  obtain ⟨W, h0, hW⟩ := loop_gen (κ := Unit) (k0 := ()) (fun _ _ _ _ _ => True) (IR.later pre1 tL) e3 R1' True.intro
  refine ⟨fun i m H => W i m () H, h0, fun i m H w => ?_⟩
  rcases hW i m () H w with ⟨st, a, μ2, h2, ez, p2, t2, R2, _⟩ | ⟨go, Nx, hNx, turn⟩
  · refine .inl ⟨st, ?_⟩
    subst ez
    simp only [compEnd, Option.map_some, Option.some.injEq] at e4
    subst e4
    exact o μ2 H _ (p.trans (pre1.trans p2)) (t1'.trans (tL.trans t2)) R2 (.ref (pre_get p2 gL))
  · refine .inr ⟨go, fun H' => Nx () H', fun H' n => hNx () H' n, fun x H' y => ?_⟩
    obtain ⟨μ2, a, h2, d, res, p2, t2, _, R2, _, rx, e7, nx, _⟩ := turn x H' y
    have S2 := S.mono (p.trans (pre1.trans p2)) (t1'.trans (tL.trans t2))
    refine turn_of (T := T) (EMf := fun σ' h => evD cl .lst own1 r0.2.length (.one t1 i1 c1 e .omit) a σ' h) (NOf := fun h => some (.inl a, h)) hix R2 rx S2 e7 ?_ ?_
    · intro μ3 H3 h3 σd3 σ3 p3 t3 R3 S3 e8
      simp only [evD] at e8
      obtain ⟨r1, f1, f2⟩ := Option.bind_eq_some_iff.mp e8
      refine ⟨μ3, h3, σd3, r1, R3, S3, f1, fun μ4 H4 J1 p4 t4 R4 IR1 => ?_⟩
      obtain ⟨W1, h01, hW1⟩ := loop_gen (κ := Unit) (k0 := ()) (fun _ _ _ _ _ => True) IR1 f2 R4 True.intro
      refine ⟨fun i m H => W1 i m () H, h01, fun j k H5 w1 => ?_⟩
      rcases hW1 j k () H5 w1 with ⟨st, a5, μ5, h5, ez, p5, t5, R5, _⟩ | ⟨go1, Nx1, hNx1, turn1⟩
      · exact .inl ⟨st, nx _ _ μ5 _ () ez ((p3.trans p4).trans p5) ((t3.trans t4).trans t5) R5 True.intro⟩
      · refine .inr ⟨go1, fun H' => Nx1 () H', fun H' n => hNx1 () H' n, fun x5 H5' y5 => ?_⟩
        obtain ⟨μ5, a5, h5, d5, res5, p5, t5, _, R5, _, rx5, e75, nx5, _⟩ := turn1 x5 H5' y5
        have S5 := S3.mono (p4.trans p5) (t4.trans t5)
        refine turn_of (T := T) (EMf := fun σ' h => (evE cl e σ' h).bind fun x => (evE cl .omit σ' x.2).bind fun y => emit .lst r0.2.length x.1 y.1 a5 y.2) (NOf := fun h => some (.inl a5, h)) hix1 R5 rx5 S5 e75 ?_ ?_
        · intro μ6 H6 h6 σd6 σ6 p6 t6 R6 S6 e86
          obtain ⟨x8, e8, e9⟩ := Option.bind_eq_some_iff.mp e86
          obtain ⟨y8, e10, e9⟩ := Option.bind_eq_some_iff.mp e9
          cases e10
          refine ⟨μ6, h6, σd6, x8, R6, S6, e8, fun μ7 H7 v p7 t7 R7 rv => ?_⟩
          simp only [emit] at e9
          split at e9
          · rename_i ds hn
            simp only [Option.ite_none_right_eq_some, Option.some.injEq] at e9
            obtain ⟨hl, rfl⟩ := e9
            have eL := pre_get (((((p2.trans p3).trans p4).trans p5).trans p6).trans p7) gL
            obtain ⟨acc, hA, rs⟩ := R7.of eL hn
            have w : Wr H7 L := ⟨_, hA, .inl ⟨_, rfl⟩⟩
            have pr := List.prefix_refl μ7
            exact ⟨acc, hA, by rw [← big_eq, ← rs.length]; exact hl, nx5 _ _ μ7 _ () rfl (p6.trans p7) ((t6.trans t7).trans (TK.updW w)) (R7.set eL hn rfl rfl ⟨_, upd_same, (rs.mono pr (TK.updW w)).append (.cons (rv.mono pr (TK.updW w)) .nil)⟩) True.intro⟩
          · cases e9
        · intro μ6 H6 h6 p6 t6 R6 e8
          cases e8
          exact nx5 _ _ μ6 _ () rfl p6 t6 R6 True.intro
    · intro μ3 H3 h3 p3 t3 R3 e8
      cases e8
      exact nx _ _ μ3 _ () rfl p3 t3 R3 True.intro
end
section
variable (K : PySem.W.Frag) (T : List Addr)
def FlR (μ : List Addr) (H : Hp) (D : Ends) : Fl → Prop
  | .nx σd => ∀ σ, SR K μ H σd σ → D.nx σ H
  | .brk σd => ∀ σ, SR K μ H σd σ → D.bk σ H
  | .ct σd => ∀ σ, SR K μ H σd σ → D.ct σ H
  | .rt d => ∀ v, RV K μ H d v → D.rt v H
def OkF (μ : List Addr) (H : Hp) (r : Fl × HI) (D : Ends) : Prop := ∀ μ' H', μ <+: μ' → TK K H H' → HR K T μ' r.2 H' → FlR K μ' H' D r.1
def tSt (ev : MP.St → HI → Option (Fl × HI)) : TS := fun D σ H => ∃ μ h σd r, HR K T μ h H ∧ SR K μ H σd σ ∧ ev σd h = some r ∧ OkF K T μ H r D
end
section
variable {K : PySem.W.Frag} {T : List Addr} {μ : List Addr} {σ : L2.St} {H : Hp} {Z : Ends} {cl : Nat → List D → HI → Rz} {wf : Nat}
theorem OkF.later {μ1 : List Addr} {H1 : Hp} {r : Fl × HI} (q : OkF K T μ H r Z) (p : μ <+: μ1) (t : TK K H H1) : OkF K T μ1 H1 r Z := fun μ' H' p' t' R => q μ' H' (p.trans p') (t.trans t') R
theorem OkF.here {r : Fl × HI} (q : OkF K T μ H r Z) (R : HR K T μ r.2 H) : FlR K μ H Z r.1 := q μ H (List.prefix_refl _) TK.refl R
theorem st_asg {t : Tg} {e : ME} (q : tSt K T (evS cl wf (.asg t e)) Z σ H) : tAsg (tI K T (evE cl e)) (tGd K t) Z σ H := by
  obtain ⟨μ, h, σd, r, R, S, e0, o⟩ := q
  simp only [evS] at e0
  obtain ⟨ra, e1, e2⟩ := Option.bind_eq_some_iff.mp e0
  obtain ⟨σ', e3, rfl⟩ := Option.map_eq_some_iff.mp e2
  exact ⟨μ, h, σd, ra, R, S, e1, fun μ1 H1 x p t R1 rx => ⟨μ1, ra.1, σd, σ', rx, S.mono p t, e3, fun σ1 S1 _ => (o.later p t).here R1 σ1 S1⟩⟩
theorem st_par {i j : Nat} {a b : ME} (q : tSt K T (evS cl wf (.par i j a b)) Z σ H) : tPar i j (tCons (tI K T (evE cl a)) (tCons (tI K T (evE cl b)) tNil)) Z σ H := by
  obtain ⟨μ, h, σd, r, R, S, e0, o⟩ := q
  simp only [evS] at e0
  obtain ⟨ra, e1, e2⟩ := Option.bind_eq_some_iff.mp e0
  obtain ⟨rb, e3, e4⟩ := Option.bind_eq_some_iff.mp e2
  simp only [Option.ite_none_right_eq_some, Option.some.injEq] at e4
  obtain ⟨_, rfl⟩ := e4
  exact ⟨μ, h, σd, ra, R, S, e1, fun μ1 H1 x p t R1 rx => ⟨μ1, ra.2, σd, rb, R1, S.mono p t, e3, fun μ2 H2 y p2 t2 R2 ry =>
    ⟨x, y, rfl, (o.later (p.trans p2) (t.trans t2)).here R2 _ ((((S.mono p t).mono p2 t2).set i (rx.mono p2 t2)).set j ry)⟩⟩⟩
theorem st_sub {a i e : ME} (q : tSt K T (evS cl wf (.sub a i e)) Z σ H) : tAsg (tI K T (evE cl e)) (gSub (tI K T (evE cl a)) (tI K T (evE cl i)) (rV3 K T)) Z σ H := by
  obtain ⟨μ, h, σd, r, R, S, e0, o⟩ := q
  simp only [evS] at e0
  obtain ⟨ra, e1, e2⟩ := Option.bind_eq_some_iff.mp e0
  obtain ⟨rb, e3, e4⟩ := Option.bind_eq_some_iff.mp e2
  obtain ⟨rc, e5, e6⟩ := Option.bind_eq_some_iff.mp e4
  obtain ⟨h', e7, rfl⟩ := Option.map_eq_some_iff.mp e6
  refine ⟨μ, h, σd, ra, R, S, e1, fun μ1 H1 x p t R1 rx => ⟨μ1, ra.2, σd, rb, R1, S.mono p t, e3, fun μ2 H2 y p2 t2 R2 ry => ⟨μ2, rb.2, σd, rc, R2, (S.mono p t).mono p2 t2, e5, fun μ3 H3 z p3 t3 R3 rz => ?_⟩⟩⟩
  refine ⟨μ3, rc.2, rb.1, rc.1, ra.1, h', R3, ry.mono p3 t3, rz, (rx.mono p2 t2).mono p3 t3, e7, fun H4 t4 R4 => ?_⟩
  exact (o.later ((p.trans p2).trans p3) (((t.trans t2).trans t3).trans t4)).here R4 σ ((((S.mono p t).mono p2 t2).mono p3 t3).mono (List.prefix_refl _) t4)
theorem st_expr {e : ME} (q : tSt K T (evS cl wf (.expr e)) Z σ H) : tDrop (tI K T (evE cl e)) Z σ H := by
  obtain ⟨μ, h, σd, r, R, S, e0, o⟩ := q
  simp only [evS] at e0
  obtain ⟨ra, e1, rfl⟩ := Option.map_eq_some_iff.mp e0
  exact ⟨μ, h, σd, ra, R, S, e1, fun μ1 H1 x p t R1 rx => (o.later p t).here R1 σ (S.mono p t)⟩
theorem st_ret {e : ME} (q : tSt K T (evS cl wf (.ret e)) Z σ H) : tRet (tI K T (evE cl e)) Z σ H := by
  obtain ⟨μ, h, σd, r, R, S, e0, o⟩ := q
  simp only [evS] at e0
  obtain ⟨ra, e1, rfl⟩ := Option.map_eq_some_iff.mp e0
  exact ⟨μ, h, σd, ra, R, S, e1, fun μ1 H1 x p t R1 rx => (o.later p t).here R1 x rx⟩
theorem st_retN (q : tSt K T (evS cl wf .retN) Z σ H) : tRetN Z σ H := by
  obtain ⟨μ, h, σd, r, R, S, e0, o⟩ := q
  cases e0
  exact o.here R .non .non
theorem st_pass (q : tSt K T (evS cl wf .pass) Z σ H) : tNext Z σ H := by
  obtain ⟨μ, h, σd, r, R, S, e0, o⟩ := q
  cases e0
  exact o.here R σ S
theorem st_brk (q : tSt K T (evS cl wf .brk) Z σ H) : tBreak Z σ H := by
  obtain ⟨μ, h, σd, r, R, S, e0, o⟩ := q
  cases e0
  exact o.here R σ S
theorem st_cont (q : tSt K T (evS cl wf .cont) Z σ H) : tCont Z σ H := by
  obtain ⟨μ, h, σd, r, R, S, e0, o⟩ := q
  cases e0
  exact o.here R σ S
theorem st_nil (q : tSt K T (evSs cl wf .nil) Z σ H) : tNext Z σ H := by
  obtain ⟨μ, h, σd, r, R, S, e0, o⟩ := q
  cases e0
  exact o.here R σ S
theorem st_cons {s : MS} {r : MSs} (q : tSt K T (evSs cl wf (.cons s r)) Z σ H) : tSeq (tSt K T (evS cl wf s)) (tSt K T (evSs cl wf r)) Z σ H := by
  obtain ⟨μ, h, σd, z, R, S, e0, o⟩ := q
  simp only [evSs] at e0
  split at e0
  · rename_i σ' h' e1
    exact ⟨μ, h, σd, _, R, S, e1, fun μ1 H1 p t R1 σ1 S1 => ⟨μ1, h', σ', z, R1, S1, e0, o.later p t⟩⟩
  · rename_i hx
    refine ⟨μ, h, σd, z, R, S, e0, fun μ1 H1 p t R1 => ?_⟩
    have := (o.later p t).here R1
    obtain ⟨f, hz⟩ := z
    cases f with
    | nx σ' => exact absurd e0 (hx σ' hz)
    | brk _ => exact this
    | ct _ => exact this
    | rt _ => exact this
theorem st_ite {c : ME} {a b : MSs} (q : tSt K T (evS cl wf (.ite c a b)) Z σ H) : tIfS (tBl K T (tst (evE cl c))) (tSt K T (evSs cl wf a)) (tSt K T (evSs cl wf b)) Z σ H := by
  obtain ⟨μ, h, σd, r, R, S, e0, o⟩ := q
  simp only [evS] at e0
  obtain ⟨ra, e1, e2⟩ := Option.bind_eq_some_iff.mp e0
  refine ⟨μ, h, σd, ra, R, S, e1, fun μ1 H1 p t R1 => ?_⟩
  cases c : ra.1 with
  | true =>
    rw [c] at e2
    exact ⟨μ1, ra.2, σd, r, R1, S.mono p t, e2, o.later p t⟩
  | false =>
    rw [c] at e2
    exact ⟨μ1, ra.2, σd, r, R1, S.mono p t, e2, o.later p t⟩
theorem st_for {t : Tg} {i : MI} {b : MSs} (q : tSt K T (evS cl wf (.fr t i b)) Z σ H) : tFor (tIt K T (evI cl i)) (tGd K t) (tSt K T (evSs cl wf b)) Z σ H := by
  obtain ⟨μ, h, σd, r, R, S, e0, o⟩ := q
  simp only [evS] at e0
  obtain ⟨r0, e1, e2⟩ := Option.bind_eq_some_iff.mp e0
  obtain ⟨z, e3, rfl⟩ := Option.map_eq_some_iff.mp e2
  refine ⟨μ, h, σd, r0, R, S, e1, fun μ1 H1 J p t1 R1 IR => ?_⟩
  obtain ⟨W, h0, hW⟩ := loop_gen (κ := L2.St) (k0 := σ) (fun σ a μ h H => SR K μ H a σ) IR e3 R1 (S.mono p t1)
  refine ⟨W, h0, fun i m σ1 H w => ?_⟩
  rcases hW i m σ1 H w with ⟨st, a, μ2, h2, ez, p2, t2, R2, S2⟩ | ⟨go, Nx, hNx, turn⟩
  · refine .inl ⟨st, ?_⟩
    subst ez
    exact ((o.later p t1).later p2 t2).here R2 σ1 S2
  · refine .inr ⟨go, Nx, hNx, fun x H' y => ?_⟩
    obtain ⟨μ2, a, h2, d, res, p2, t2, th, R2, S2, rx, e7, nx, br⟩ := turn x H' y
    obtain ⟨σ3, f1, f2⟩ := Option.bind_eq_some_iff.mp e7
    obtain ⟨⟨fl, h3⟩, f3, rfl⟩ := Option.map_eq_some_iff.mp f2
    refine ⟨μ2, d, a, σ3, rx, S2.mono (List.prefix_refl _) th, f1, fun σ4 S4 _ => ⟨μ2, h2, σ3, _, R2, S4, f3, fun μ5 H5 p5 t5 R5 => ?_⟩⟩
    cases fl with
    | nx σ' => exact fun σ5 S5 => nx _ _ μ5 _ _ rfl p5 t5 R5 S5
    | ct σ' => exact fun σ5 S5 => nx _ _ μ5 _ _ rfl p5 t5 R5 S5
    | brk σ' =>
      intro σ5 S5
      have ez := br _ _ rfl
      subst ez
      exact (((o.later p t1).later p2 t2).later p5 t5).here R5 σ5 S5
    | rt d =>
      intro v rv
      have ez := br _ _ rfl
      subst ez
      exact (((o.later p t1).later p2 t2).later p5 t5).here R5 v rv
theorem st_whl {c : ME} {b : MSs} (q : tSt K T (evS cl wf (.whl c b)) Z σ H) : tWhile (tBl K T (tst (evE cl c))) (tSt K T (evSs cl wf b)) Z σ H := by
  obtain ⟨μ, h, σd, r, R, S, e0, o⟩ := q
  simp only [evS] at e0
  refine ⟨fun m σ H => ∃ μ1 h1 σd1, HR K T μ1 h1 H ∧ SR K μ1 H σd1 σ ∧ whileN (testE cl c) (evSs cl wf b) m σd1 h1 = some r ∧ OkF K T μ1 H r Z, ⟨wf, μ, h, σd, R, S, e0, o⟩, ?_⟩
  rintro m σ H ⟨μ1, h1, σd1, R1, S1, e1, o1⟩
  cases m with
  | zero => cases e1
  | succ m =>
    simp only [whileN] at e1
    cases c1 : testE cl c σd1 h1 with
    | none => rw [c1] at e1; cases e1
    | some tb =>
      rw [c1] at e1
      refine ⟨μ1, h1, σd1, tb, R1, S1, c1, fun μ2 H2 p2 t2 R2 => ?_⟩
      obtain ⟨bb, h2⟩ := tb
      cases bb with
      | false =>
        cases e1
        exact (o1.later p2 t2).here R2 σ (S1.mono p2 t2)
      | true =>
        simp only at e1
        refine ⟨fun σ' H' => ∃ μ3 h3 σd3, HR K T μ3 h3 H' ∧ SR K μ3 H' σd3 σ' ∧ whileN (testE cl c) (evSs cl wf b) m σd3 h3 = some r ∧ OkF K T μ3 H' r Z, fun σ' H' w => ⟨m, Nat.lt_succ_self m, w⟩, ?_⟩
        cases c2 : evSs cl wf b σd1 h2 with
        | none => rw [c2] at e1; cases e1
        | some fr =>
          rw [c2] at e1
          refine ⟨μ2, h2, σd1, fr, R2, S1.mono p2 t2, c2, fun μ3 H3 p3 t3 R3 => ?_⟩
          obtain ⟨fl, h3⟩ := fr
          have o3 := (o1.later p2 t2).later p3 t3
          cases fl with
          | nx σ' => exact fun σ5 S5 => ⟨μ3, h3, σ', R3, S5, e1, o3⟩
          | ct σ' => exact fun σ5 S5 => ⟨μ3, h3, σ', R3, S5, e1, o3⟩
          | brk σ' =>
            cases e1
            exact fun σ5 S5 => o3.here R3 σ5 S5
          | rt d =>
            cases e1
            exact fun v rv => o3.here R3 v rv
theorem st_aug {i : Nat} {op : BOp} {e : ME} (q : tSt K T (evS cl wf (.aug i op e)) Z σ H) : tAug i (tI K T (evE cl e)) (rV2 K T (binD op)) Z σ H := by
  obtain ⟨μ, h, σd, r, R, S, e0, o⟩ := q
  simp only [evS] at e0
  split at e0
  · rename_i x hx
    obtain ⟨v, hv, rv⟩ := S.2 i x hx
    obtain ⟨ra, e1, e2⟩ := Option.bind_eq_some_iff.mp e0
    obtain ⟨rb, e3, rfl⟩ := Option.map_eq_some_iff.mp e2
    exact ⟨v, hv, μ, h, σd, ra, R, S, e1, fun μ1 H1 y p t R1 ry => ⟨μ1, ra.2, x, ra.1, rb, R1, rv.mono p t, ry, e3, fun μ2 H2 w p2 t2 R2 rw' => ((o.later p t).later p2 t2).here R2 _ (((S.mono p t).mono p2 t2).set i rw')⟩⟩
  · cases e0
end
end MP
namespace MP
open PySem PySem.Spec PyProof.Rows L2
mutual
def D.same : D → D → Bool
  | .non, .non => true
  | .bl a, .bl b => a == b
  | .int i, .int j => i == j
  | .str x, .str y => x == y
  | .tup xs, .tup ys => D.sames xs ys
  | .ref m, .ref n => m == n
  | _, _ => false
termination_by structural x => x
def D.sames : List D → List D → Bool
  | [], [] => true
  | x :: xs, y :: ys => D.same x y && D.sames xs ys
  | _, _ => false
termination_by structural x => x
end
mutual
theorem D.same_eq : ∀ {x y : D}, D.same x y = true → x = y
  | .non, y, h => by cases y <;> simp [D.same] at h; rfl
  | .bl a, y, h => by cases y <;> simp [D.same] at h; rw [h]
  | .int a, y, h => by cases y <;> simp [D.same] at h; rw [h]
  | .str a, y, h => by cases y <;> simp [D.same] at h; rw [h]
  | .tup a, y, h => by cases y <;> simp [D.same] at h; rw [D.sames_eq h]
  | .ref a, y, h => by cases y <;> simp [D.same] at h; rw [h]
theorem D.sames_eq : ∀ {x y : List D}, D.sames x y = true → x = y
  | [], y, h => by cases y <;> simp [D.sames] at h; rfl
  | a :: r, y, h => by
    cases y with
    | nil => simp [D.sames] at h
    | cons b s =>
      simp only [D.sames, Bool.and_eq_true] at h
      rw [D.same_eq h.1, D.sames_eq h.2]
end
structure GI where
  gl : List (Str × D)
  fs : List (Str × Nat)
  bn : List Str
  gd : List (Str × List (D × D)) := []
def kvSame : List (D × D) → List (D × D) → Bool
  | [], [] => true
  | p :: r, q :: s => D.same p.1 q.1 && D.same p.2 q.2 && kvSame r s
  | _, _ => false
theorem kvSame_eq : ∀ {x y : List (D × D)}, kvSame x y = true → x = y
  | [], y, h => by cases y <;> simp [kvSame] at h; rfl
  | p :: r, y, h => by
    cases y with
    | nil => simp [kvSame] at h
    | cons q s =>
      simp only [kvSame, Bool.and_eq_true] at h
      rw [kvSame_eq h.2, show p = q from Prod.ext (D.same_eq h.1.1) (D.same_eq h.1.2)]
structure SC where
  N : List Str
  sc : Scope
  top : Bool
def visB (sc : Scope) (x : Str) : Bool := sc.names.lookup x == some .local || sc.names.lookup x == some .cell || sc.names.lookup x == some .free
def gloB (sc : Scope) (x : Str) : Bool := sc.names.lookup x == some .globalImplicit && !(x == ("__debug__" : Str)) && !(x == ("__name__" : Str))
def SC.put (S : SC) (i : Nat) (x : Str) : Bool := S.N[i]? == some x && (S.sc.names.lookup x == some .local || (S.top && S.sc.names.lookup x == some .cell))
def noStar : Expr → Bool
  | .Starred .. => false
  | _ => true
def noBase : Expr → Bool
  | .Call (.Name _ _) [] [] _ => false
  | _ => true
def noSlice : Expr → Bool
  | .Slice .. => false
  | _ => true
def noSet : Expr → Bool
  | .Set .. => false
  | _ => true
def noFold : Expr → Bool
  | .Set .. => false
  | .List .. => false
  | _ => true
def noComp : Expr → Bool
  | .ListComp .. => false
  | .SetComp .. => false
  | .DictComp .. => false
  | _ => true
def noTup : Expr → Bool
  | .Tuple .. => false
  | _ => true
def isTup : Expr → Bool
  | .Tuple .. => true
  | _ => false
def okT : Expr → Bool
  | .IfExp .. => false
  | _ => true
def blkB (N : List Str) (sc scope : Scope) (own : List (Str × Nat)) : Bool :=
  decide (scope.kind = .function) && decide (∀ y ∈ scope.names, scope.names.lookup y.1 = some y.2) && decide (∀ p ∈ own, N[p.2]? = some p.1)
  && decide (∀ y ∈ scope.names, y.2 = .free → sc.names.lookup y.1 = some .cell ∨ sc.names.lookup y.1 = some .free)
  && decide (∀ y ∈ scope.names, y.2 = .local ∨ y.2 = .cell → y.1 ∈ own.map (·.1) ∨ y.1 ∉ N)
def genB (N : List Str) (sc scope : Scope) (own : List (Str × Nat)) : Bool :=
  decide (scope.isCoroutine = false) && decide (∀ y ∈ scope.names, y.2 ≠ .cell) && decide (scope.names.lookup (".0" : Str) = some .local) && blkB N sc scope own
theorem blkB_ok {N : List Str} {sc scope : Scope} {own : List (Str × Nat)} (h : blkB N sc scope own = true) : BlkOk N sc scope own := by
  simp only [blkB, Bool.and_eq_true, decide_eq_true_eq] at h
  exact ⟨h.1.1.1.1, h.1.1.1.2, h.1.1.2, h.1.2, h.2⟩
theorem genB_ok {N : List Str} {sc scope : Scope} {own : List (Str × Nat)} (h : genB N sc scope own = true) : GenSc N sc scope own := by
  simp only [genB, Bool.and_eq_true, decide_eq_true_eq] at h
  have b := blkB_ok h.2
  exact ⟨b.kind, h.1.1.1, h.1.1.2, h.1.2, b.uniq, b.ix, b.free, fun y hy e => b.own y hy (.inl e)⟩
def ownOf (N : List Str) (own : List Nat) : List (Str × Nat) := own.map fun i => (N.getD i "", i)
theorem ownOf_ix (N : List Str) (own : List Nat) : (ownOf N own).map (·.2) = own := by
  unfold ownOf
  rw [List.map_map]
  exact List.map_id' own
def subset (a b : List Nat) : Bool := decide (∀ i ∈ a, i ∈ b)
mutual
def chkT (S : SC) : Tg → Expr → Bool
  | .nm i, .Name x _ => S.put i x
  | .tp ts, .Tuple es _ _ => chkTs S ts es
  | _, _ => false
def chkTs (S : SC) : Tgs → List Expr → Bool
  | .nil, [] => true
  | .cons t ts, e :: es => noStar e && chkT S t e && chkTs S ts es
  | _, _ => false
end
def bltB (G : GI) (S : SC) (x : Str) (b : String) : Bool := x == (Str.ofString b) && gloB S.sc x && G.bn.contains x
def constB : D → Const → Bool
  | .non, .none => true
  | .bl a, .bool b => a == b
  | .int i, .int j => i == j
  | .str x, .str y => x == y
  | _, _ => false
def mthName : Mth → Str
  | .append => "append" | .extend => "extend" | .pop => "pop" | .get => "get"
def bltName : Blt → String
  | .len => "len" | .int => "int" | .str => "str" | .list => "list" | .tuple => "tuple" | .isi _ => "isinstance" | .srt => "sorted" | .dict => "dict"
def noIsi : Blt → Bool
  | .isi _ => false
  | _ => true
def isLck : ME → Bool
  | .lck _ _ => true
  | _ => false
def isYes : ME → Bool
  | .cst (.bl b) => b
  | _ => false
def nxt (o : BoolOp) (y : Expr) (r : List Expr) (pos : Pos) : Expr := if r.isEmpty then y else .BoolOp o (y :: r) pos
def chkPart (f : Expr → Bool) (lo : ME) : Option Expr → Bool
  | none => isOmit lo
  | some l => !isOmit lo && f l
def chkIfs (f : Expr → Bool) (c : ME) : List Expr → Bool
  | [] => isYes c
  | [e] => okT e && f e
  | _ => false
def fnB (G : GI) (f : Nat) (x : Str) (k : Nat) : Bool := match G.fs[f]? with
  | some p => p.1 == x && p.2 == k
  | none => false
def genK (G : GI) (S : SC) (x : Str) : CK → Bool
  | .gtup => bltB G S x "tuple"
  | .gall => bltB G S x "all"
  | .gany => bltB G S x "any"
  | _ => false
def gdB (G : GI) (S : SC) (x : Str) (kvs : List (D × D)) : Bool := gloB S.sc x && G.gd.any fun p => p.1 == x && kvSame p.2 kvs
def allAny : CK → Bool
  | .gall => true
  | .gany => true
  | _ => false
def revOf : Expr → Option Expr
  | .Subscript x (.Slice none none (some (.UnaryOp .USub (.Constant (.int 1) _ _) _)) _) _ => some x
  | _ => none
theorem revOf_eq {e x : Expr} (h : revOf e = some x) : ∃ j p1 p2 p3 pos, e = .Subscript x (.Slice none none (some (.UnaryOp .USub (.Constant (.int 1) j p1) p2)) p3) pos := by
  unfold revOf at h
  split at h
  · cases h
    exact ⟨_, _, _, _, _, rfl⟩
  · cases h
structure View where
  x : Str := ""
  y : Str := ""
  o1 : CmpOp := .Eq
  o2 : CmpOp := .Eq
  a : Expr
  b : Expr
  c : Expr
def chnOf : Expr → Option View
  | .Compare x [p1, p2] [y, z] _ => some { o1 := p1, o2 := p2, a := x, b := y, c := z }
  | _ => none
theorem chnOf_eq {e : Expr} {v : View} (h : chnOf e = some v) : ∃ pos, e = .Compare v.a [v.o1, v.o2] [v.b, v.c] pos := by
  unfold chnOf at h
  split at h
  · cases h
    exact ⟨_, rfl⟩
  · cases h
def gixOf : Expr → Option View
  | .Subscript (.Name x _) y _ => some { x := x, a := y, b := y, c := y }
  | _ => none
theorem gixOf_eq {e : Expr} {v : View} (h : gixOf e = some v) : ∃ p0 pos, e = .Subscript (.Name v.x p0) v.a pos := by
  unfold gixOf at h
  split at h
  · cases h
    exact ⟨_, _, rfl⟩
  · cases h
def ginOf : Expr → Option View
  | .Compare e [op] [.Name x _] _ => some { x := x, o1 := op, a := e, b := e, c := e }
  | _ => none
theorem ginOf_eq {e : Expr} {v : View} (h : ginOf e = some v) : ∃ p0 pos, e = .Compare v.a [v.o1] [.Name v.x p0] pos := by
  unfold ginOf at h
  split at h
  · cases h
    exact ⟨_, _, rfl⟩
  · cases h
def drgOf : Expr → Option View
  | .Call (.Name x _) [.Call (.Name y _) [e] [] _] [] _ => some { x := x, y := y, a := e, b := e, c := e }
  | _ => none
theorem drgOf_eq {e : Expr} {v : View} (h : drgOf e = some v) : ∃ nm p2 pos2 pos, e = .Call (.Name v.x nm) [.Call (.Name v.y p2) [v.a] [] pos2] [] pos := by
  unfold drgOf at h
  split at h
  · cases h
    exact ⟨_, _, _, _, rfl⟩
  · cases h
def dstOf : Expr → Option View
  | .Dict [none, some ek] [ea, ev] _ => some { a := ea, b := ek, c := ev }
  | _ => none
theorem dstOf_eq {e : Expr} {v : View} (h : dstOf e = some v) : ∃ pos, e = .Dict [none, some v.b] [v.a, v.c] pos := by
  unfold dstOf at h
  split at h
  · cases h
    exact ⟨_, rfl⟩
  · cases h
structure TwoC where
  x : Str
  elt : Expr
  c0 : Comprehension
  c1 : Comprehension
  scope : Scope
def scOf : Expr → Option TwoC
  | .Call (.Name x _) [.SetComp elt [c0, c1] scope _] [] _ => some ⟨x, elt, c0, c1, scope⟩
  | _ => none
theorem scOf_eq {e : Expr} {t : TwoC} (h : scOf e = some t) : ∃ nm pos2 pos, e = .Call (.Name t.x nm) [.SetComp t.elt [t.c0, t.c1] t.scope pos2] [] pos := by
  unfold scOf at h
  split at h
  · cases h
    exact ⟨_, _, _, rfl⟩
  · cases h
def gnOf : Expr → Option TwoC
  | .Call (.Name x _) [.GeneratorExp elt [c0, c1] scope _] [] _ => some ⟨x, elt, c0, c1, scope⟩
  | _ => none
theorem gnOf_eq {e : Expr} {t : TwoC} (h : gnOf e = some t) : ∃ nm pos2 pos, e = .Call (.Name t.x nm) [.GeneratorExp t.elt [t.c0, t.c1] t.scope pos2] [] pos := by
  unfold gnOf at h
  split at h
  · cases h
    exact ⟨_, _, _, rfl⟩
  · cases h
section
variable (G : GI)
mutual
def chkE (S : SC) (n : Nat) : ME → Expr → Bool
  | .var i, .Name x _ => S.N[i]? == some x && visB S.sc x && !(x == ("__debug__" : Str)) && !(x == ("__classdict__" : Str))
  | .cst d, .Constant c _ _ => constB d c
  | .glb d, .Name x _ => gloB S.sc x && G.gl.any fun p => p.1 == x && D.same p.2 d
  | .tup es, .Tuple l _ _ => chkEs S n es l
  | .lst es, .List l _ => chkEs S n es l
  | .dnew, .Dict [] [] _ => true
  | .bin op a b, .BinOp x o y _ => decide (o = opOf op) && chkE S n a x && chkE S n b y
  | .neg a, .UnaryOp .USub x _ => chkE S n a x
  | .cmp op a b, .Compare x [o] [y] _ => decide (o = cmpOf op) && chkE S n a x && chkE S n b y && noSet y
  | .and a b, .BoolOp .And (x :: y :: r) pos => okT x && chkE S n a x && (!r.isEmpty || okT y) && chkE S n b (nxt .And y r pos)
  | .or a b, .BoolOp .Or (x :: y :: r) pos => okT x && chkE S n a x && (!r.isEmpty || okT y) && chkE S n b (nxt .Or y r pos)
  | .not a, .UnaryOp .Not x _ => okT x && chkE S n a x
  | .ife c a b, .IfExp x y z _ => okT x && chkE S n c x && chkE S n a y && chkE S n b z
  | .idx a i, .Subscript x y _ => noSlice y && chkE S n a x && chkE S n i y
  | .slc a lo hi, .Subscript x (.Slice l u none _) _ => chkE S n a x && chkPart (fun l => chkE S n lo l) lo l && chkPart (fun u => chkE S n hi u) hi u
  | .call f es, .Call (.Name x _) l [] _ => gloB S.sc x && fnB G f x l.length && !l.isEmpty && chkEs S n es l
  | .blt b es, .Call (.Name x _) l [] _ => bltB G S x (bltName b) && noIsi b && !l.isEmpty && chkEs S n es l
  | .lck _ a, .ListComp elt gs scope pos => chkE S n a (.ListComp elt gs scope pos)
  | .sst a, .Call (.Name x _) [.Call (.Name y _) [e] [] _] [] _ => bltB G S x "sorted" && bltB G S y "set" && noStar e && chkE S n a e
  | .isi t m, .Call (.Name x _) [e, .Name y _] [] _ => bltB G S x "isinstance" && bltB G S y (tyName t) && noStar e && chkE S n m e
  | .mth m o es, .Call (.Attribute x a apos) l [] cpos => decide (a = mthName m) && noBase x && apos.endLine == cpos.line && decide (l.length < 29) && chkE S n o x && chkEs S n es l
  | .comp .lst own (.one t i c e v), .ListComp elt [⟨tg, iter, ifs, as⟩] scope _ => as == 0 && blkB S.N S.sc scope (ownOf S.N own) && chkI S n i tg iter && noSet iter && chkT ⟨S.N, relS scope S.sc, false⟩ t tg && subset t.ix own
      && chkIfs (fun f => chkE ⟨S.N, relS scope S.sc, false⟩ n c f) c ifs && chkE ⟨S.N, relS scope S.sc, false⟩ n e elt && isOmit v
  | .comp .lst own (.more t i c own1 (.one t1 i1 c1 e v)), .ListComp elt [⟨tg, iter, ifs, as⟩, ⟨tg1, iter1, ifs1, as1⟩] scope _ => as == 0 && as1 == 0 && blkB S.N S.sc scope (ownOf S.N own) && subset own1 own && chkI S n i tg iter && noSet iter && chkT ⟨S.N, relS scope S.sc, false⟩ t tg && subset t.ix own
      && chkIfs (fun f => chkE ⟨S.N, relS scope S.sc, false⟩ n c f) c ifs && chkI ⟨S.N, relS scope S.sc, false⟩ n i1 tg1 iter1 && noSet iter1 && chkT ⟨S.N, relS scope S.sc, false⟩ t1 tg1 && subset t1.ix own1
      && chkIfs (fun f => chkE ⟨S.N, relS scope S.sc, false⟩ n c1 f) c1 ifs1 && chkE ⟨S.N, relS scope S.sc, false⟩ n e elt && isOmit v
  | .comp .dct own (.one t i c e v), .DictComp key val [⟨tg, iter, ifs, as⟩] scope _ => as == 0 && blkB S.N S.sc scope (ownOf S.N own) && chkI S n i tg iter && noSet iter && chkT ⟨S.N, relS scope S.sc, false⟩ t tg && subset t.ix own
      && chkIfs (fun f => chkE ⟨S.N, relS scope S.sc, false⟩ n c f) c ifs && chkE ⟨S.N, relS scope S.sc, false⟩ n e key && chkE ⟨S.N, relS scope S.sc, false⟩ n v val
  | .comp k own (.one t i c e v), .Call (.Name x _) [.GeneratorExp elt [⟨tg, iter, ifs, as⟩] scope _] [] _ => as == 0 && genK G S x k && n == 1
      && genB S.N S.sc scope (ownOf S.N own) && chkI S n i tg iter && noFold iter && chkT ⟨S.N, scope, false⟩ t tg && subset t.ix own
      && chkIfs (fun f => chkE ⟨S.N, scope, false⟩ 0 c f) c ifs && chkE ⟨S.N, scope, false⟩ 0 e elt && isOmit v
  | .x m, e => chkX S n m e
  | _, _ => false
def chkX (S : SC) (n : Nat) : MX → Expr → Bool
  | .gn2 k own (.more t i c own1 (.one t1 i1 c1 e v)), ex => match gnOf ex with
    | some y => y.c0.is_async == 0 && y.c1.is_async == 0 && genK G S y.x k && allAny k && n == 1
      && genB S.N S.sc y.scope (ownOf S.N own) && subset own1 own && chkI S n i y.c0.target y.c0.iter && noFold y.c0.iter && chkT ⟨S.N, y.scope, false⟩ t y.c0.target && subset t.ix own
      && chkIfs (fun f => chkE ⟨S.N, y.scope, false⟩ 0 c f) c y.c0.ifs && chkI ⟨S.N, y.scope, false⟩ 0 i1 y.c1.target y.c1.iter && noSet y.c1.iter && chkT ⟨S.N, y.scope, false⟩ t1 y.c1.target && subset t1.ix own1
      && chkIfs (fun f => chkE ⟨S.N, y.scope, false⟩ 0 c1 f) c1 y.c1.ifs && chkE ⟨S.N, y.scope, false⟩ 0 e y.elt && isOmit v
    | none => false
  | .chn o1 o2 a b c, ex => match chnOf ex with
    | some v => decide (v.o1 = cmpOf o1) && decide (v.o2 = cmpOf o2) && chkE S n a v.a && chkE S n b v.b && chkE S n c v.c && noSet v.c
    | none => false
  | .gix kvs m, ex => match gixOf ex with
    | some v => noSlice v.a && gdB G S v.x kvs && chkE S n m v.a
    | none => false
  | .gin neg kvs m, ex => match ginOf ex with
    | some v => decide (v.o1 = if neg then .NotIn else .In) && gdB G S v.x kvs && chkE S n m v.a
    | none => false
  | .drg a, ex => match drgOf ex with
    | some v => bltB G S v.x "list" && bltB G S v.y "range" && noStar v.a && chkE S n a v.a
    | none => false
  | .rev a, ex => match revOf ex with
    | some x => chkE S n a x
    | none => false
  | .dst a k v, ex => match dstOf ex with
    | some w => chkE S n a w.a && chkE S n k w.b && chkE S n v w.c
    | none => false
  | .ssc own (.more t i c own1 (.one t1 i1 c1 e v)), ex => match scOf ex with
    | some y => y.c0.is_async == 0 && y.c1.is_async == 0 && bltB G S y.x "sorted" && blkB S.N S.sc y.scope (ownOf S.N own) && subset own1 own && chkI S n i y.c0.target y.c0.iter && noSet y.c0.iter && chkT ⟨S.N, relS y.scope S.sc, false⟩ t y.c0.target && subset t.ix own
      && chkIfs (fun f => chkE ⟨S.N, relS y.scope S.sc, false⟩ n c f) c y.c0.ifs && chkI ⟨S.N, relS y.scope S.sc, false⟩ n i1 y.c1.target y.c1.iter && noSet y.c1.iter && chkT ⟨S.N, relS y.scope S.sc, false⟩ t1 y.c1.target && subset t1.ix own1
      && chkIfs (fun f => chkE ⟨S.N, relS y.scope S.sc, false⟩ n c1 f) c1 y.c1.ifs && chkE ⟨S.N, relS y.scope S.sc, false⟩ n e y.elt && isOmit v
    | none => false
  | _, _ => false
def chkEs (S : SC) (n : Nat) : MEs → List Expr → Bool
  | .nil, [] => true
  | .cons m ms, e :: es => noStar e && chkE S n m e && chkEs S n ms es
  | _, _ => false
def chkI (S : SC) (n : Nat) : MI → Expr → Expr → Bool
  | .ex m, _, e => chkE S n m e
  | .kys m, _, e => chkE S n m e
  | .rng ms, _, .Call (.Name x _) l [] _ => bltB G S x "range" && (l.length == 1 || l.length == 2) && chkEs S n ms l
  | .zip a b, tg, .Call (.Name x _) [e1, e2] [] _ => isTup tg && bltB G S x "zip" && noStar e1 && noStar e2 && chkE S n a e1 && chkE S n b e2
  | .enm a, tg, .Call (.Name x _) [e1] [] _ => isTup tg && bltB G S x "enumerate" && noStar e1 && chkE S n a e1
  | _, _, _ => false
end
end
end MP
namespace MP
open PySem PySem.Spec PyProof.Rows L2
def spI (K : PySem.W.Frag) (T : List Addr) (np : Nat) (g : List D → HI → Rz) : Sp := fun vs H Q _ => vs.length = np ∧ rVs K T g vs H Q
structure XW (G : GI) (cl : Nat → List D → HI → Rz) (T : List Addr) (L : Nat) (S : SC) (n : Nat) (X : Cx) : Prop where
  N : X.N = S.N
  sc : X.env.scope = S.sc
  nd : X.N.Nodup
  top : S.top = true → ∀ x, X.fn x = true
  calm : X.calm = true
  room : Room (L + n) X.A
  lit : 13 ≤ L
  gl : ∀ x d, (x, d) ∈ G.gl → ∃ v u, X.mg x = some u ∧ RelV v u ∧ ∀ μ H, RV X.K μ H d v
  fs : ∀ f x np, G.fs[f]? = some (x, np) → ∃ a fd ps, X.mg x = some (.ref a) ∧ PySem.W.keepIn X.K (.ref a) = true ∧ Binds X.K fd ps [] ∧ FnOk X.prog X.w X.K X.mg X.base CX0 L a fd ps (spI X.K T np (cl f))
  bn : ∀ x ∈ G.bn, X.mg x = none
  code : 0 < n → ∃ c P, X.env.code = .ref c ∧ GxR.TabB X.base X.mg c P ∧ P ∈ T
  gd : ∀ x kvs, (x, kvs) ∈ G.gd → ∃ a, X.mg x = some (.ref a) ∧ KDi X.K a kvs
section
variable {G : GI} {cl : Nat → List D → HI → Rz} {T : List Addr} {L : Nat} {S : SC} {n : Nat} {X : Cx}
theorem XW.hu (W : XW G cl T L S n X) : X.A.units + 400 < cLine := by
  have := W.room.un
  have := W.lit
  omega
theorem XW.blk (W : XW G cl T L S n X) (s : Shared) (H : Hp) (C : Addr) (cs : List (Str × Addr)) (fp : List Addr) (scope : Scope) : XW G cl T L ⟨S.N, relS scope S.sc, false⟩ n (X.blk s H scope (compEnvC scope cs C X.env) fp) where
  N := W.N
  sc := by
    show relabel scope X.env = relS scope S.sc
    rw [← W.sc]
    rfl
  nd := W.nd
  top := fun z => nomatch z
  calm := W.calm
  room := W.room
  lit := W.lit
  gl := W.gl
  fs := W.fs
  bn := W.bn
  code := W.code
  gd := W.gd
theorem XW.gen (W : XW G cl T L S (n + 1) X) (hn : n = 0) (A : Around) (s : Shared) (H : Hp) (C : Addr) (cs : List (Str × Addr)) (code : Value) (fp : List Addr) (a : Addr) (og : Obj) (scope : Scope) (hd : A.handled = none) (hp : A.depth ≤ X.A.depth + 1) (hu : A.units ≤ X.A.units + 12) :
    XW G cl T L ⟨S.N, scope, false⟩ n (gcx X A s H scope (genEnv scope cs C code builtinsNs X.env) fp a og) where
  N := W.N
  sc := rfl
  nd := W.nd
  top := fun z => nomatch z
  calm := W.calm
  room := ⟨hd, by have := W.room.dp; show A.depth + 3 * (L + n) + 5 < _; omega, by have := W.room.un; show A.units + 16 * (L + n) + 200 < _; omega⟩
  lit := W.lit
  gl := W.gl
  fs := W.fs
  bn := W.bn
  code := fun z => by omega
  gd := W.gd
theorem XW.vis (W : XW G cl T L S n X) {x : Str} (h : visB S.sc x = true) : Vis X.env.scope x := by
  simp only [visB, Bool.or_eq_true, beq_iff_eq] at h
  rw [W.sc]
  rcases h with (h | h) | h
  · exact .inl h
  · exact .inr (.inl h)
  · exact .inr (.inr h)
theorem XW.glo (W : XW G cl T L S n X) {x : Str} (h : gloB S.sc x = true) : Gl X x ∧ (x == ("__debug__" : Str)) = false ∧ x ≠ "__name__" := by
  simp only [gloB, Bool.and_eq_true, beq_iff_eq, Bool.not_eq_true'] at h
  refine ⟨?_, h.1.2, fun z => ?_⟩
  · show X.env.scope.names.lookup x = _
    rw [W.sc]; exact h.1.1
  · rw [z] at h; simp at h
theorem star_cons {e : Expr} {es : List Expr} {env : Env} (h : noStar e = true) : starEach (e :: es) env = (false, eval e env) :: starEach es env := by
  cases e <;> first | rfl | simp [noStar] at h
theorem fold_ok {e : Expr} {env : Env} (h : noSet e = true) : ∀ x, foldedSetIterable e env x = pure x := by
  cases e <;> first | (intro _; rfl) | simp [noSet] at h
theorem gfold_ok {e : Expr} {env : Env} (h : noFold e = true) : ∀ x, genFold e env x = pure x := by
  cases e <;> first | (intro _; rfl) | simp [noFold] at h
theorem marks_ok {op : CmpOp} {e : Expr} (h : noSet e = true) : behindInMarks op e = false := by
  cases e <;> first | rfl | simp [noSet] at h
theorem base_ok {o : Expr} {a : Str} {env : Env} {w : Sem Value} (h : noBase o = true) : attributeBase o a env w = w := by
  cases o with
  | Call f args kws pos =>
    cases f with
    | Name x p =>
      cases args with
      | nil =>
        cases kws with
        | nil => simp [noBase] at h
        | cons _ _ => rfl
      | cons _ _ => rfl
    | _ => rfl
  | _ => rfl
theorem plain_ix {b : Expr} (h : noSlice b = true) : PlainIx b := by
  intro o i
  cases b <;> first | rfl | simp [noSlice] at h
theorem stars_any {pos : Pos} {env : Env} : ∀ {G : GI} {S : SC} {n : Nat} {ms : MEs} {es : List Expr}, chkEs G S n ms es = true → (backTo pos (starEach es env)).any (·.1) = false
  | G, S, n, .nil, [], _ => rfl
  | G, S, n, .nil, _ :: _, h => by simp [chkEs] at h
  | G, S, n, .cons m ms, [], h => by simp [chkEs] at h
  | G, S, n, .cons m ms, e :: es, h => by
    simp only [chkEs, Bool.and_eq_true] at h
    rw [star_cons h.1.1]
    show (false || (backTo pos (starEach es env)).any (·.1)) = false
    rw [stars_any h.2]
    rfl
theorem stars_all {pos : Pos} {env : Env} : ∀ {G : GI} {S : SC} {n : Nat} {ms : MEs} {es : List Expr}, chkEs G S n ms es = true → (backTo pos (starEach es env)).all (fun x => !x.1) = true
  | G, S, n, .nil, [], _ => rfl
  | G, S, n, .nil, _ :: _, h => by simp [chkEs] at h
  | G, S, n, .cons m ms, [], h => by simp [chkEs] at h
  | G, S, n, .cons m ms, e :: es, h => by
    simp only [chkEs, Bool.and_eq_true] at h
    rw [star_cons h.1.1]
    show (!false && (backTo pos (starEach es env)).all (fun x => !x.1)) = true
    rw [stars_all h.2]
    rfl
theorem evEs_length : ∀ {ms : MEs} {S : SC} {n : Nat} {es : List Expr} {σ : MP.St} {h : HI} {r : List D × HI}, chkEs G S n ms es = true → evEs cl ms σ h = some r → r.1.length = es.length
  | .nil, S, n, [], σ, h, r, _, e => by simp only [evEs, Option.some.injEq] at e; subst e; rfl
  | .nil, S, n, _ :: _, σ, h, r, c, e => by simp [chkEs] at c
  | .cons m ms, S, n, [], σ, h, r, c, e => by simp [chkEs] at c
  | .cons m ms, S, n, e1 :: es, σ, h, r, c, e => by
    simp only [chkEs, Bool.and_eq_true] at c
    simp only [evEs] at e
    obtain ⟨a, e2, e3⟩ := Option.bind_eq_some_iff.mp e
    obtain ⟨b, e4, e5⟩ := Option.bind_eq_some_iff.mp e3
    cases e5
    have := evEs_length c.2 e4
    simp only [List.length_cons, this]
structure XT (S : SC) (X : Cx) : Prop where
  N : X.N = S.N
  sc : X.env.scope = S.sc
  nd : X.N.Nodup
  top : S.top = true → ∀ x, X.fn x = true
  calm : X.calm = true
theorem XW.xt (W : XW G cl T L S n X) : XT S X := ⟨W.N, W.sc, W.nd, W.top, W.calm⟩
theorem put_ok (W : XT S X) {i : Nat} {x : Str} (h : S.put i x = true) : X.N[i]? = some x ∧ Loc X.env.scope x ∧ (X.fn x = true ∨ X.env.scope.names.lookup x = some .local) := by
  simp only [SC.put, Bool.and_eq_true, Bool.or_eq_true, beq_iff_eq] at h
  rw [W.N, W.sc]
  rcases h.2 with z | ⟨z1, z2⟩
  · exact ⟨h.1, .inl z, .inr z⟩
  · exact ⟨h.1, .inr z2, .inl (W.top z1 x)⟩
theorem ass_len : ∀ {ts : Tgs} {es : List Expr} {env : Env}, chkTs S ts es = true → (assignEach es env).length = es.length ∧ (assignEach es env).findIdx? (·.1) = none
  | .nil, [], env, _ => ⟨rfl, rfl⟩
  | .nil, _ :: _, env, h => by simp [chkTs] at h
  | .cons t ts, [], env, h => by simp [chkTs] at h
  | .cons t ts, e :: es, env, h => by
    simp only [chkTs, Bool.and_eq_true] at h
    obtain ⟨h1, h2⟩ := ass_len (env := env) h.2
    have hs : assignEach (e :: es) env = (false, assign e env) :: assignEach es env := by
      have h3 := h.1.1
      cases e <;> first | rfl | simp [noStar] at h3
    rw [hs]
    refine ⟨by simp [h1], ?_⟩
    rw [List.findIdx?_cons]
    simp [h2]
def tGds (K : PySem.W.Frag) (ts : Tgs) : TGs := fun xs σ H Q => ∃ μ ds σd σd', RVs K μ H ds xs ∧ SR K μ H σd σ ∧ binds ts ds σd = some σd' ∧ ∀ σ', SR K μ H σd' σ' → (∀ vs, (∀ i ∈ ts.ix, i ∈ vs) → wipe σ' vs = wipe σ vs) → Q σ' H
mutual
theorem sndT (W : XT S X) : ∀ {t : Tg} {e : Expr}, chkT S t e = true → PG X e (tGd X.K t)
  | .nm i, e, h => by
    cases e with
    | Name x pos =>
      obtain ⟨h1, h2, h3⟩ := put_ok W (show S.put i x = true from h)
      refine ⟨fun pins s σ H v u Q I r hw => ?_⟩
      obtain ⟨μ, d, σd, σd', rx, Sr, e, q⟩ := hw
      simp only [bind1, Option.ite_none_right_eq_some, Option.some.injEq] at e
      obtain ⟨_, rfl⟩ := e
      exact (pg_name W.nd h1 h2 h3).run pins s σ H v u Q I r (q _ (Sr.set i rx) fun vs hv => wipe_set (hv i (by simp [Tg.ix])))
    | _ => simp [chkT] at h
  | .tp ts, e, h => by
    cases e with
    | Tuple es k pos =>
      have h : chkTs S ts es = true := h
      obtain ⟨l1, l2⟩ := ass_len (env := X.env) h
      refine ⟨fun pins s σ H v u Q I r hw => ?_⟩
      obtain ⟨μ, d, σd, σd', rx, Sr, e, q⟩ := hw
      refine (pg_tup W.calm (sndTs W h) l1 l2).run pins s σ H v u Q I r ?_
      cases rx with
      | tup ht rs =>
        simp only [bind1] at e
        refine ⟨_, _, rfl, ht, ?_, μ, _, σd, σd', rs, Sr, e, q⟩
        rw [← rs.length]
        exact lens h e
      | _ => simp [bind1] at e
    | _ => simp [chkT] at h
theorem sndTs (W : XT S X) : ∀ {ts : Tgs} {es : List Expr}, chkTs S ts es = true → PGs X es (tGds X.K ts)
  | .nil, [], _ => ⟨fun pins s σ H vs us Q I r hw => by
      obtain ⟨μ, ds, σd, σd', rx, Sr, e, q⟩ := hw
      cases ds with
      | cons _ _ => simp [binds] at e
      | nil =>
        cases rx
        simp only [binds, Option.some.injEq] at e
        subst e
        exact pgs_nil.run pins s σ H _ us Q I r ⟨rfl, q σ Sr fun _ _ => rfl⟩⟩
  | .nil, _ :: _, h => by simp [chkTs] at h
  | .cons t ts, [], h => by simp [chkTs] at h
  | .cons t ts, e :: es, h => by
    simp only [chkTs, Bool.and_eq_true] at h
    have hs : (assignEach (e :: es) X.env).map (·.2) = assign e X.env :: (assignEach es X.env).map (·.2) := by
      have h3 := h.1.1
      cases e <;> first | rfl | simp [noStar] at h3
    refine ⟨fun pins s σ H vs us Q I r hw => ?_⟩
    obtain ⟨μ, ds, σd, σd', rx, Sr, e1, q⟩ := hw
    refine (pgs_cons (sndT W h.1.2) (sndTs W h.2) hs).run pins s σ H vs us Q I r ?_
    cases ds with
    | nil => simp [binds] at e1
    | cons d ds =>
      cases rx with
      | cons r1 r2 =>
        simp only [binds] at e1
        obtain ⟨σ1, e2, e3⟩ := Option.bind_eq_some_iff.mp e1
        refine ⟨_, _, rfl, μ, d, σd, σ1, r1, Sr, e2, fun σ2 S2 w2 => ⟨μ, ds, σ1, σd', r2, S2, e3, fun σ3 S3 w3 => q σ3 S3 fun vs hv => ?_⟩⟩
        rw [w3 vs fun i hi => hv i (by simp [Tgs.ix, hi]), w2 vs fun i hi => hv i (by simp [Tgs.ix, hi])]
theorem lens : ∀ {ts : Tgs} {es : List Expr} {ds : List D} {σ σ' : MP.St}, chkTs S ts es = true → binds ts ds σ = some σ' → ds.length = es.length
  | .nil, [], ds, σ, σ', _, e => by cases ds <;> simp [binds] at e; rfl
  | .nil, _ :: _, _, _, _, h, _ => by simp [chkTs] at h
  | .cons t ts, [], _, _, _, h, _ => by simp [chkTs] at h
  | .cons t ts, e :: es, ds, σ, σ', h, e1 => by
    simp only [chkTs, Bool.and_eq_true] at h
    cases ds with
    | nil => simp [binds] at e1
    | cons d ds =>
      simp only [binds] at e1
      obtain ⟨σ1, e2, e3⟩ := Option.bind_eq_some_iff.mp e1
      simp only [List.length_cons, lens h.2 e3]
end
end
end MP
namespace MP
open PySem PySem.Spec PyProof.Rows L2
section
variable {G : GI} {cl : Nat → List D → HI → Rz} {T : List Addr} {L : Nat} {S : SC} {n : Nat} {X : Cx} {e x y z : Expr} {a b c : ME} {pos : Pos}
def EK (X : Cx) (T : List Addr) (ev : MP.St → HI → Rz) (e : Expr) : Prop :=
  PE X e (tI X.K T ev) ∧ (okT e = true → PT X e (tBl X.K T (tst ev))) ∧ (∀ op vs pos, e = .BoolOp op vs pos → PW X e (tBl X.K T (tst ev)))
theorem ek_val {ev : MP.St → HI → Rz} (h : PE X e (tI X.K T ev)) (he : ∀ whole, isTrue e X.env whole = (do let v ← whole; standAt e.pos; holding [v] (truthy v))) (nb : ∀ op vs pos, e ≠ .BoolOp op vs pos) : EK X T ev e :=
  ⟨h, fun _ => (pt_truth h he).imp fun σ H Q q => tB_val q, fun op vs pos q => absurd q (nb op vs pos)⟩
variable {ea eb ec : MP.St → HI → Rz}
theorem ek_var (W : XW G cl T L S n X) {i : Nat} {x : Str} (h : (S.N[i]? == some x && visB S.sc x && !(x == ("__debug__" : Str)) && !(x == ("__classdict__" : Str))) = true) : EK X T (evE cl (.var i)) (.Name x pos) := by
  simp only [Bool.and_eq_true, beq_iff_eq, Bool.not_eq_true'] at h
  refine ek_val ((pe_var (i := i) (by rw [W.N]; exact h.1.1.1) (W.vis h.1.1.2) h.1.2 h.2).imp fun σ H Q q => ?_) (fun _ => rfl) (fun _ _ _ z => nomatch z)
  obtain ⟨μ, h0, σd, r, R, Sr, e, o⟩ := q
  simp only [evE] at e
  split at e
  · rename_i d hd
    cases e
    obtain ⟨v, h1, h2⟩ := Sr.2 i d hd
    exact ⟨v, h1, o.here R h2⟩
  · cases e
theorem tI_cst {K : PySem.W.Frag} {d : D} {v : V} {σ : L2.St} {H : Hp} {Q : VK} (hv : ∀ μ, RV K μ H d v) (q : tI K T (fun _ h => some (d, h)) σ H Q) : tC v σ H Q := by
  obtain ⟨μ, h0, σd, r, R, Sr, e, o⟩ := q
  cases e
  exact o.here R (hv μ)
theorem ek_cst {d : D} {k : Const} {j : Nat} (h : constB d k = true) : EK X T (evE cl (.cst d)) (.Constant k j pos) := by
  have fin : ∀ {v : V}, PE X (.Constant k j pos) (tC v) → (∀ μ H, RV X.K μ H d v) → EK X T (evE cl (.cst d)) (.Constant k j pos) := fun {v} hp hv =>
    ek_val (hp.imp fun σ H Q q => tI_cst (fun μ => hv μ H) q) (fun _ => rfl) (fun _ _ _ z => nomatch z)
  cases d with
  | non => cases k <;> first | exact fin pe_non (fun _ _ => .non) | simp [constB] at h
  | bl b => cases k <;> first | (simp [constB] at h; subst h; exact fin pe_bl (fun _ _ => .bl _)) | simp [constB] at h
  | int i => cases k <;> first | (simp [constB] at h; subst h; exact fin pe_int (fun _ _ => .int _)) | simp [constB] at h
  | str i => cases k <;> first | (simp [constB] at h; subst h; exact fin pe_str (fun _ _ => .str _)) | simp [constB] at h
  | _ => simp [constB] at h
theorem ek_glb (W : XW G cl T L S n X) {d : D} {x : Str} (h : (gloB S.sc x && G.gl.any fun p => p.1 == x && D.same p.2 d) = true) : EK X T (evE cl (.glb d)) (.Name x pos) := by
  simp only [Bool.and_eq_true, List.any_eq_true, beq_iff_eq] at h
  obtain ⟨hg, ⟨y, d'⟩, hm, e1, e2⟩ := h
  have e2 := D.same_eq e2
  simp only at e1 e2
  subst e1 e2
  obtain ⟨v, u, h1, h2, h3⟩ := W.gl _ _ hm
  obtain ⟨g1, g2, _⟩ := W.glo hg
  exact ek_val ((pe_glob g1 h1 h2 g2).imp fun σ H Q q => tI_cst (fun μ => h3 μ H) q) (fun _ => rfl) (fun _ _ _ z => nomatch z)
theorem ek_tup {k : Nat} {l : List Expr} {es : MEs} (h : PA X l (tL X.K T (evEs cl es))) : EK X T (evE cl (.tup es)) (.Tuple l k pos) := by
  refine ek_val ((pe_tup h).imp fun σ H Q q => ?_) (fun _ => rfl) (fun _ _ _ z => nomatch z)
  obtain ⟨μ, h0, σd, r, R, Sr, e, o⟩ := q
  simp only [evE] at e
  obtain ⟨ra, e1, e2⟩ := Option.bind_eq_some_iff.mp e
  simp only [Option.ite_none_right_eq_some, Option.some.injEq] at e2
  obtain ⟨hl, rfl⟩ := e2
  exact ⟨μ, h0, σd, ra, R, Sr, e1, fun μ1 H1 vs p t R1 rv => ⟨by rw [← big_eq, ← rv.length]; exact hl, (o.later p t).newT R1 rv⟩⟩
theorem ek_lst {l : List Expr} {es : MEs} (h : PA X l (tL X.K T (evEs cl es))) : EK X T (evE cl (.lst es)) (.List l pos) := by
  refine ek_val ((pe_lst h).imp fun σ H Q q => ?_) (fun _ => rfl) (fun _ _ _ z => nomatch z)
  obtain ⟨μ, h0, σd, r, R, Sr, e, o⟩ := q
  simp only [evE] at e
  obtain ⟨ra, e1, e2⟩ := Option.bind_eq_some_iff.mp e
  simp only [Option.ite_none_right_eq_some, hnew, Option.some.injEq] at e2
  obtain ⟨hl, rfl⟩ := e2
  exact ⟨μ, h0, σd, ra, R, Sr, e1, fun μ1 H1 vs p t R1 rv => ⟨by rw [← big_eq, ← rv.length]; exact hl, (o.later p t).newL R1 rv⟩⟩
theorem ek_dnew : EK X T (evE cl .dnew) (.Dict [] [] pos) := by
  refine ek_val (pe_dnewK.imp fun σ H Q q => ?_) (fun _ => rfl) (fun _ _ _ z => nomatch z)
  obtain ⟨μ, h0, σd, r, R, Sr, e, o⟩ := q
  simp only [evE, hnew, Option.some.injEq] at e
  subst e
  exact o.newD R
theorem ek_bin {op : BOp} (ha : PE X x (tI X.K T (evE cl a))) (hb : PE X y (tI X.K T (evE cl b))) : EK X T (evE cl (.bin op a b)) (.BinOp x (opOf op) y pos) :=
  ek_val ((pe_op (op_all (T := T) op) ha hb).imp fun σ H Q q => tI_bin (g := binD op) q) (fun _ => rfl) (fun _ _ _ z => nomatch z)
theorem ek_neg (ha : PE X x (tI X.K T (evE cl a))) : EK X T (evE cl (.neg a)) (.UnaryOp .USub x pos) :=
  ek_val ((pe_un (un_neg' (T := T)) ha).imp fun σ H Q q => tI_un (g := fun x h => match x with | .int i => some (.int (-i), h) | _ => none) q) (fun _ => rfl) (fun _ _ _ z => nomatch z)
theorem ek_cmp (hu : X.A.units + 400 < cLine) {op : COp} (ha : PE X x (tI X.K T (evE cl a))) (hb : PE X y (tI X.K T (evE cl b))) (hs : noSet y = true) : EK X T (evE cl (.cmp op a b)) (.Compare x [cmpOf op] [y] pos) := by
  refine ⟨(pe_cmpR (cmp_all (T := T) hu op) ha hb (marks_ok hs)).imp fun σ H Q q => tI_bin (g := fun x y h => (cmpB op x y h).map fun c => (.bl c, h)) q, fun _ => (pt_cmpR (cmp_all (T := T) hu op) ha hb (marks_ok hs)).imp fun σ H Q q => ?_, fun _ _ _ z => nomatch z⟩
  refine tI_bin (g := fun x y h => (cmpB op x y h).map fun c => (.bl c, h)) ?_
  obtain ⟨μ, h0, σd, r, R, Sr, e, o⟩ := q
  obtain ⟨ra, e1, e2⟩ := Option.bind_eq_some_iff.mp e
  obtain ⟨b0, e3, rfl⟩ := Option.map_eq_some_iff.mp e2
  refine ⟨μ, h0, σd, ra, R, Sr, e1, fun μ1 H1 v p t R1 rv => ?_⟩
  simp only [evE] at e1
  obtain ⟨r1, f1, f2⟩ := Option.bind_eq_some_iff.mp e1
  obtain ⟨r2, f3, f4⟩ := Option.bind_eq_some_iff.mp f2
  obtain ⟨c0, f5, rfl⟩ := Option.map_eq_some_iff.mp f4
  cases rv
  simp only [truth, Option.some.injEq] at e3
  subst e3
  exact ⟨_, rfl, o μ1 H1 p t R1⟩
theorem tI_and {K : PySem.W.Frag} {σ : L2.St} {H : Hp} {Q : VK} (q : tI K T (evE cl (.and a b)) σ H Q) : tAndX K (tI K T (evE cl a)) (tI K T (evE cl b)) σ H Q := by
  obtain ⟨μ, h0, σd, r, R, Sr, e, o⟩ := q
  simp only [evE] at e
  obtain ⟨ra, e1, e2⟩ := Option.bind_eq_some_iff.mp e
  refine ⟨μ, h0, σd, ra, R, Sr, e1, fun μ1 H1 v p t R1 rv => ?_⟩
  cases c : truth ra.1 ra.2 with
  | none => rw [c] at e2; cases e2
  | some k =>
    rw [c] at e2
    refine ⟨k, tru_of R1 rv c, ?_⟩
    cases k with
    | true => exact ⟨μ1, ra.2, σd, r, R1, Sr.mono p t, e2, o.later p t⟩
    | false =>
      cases e2
      exact (o.later p t).here R1 rv
theorem tI_or {K : PySem.W.Frag} {σ : L2.St} {H : Hp} {Q : VK} (q : tI K T (evE cl (.or a b)) σ H Q) : tOrX K (tI K T (evE cl a)) (tI K T (evE cl b)) σ H Q := by
  obtain ⟨μ, h0, σd, r, R, Sr, e, o⟩ := q
  simp only [evE] at e
  obtain ⟨ra, e1, e2⟩ := Option.bind_eq_some_iff.mp e
  refine ⟨μ, h0, σd, ra, R, Sr, e1, fun μ1 H1 v p t R1 rv => ?_⟩
  cases c : truth ra.1 ra.2 with
  | none => rw [c] at e2; cases e2
  | some k =>
    rw [c] at e2
    refine ⟨k, tru_of R1 rv c, ?_⟩
    cases k with
    | false => exact ⟨μ1, ra.2, σd, r, R1, Sr.mono p t, e2, o.later p t⟩
    | true =>
      cases e2
      exact (o.later p t).here R1 rv
theorem tB_and {K : PySem.W.Frag} {σ : L2.St} {H : Hp} {Q : Bool → Hp → Prop} (q : tBl K T (tst (evE cl (.and a b))) σ H Q) : tAnd (tBl K T (tst (evE cl a))) (tBl K T (tst (evE cl b))) σ H Q := by
  obtain ⟨μ, h0, σd, r, R, Sr, e, o⟩ := q
  obtain ⟨rr, e1, e2⟩ := Option.bind_eq_some_iff.mp e
  obtain ⟨b0, e3, rfl⟩ := Option.map_eq_some_iff.mp e2
  simp only [evE] at e1
  obtain ⟨ra, f1, f2⟩ := Option.bind_eq_some_iff.mp e1
  cases c : truth ra.1 ra.2 with
  | none => rw [c] at f2; cases f2
  | some k =>
    rw [c] at f2
    refine ⟨μ, h0, σd, (k, ra.2), R, Sr, by show (evE cl a σd h0).bind _ = _; rw [f1]; show (truth ra.1 ra.2).map _ = _; rw [c]; rfl, fun μ1 H1 p t R1 => ?_⟩
    cases k with
    | true => exact ⟨μ1, ra.2, σd, (b0, rr.2), R1, Sr.mono p t, by show (evE cl b σd ra.2).bind _ = _; rw [(show evE cl b σd ra.2 = some rr from f2)]; show (truth rr.1 rr.2).map _ = _; rw [e3]; rfl, o.later p t⟩
    | false =>
      cases f2
      rw [c] at e3
      cases e3
      exact o μ1 H1 p t R1
theorem tB_or {K : PySem.W.Frag} {σ : L2.St} {H : Hp} {Q : Bool → Hp → Prop} (q : tBl K T (tst (evE cl (.or a b))) σ H Q) : tOr (tBl K T (tst (evE cl a))) (tBl K T (tst (evE cl b))) σ H Q := by
  obtain ⟨μ, h0, σd, r, R, Sr, e, o⟩ := q
  obtain ⟨rr, e1, e2⟩ := Option.bind_eq_some_iff.mp e
  obtain ⟨b0, e3, rfl⟩ := Option.map_eq_some_iff.mp e2
  simp only [evE] at e1
  obtain ⟨ra, f1, f2⟩ := Option.bind_eq_some_iff.mp e1
  cases c : truth ra.1 ra.2 with
  | none => rw [c] at f2; cases f2
  | some k =>
    rw [c] at f2
    refine ⟨μ, h0, σd, (k, ra.2), R, Sr, by show (evE cl a σd h0).bind _ = _; rw [f1]; show (truth ra.1 ra.2).map _ = _; rw [c]; rfl, fun μ1 H1 p t R1 => ?_⟩
    cases k with
    | false => exact ⟨μ1, ra.2, σd, (b0, rr.2), R1, Sr.mono p t, by show (evE cl b σd ra.2).bind _ = _; rw [(show evE cl b σd ra.2 = some rr from f2)]; show (truth rr.1 rr.2).map _ = _; rw [e3]; rfl, o.later p t⟩
    | true =>
      cases f2
      rw [c] at e3
      cases e3
      exact o μ1 H1 p t R1
theorem ek_and {r : List Expr} (ha : PE X x (tI X.K T (evE cl a))) (ta : PT X x (tBl X.K T (tst (evE cl a)))) (hb : PE X (.BoolOp .And (y :: r) pos) (tI X.K T (evE cl b))) (tb : PW X (.BoolOp .And (y :: r) pos) (tBl X.K T (tst (evE cl b)))) : EK X T (evE cl (.and a b)) (.BoolOp .And (x :: y :: r) pos) := by
  have w : PW X (.BoolOp .And (x :: y :: r) pos) (tBl X.K T (tst (evE cl (.and a b)))) := (pw_and ta tb).imp fun σ H Q q => tB_and q
  exact ⟨(pe_andX ha hb).imp fun σ H Q q => tI_and q, fun _ => w.pt, fun op vs pos z => by cases z; exact w⟩
theorem ek_or {r : List Expr} (ha : PE X x (tI X.K T (evE cl a))) (ta : PT X x (tBl X.K T (tst (evE cl a)))) (hb : PE X (.BoolOp .Or (y :: r) pos) (tI X.K T (evE cl b))) (tb : PW X (.BoolOp .Or (y :: r) pos) (tBl X.K T (tst (evE cl b)))) : EK X T (evE cl (.or a b)) (.BoolOp .Or (x :: y :: r) pos) := by
  have w : PW X (.BoolOp .Or (x :: y :: r) pos) (tBl X.K T (tst (evE cl (.or a b)))) := (pw_or ta tb).imp fun σ H Q q => tB_or q
  exact ⟨(pe_orX ha hb).imp fun σ H Q q => tI_or q, fun _ => w.pt, fun op vs pos z => by cases z; exact w⟩
theorem ek_not (ha : PE X x (tI X.K T (evE cl a))) (ta : PT X x (tBl X.K T (tst (evE cl a)))) : EK X T (evE cl (.not a)) (.UnaryOp .Not x pos) := by
  refine ⟨(pe_notX ha).imp fun σ H Q q => ?_, fun _ => (pt_not ta).imp fun σ H Q q => ?_, fun _ _ _ z => nomatch z⟩
  · obtain ⟨μ, h0, σd, r, R, Sr, e, o⟩ := q
    simp only [evE] at e
    obtain ⟨ra, e1, e2⟩ := Option.bind_eq_some_iff.mp e
    obtain ⟨k, e3, rfl⟩ := Option.map_eq_some_iff.mp e2
    exact ⟨μ, h0, σd, ra, R, Sr, e1, fun μ1 H1 v p t R1 rv => ⟨k, tru_of R1 rv e3, (o.later p t).here R1 (.bl _)⟩⟩
  · obtain ⟨μ, h0, σd, r, R, Sr, e, o⟩ := q
    obtain ⟨rr, e1, e2⟩ := Option.bind_eq_some_iff.mp e
    obtain ⟨b0, e3, rfl⟩ := Option.map_eq_some_iff.mp e2
    simp only [evE] at e1
    obtain ⟨ra, f1, f2⟩ := Option.bind_eq_some_iff.mp e1
    obtain ⟨k, f3, rfl⟩ := Option.map_eq_some_iff.mp f2
    simp only [truth, Option.some.injEq] at e3
    subst e3
    exact ⟨μ, h0, σd, (k, ra.2), R, Sr, by show (evE cl a σd h0).bind _ = _; rw [f1]; show (truth ra.1 ra.2).map _ = _; rw [f3]; rfl, fun μ1 H1 p t R1 => o μ1 H1 p t R1⟩
theorem ek_ife (tc : PT X x (tBl X.K T (tst (evE cl c)))) (ha : PE X y (tI X.K T (evE cl a))) (hb : PE X z (tI X.K T (evE cl b))) : EK X T (evE cl (.ife c a b)) (.IfExp x y z pos) := by
  refine ⟨(pe_ifExp tc ha hb).imp fun σ H Q q => ?_, (fun w => by cases w), (fun _ _ _ z => nomatch z)⟩
  obtain ⟨μ, h0, σd, r, R, Sr, e, o⟩ := q
  simp only [evE] at e
  obtain ⟨ra, e1, e2⟩ := Option.bind_eq_some_iff.mp e
  cases c0 : truth ra.1 ra.2 with
  | none => rw [c0] at e2; cases e2
  | some k =>
    rw [c0] at e2
    refine ⟨μ, h0, σd, (k, ra.2), R, Sr, by show (evE cl c σd h0).bind _ = _; rw [e1]; show (truth ra.1 ra.2).map _ = _; rw [c0]; rfl, fun μ1 H1 p t R1 => ?_⟩
    cases k with
    | true => exact ⟨μ1, ra.2, σd, r, R1, Sr.mono p t, e2, o.later p t⟩
    | false => exact ⟨μ1, ra.2, σd, r, R1, Sr.mono p t, e2, o.later p t⟩
theorem ek_idx (hu : X.A.units + 400 < cLine) (ha : PE X x (tI X.K T (evE cl a))) (hb : PE X y (tI X.K T (evE cl b))) (hs : noSlice y = true) : EK X T (evE cl (.idx a b)) (.Subscript x y pos) :=
  ek_val ((pe_ix (ix_all (T := T) hu) ha hb (plain_ix hs)).imp fun σ H Q q => tI_bin (g := idxD) q) (fun _ => rfl) (fun _ _ _ z => nomatch z)
def PartK (X : Cx) (T : List Addr) (cl : Nat → List D → HI → Rz) (lo : ME) (l : Option Expr) : Prop :=
  ∃ t : TO, PO X l t ∧ ∀ {σ : L2.St} {H : Hp} {μ : List Addr} {h : HI} {σd : MP.St} {r : D × HI} {i : Option Int} {Q : Option Int → Hp → Prop}, HR X.K T μ h H → SR X.K μ H σd σ → evE cl lo σd h = some r → partOf (isOmit lo) r.1 = some i →
    (∀ μ' H', μ <+: μ' → TK X.K H H' → HR X.K T μ' r.2 H' → Q i H') → t σ H Q
theorem part_none : PartK X T cl .omit none := ⟨tNoPart, po_none, fun {σ H μ h σd r i Q} R S e e2 q => by
  cases e
  cases e2
  exact q μ H (List.prefix_refl _) TK.refl R⟩
theorem part_some {lo : ME} {l : Expr} (h : PE X l (tI X.K T (evE cl lo))) (hn : isOmit lo = false) : PartK X T cl lo (some l) := ⟨tPart _, po_some h, fun {σ H μ h σd r i Q} R S e e2 q => by
  refine ⟨μ, h, σd, r, R, S, e, fun μ1 H1 v p t R1 rv => ?_⟩
  rw [hn] at e2
  obtain ⟨d, h1⟩ := r
  cases rv with
  | int j => cases e2; exact ⟨j, rfl, q μ1 H1 p t R1⟩
  | _ => cases e2⟩
theorem ek_slc {lo hi : ME} {l u : Option Expr} {p2 : Pos} (ha : PE X x (tI X.K T (evE cl a))) (hl : PartK X T cl lo l) (hh : PartK X T cl hi u) : EK X T (evE cl (.slc a lo hi)) (.Subscript x (.Slice l u none p2) pos) := by
  obtain ⟨tl, pl, kl⟩ := hl
  obtain ⟨tu, pu, ku⟩ := hh
  refine ek_val ((pe_slice (sl_all (T := T)) ha pl pu).imp fun σ H Q q => ?_) (fun _ => rfl) (fun _ _ _ z => nomatch z)
  obtain ⟨μ, h0, σd, r, R, Sr, e, o⟩ := q
  simp only [evE] at e
  obtain ⟨ra, e1, e2⟩ := Option.bind_eq_some_iff.mp e
  obtain ⟨rl, e3, e4⟩ := Option.bind_eq_some_iff.mp e2
  obtain ⟨ru, e5, e6⟩ := Option.bind_eq_some_iff.mp e4
  split at e6
  · rename_i il iu c1 c2
    refine ⟨μ, h0, σd, ra, R, Sr, e1, fun μ1 H1 v p t R1 rv => kl R1 (Sr.mono p t) e3 c1 fun μ2 H2 p2 t2 R2 => ku R2 ((Sr.mono p t).mono p2 t2) e5 c2 fun μ3 H3 p3 t3 R3 => ?_⟩
    exact ⟨μ3, ru.2, ra.1, r, R3, (rv.mono p2 t2).mono p3 t3, e6, ((o.later p t).later p2 t2).later p3 t3⟩
  · cases e6
theorem ek_call (W : XW G cl T L S n X) {f : Nat} {x : Str} {np : Nat} {m : Expr} {ms : List Expr} {es : MEs} {nm : Pos} (hg : gloB S.sc x = true) (hf : G.fs[f]? = some (x, np)) (hc : chkEs G S n es (m :: ms) = true) (ha : PA X (m :: ms) (tL X.K T (evEs cl es))) (hl : (m :: ms).length = np) :
    EK X T (evE cl (.call f es)) (.Call (.Name x nm) (m :: ms) [] pos) := by
  obtain ⟨g1, g2, _⟩ := W.glo hg
  obtain ⟨ad, fd, ps, h1, h2, h3, h4⟩ := W.fs f x np hf
  have hst : starEach (m :: ms) X.env = (false, eval m X.env) :: starEach ms X.env := by
    cases es with
    | nil => simp [chkEs] at hc
    | cons e0 es0 => simp only [chkEs, Bool.and_eq_true] at hc; exact star_cons hc.1.1
  have hany : (backTo pos (starEach ms X.env)).any (·.1) = false := by
    cases es with
    | nil => simp [chkEs] at hc
    | cons e0 es0 => simp only [chkEs, Bool.and_eq_true] at hc; exact stars_any hc.2
  refine ek_val ((pe_call (E := fun _ _ _ => False) (dvs := []) h4 (W.room.mono (Nat.le_add_right L n)) g1 h1 h2 h3 .nil pass0 ha g2 hst hany).imp fun σ H Q q => ?_) (fun _ => rfl) (fun _ _ _ z => nomatch z)
  obtain ⟨μ, h0, σd, r, R, Sr, e, o⟩ := q
  simp only [evE] at e
  obtain ⟨ra, e1, e2⟩ := Option.bind_eq_some_iff.mp e
  refine ⟨μ, h0, σd, ra, R, Sr, e1, fun μ1 H1 vs p t R1 rv => ⟨?_, μ1, ra.2, ra.1, r, R1, by rw [List.append_nil]; exact rv, e2, o.later p t⟩⟩
  rw [List.append_nil, ← rv.length, evEs_length hc e1, hl]
theorem blt_id (W : XW G cl T L S n X) {x : Str} {b : String} (h : bltB G S x b = true) : x = Str.ofString b ∧ Gl X x ∧ X.mg x = none ∧ (x == ("__debug__" : Str)) = false ∧ x ≠ "__name__" := by
  simp only [bltB, Bool.and_eq_true, beq_iff_eq, List.contains_iff_mem] at h
  obtain ⟨g1, g2, g3⟩ := W.glo h.1.2
  exact ⟨h.1.1, g1, W.bn x h.2, g2, g3⟩
theorem ek_blt (W : XW G cl T L S n X) {bb : Blt} {x : Str} {m : Expr} {ms : List Expr} {es : MEs} {nm : Pos} (hb : bltB G S x (bltName bb) = true) (hn : ∀ t, bb ≠ .isi t) (hc : chkEs G S n es (m :: ms) = true) (ha : PA X (m :: ms) (tL X.K T (evEs cl es))) :
    EK X T (evE cl (.blt bb es)) (.Call (.Name x nm) (m :: ms) [] pos) := by
  obtain ⟨rfl, g1, g2, g3, g4⟩ := blt_id W hb
  have hst : starEach (m :: ms) X.env = (false, eval m X.env) :: starEach ms X.env := by
    cases es with
    | nil => simp [chkEs] at hc
    | cons e0 es0 => simp only [chkEs, Bool.and_eq_true] at hc; exact star_cons hc.1.1
  have hany : (backTo pos (starEach ms X.env)).any (·.1) = false := by
    cases es with
    | nil => simp [chkEs] at hc
    | cons e0 es0 => simp only [chkEs, Bool.and_eq_true] at hc; exact stars_any hc.2
  have fin : PE X (.Call (.Name (Str.ofString (bltName bb)) nm) (m :: ms) [] pos) (tCB (rVs X.K T (bltD bb)) (tL X.K T (evEs cl es))) := by
    cases bb with
    | len => exact pe_callB (len_all (T := T)) g1 g2 (by decide +kernel) ha g4 g3 hst hany
    | int => exact pe_callTy (int_all (T := T)) g1 g2 (by decide +kernel) ha g4 g3 hst hany
    | str => exact pe_callTy (str_all (T := T)) g1 g2 (by decide +kernel) ha g4 g3 hst hany
    | list => exact pe_callTy (list_all (T := T) W.calm) g1 g2 (by decide +kernel) ha g4 g3 hst hany
    | tuple => exact pe_callTy (tuple_all (T := T)) g1 g2 (by decide +kernel) ha g4 g3 hst hany
    | srt => exact pe_callB (srt_all (T := T) W.calm W.hu) g1 g2 (by decide +kernel) ha g4 g3 hst hany
    | dict => exact pe_callTy (dict_all (T := T)) g1 g2 (by decide +kernel) ha g4 g3 hst hany
    | isi t => exact absurd rfl (hn t)
  exact ek_val (fin.imp fun σ H Q q => tI_fn (g := bltD bb) q) (fun _ => rfl) (fun _ _ _ z => nomatch z)
theorem ek_isi (W : XW G cl T L S n X) {t : Ty} {x y : Str} {m : Expr} {a : ME} {nm p2 : Pos} (hb : bltB G S x "isinstance" = true) (hy : bltB G S y (tyName t) = true) (hs : noStar m = true) (ha : PE X m (tI X.K T (evE cl a))) :
    EK X T (evE cl (.isi t a)) (.Call (.Name x nm) [m, .Name y p2] [] pos) := by
  obtain ⟨rfl, g1, g2, g3, g4⟩ := blt_id W hb
  obtain ⟨rfl, k1, k2, k3, k4⟩ := blt_id W hy
  have hty : bootBuiltins (Str.ofString (tyName t)) = some (.type (tyName t)) := by cases t <;> decide +kernel
  have pa : PA X [m, .Name (Str.ofString (tyName t)) p2] (tCons (tI X.K T (evE cl a)) (tCons (tC (.ty (tyName t))) tNil)) :=
    pa_cons ha (pa_cons (pe_bltn k1 k2 hty rfl k4 k3) pa_nil rfl) (star_cons hs)
  refine ek_val ((pe_callB (isi_all (T := T) t) g1 g2 (by decide +kernel) pa g4 g3 (star_cons hs) rfl).imp fun σ H Q q => ?_) (fun _ => rfl) (fun _ _ _ z => nomatch z)
  obtain ⟨μ, h0, σd, r, R, Sr, e, o⟩ := q
  simp only [evE] at e
  obtain ⟨ra, e1, e2⟩ := Option.bind_eq_some_iff.mp e
  exact ⟨μ, h0, σd, ra, R, Sr, e1, fun μ1 H1 v p t1 R1 rv => ⟨v, rfl, μ1, ra.2, [ra.1], r, R1, .cons rv .nil, e2, o.later p t1⟩⟩
theorem ek_sst (W : XW G cl T L S n X) {x y : Str} {m : Expr} {a : ME} {nm p2 pos2 : Pos} (hb : bltB G S x "sorted" = true) (hy : bltB G S y "set" = true) (hs : noStar m = true) (ha : PE X m (tI X.K T (evE cl a))) :
    EK X T (evE cl (.sst a)) (.Call (.Name x nm) [.Call (.Name y p2) [m] [] pos2] [] pos) := by
  obtain ⟨rfl, g1, g2, g3, g4⟩ := blt_id W hb
  obtain ⟨rfl, k1, k2, k3, k4⟩ := blt_id W hy
  exact ek_val ((pe_sst W.calm g1 g2 k1 k2 ha (ns := star_cons hs)).imp fun σ H Q q => q) (fun _ => rfl) (fun _ _ _ z => nomatch z)
theorem ek_mth (W : XW G cl T L S n X) {m : Mth} {o : Expr} {a : ME} {l : List Expr} {es : MEs} {apos cpos : Pos} (hb : noBase o = true) (hline : (apos.endLine == cpos.line) = true) (hlen : l.length < 29) (hc : chkEs G S n es l = true) (ho : PE X o (tI X.K T (evE cl a))) (ha : PA X l (tL X.K T (evEs cl es))) :
    EK X T (evE cl (.mth m a es)) (.Call (.Attribute o (mthName m) apos) l [] cpos) := by
  have pa : PySem.PlainAttrs (mtId m).1 := by
    cases m
    · exact PySem.F.plainAttrs_list
    · exact PySem.F.plainAttrs_list
    · exact PySem.F.plainAttrs_list
    · exact PySem.F.plainAttrs_dict
  have slot : Slot (mtId m).1 (mthName m) (mtId m).2.2 := by
    cases m
    · exact PySem.F.slot_list_append
    · exact PySem.F.slot_list_extend
    · exact PySem.F.slot_list_pop
    · exact PySem.F.slot_dict_get
  have hty : typeOf (.builtin (mtId m).2.2) = pure (.type "method_descriptor") := by
    cases m
    · exact PySem.F.type_list_append
    · exact PySem.F.type_list_extend
    · exact PySem.F.type_list_pop
    · exact PySem.F.type_dict_get
  cases l with
  | nil =>
    cases es with
    | cons _ _ => simp [chkEs] at hc
    | nil =>
      refine ek_val ((pe_bm0 pa slot hty (mt_all (T := T) W.hu m) ho (base_ok hb) hline).imp fun σ H Q q => ?_) (fun _ => rfl) (fun _ _ _ z => nomatch z)
      obtain ⟨μ, h0, σd, r, R, Sr, e, o⟩ := q
      simp only [evE, evEs] at e
      obtain ⟨ra, e1, e2⟩ := Option.bind_eq_some_iff.mp e
      obtain ⟨hc, e2⟩ := Option.ite_none_right_eq_some.mp e2
      obtain ⟨rb, e3, e4⟩ := Option.bind_eq_some_iff.mp e2
      cases e3
      exact ⟨μ, h0, σd, ra, R, Sr, e1, fun μ1 H1 x p t R1 rx => ⟨tyV_of R1 rx hc, μ1, ra.2, ra.1, [], r, R1, rx, .nil, e4, o.later p t⟩⟩
  | cons e0 es0 =>
    have hst : starEach (e0 :: es0) X.env = (false, eval e0 X.env) :: starEach es0 X.env := by
      cases es with
      | nil => simp [chkEs] at hc
      | cons e1 es1 => simp only [chkEs, Bool.and_eq_true] at hc; exact star_cons hc.1.1
    have hany : (backTo cpos (starEach es0 X.env)).any (·.1) = false := by
      cases es with
      | nil => simp [chkEs] at hc
      | cons e1 es1 => simp only [chkEs, Bool.and_eq_true] at hc; exact stars_any hc.2
    have hfew : ((backTo cpos (starEach (e0 :: es0) X.env)).all (fun x => !x.1) && (backToKw cpos (keywordEach [] X.env)).all (fun x => x.1.isSome)
      && decide ((e0 :: es0).length + ([] : List Keyword).length + (if ([] : List Keyword).isEmpty then 0 else 1) < 30)) = true := by
      rw [stars_all hc]
      have : (e0 :: es0).length + 0 + 0 < 30 := by simp only [List.length_cons] at hlen ⊢; omega
      simpa [backToKw, keywordEach] using this
    exact ek_val ((pe_bm pa slot hty (mt_all (T := T) W.hu m) ho ha (base_ok hb) hfew hline hst hany).imp fun σ H Q q => tI_mth q) (fun _ => rfl) (fun _ _ _ z => nomatch z)
theorem ek_chn (hu : X.A.units + 400 < cLine) {o1 o2 : COp} (ha : PE X x (tI X.K T (evE cl a))) (hb : PE X y (tI X.K T (evE cl b))) (hc : PE X z (tI X.K T (evE cl c))) (hs : noSet z = true) : EK X T (evE cl (.x (.chn o1 o2 a b c))) (.Compare x [cmpOf o1, cmpOf o2] [y, z] pos) := by
  have hm : lastMarks [cmpOf o1, cmpOf o2] [y, z] = false := marks_ok hs
  exact ⟨(pe_chain (cmp_all (T := T) hu o1) (cmp_all (T := T) hu o2) ha hb hc hm).imp fun σ H Q q => chain_of q, fun _ => (pt_chain (cmp_all (T := T) hu o1) (cmp_all (T := T) hu o2) ha hb hc hm).imp fun σ H Q q => chain_of (chain_test q), fun _ _ _ z => nomatch z⟩
theorem gd_ok (W : XW G cl T L S n X) {x : Str} {kvs : List (D × D)} (h : gdB G S x kvs = true) : Gl X x ∧ (x == ("__debug__" : Str)) = false ∧ ∃ g, X.mg x = some (.ref g) ∧ KDi X.K g kvs := by
  simp only [gdB, Bool.and_eq_true, List.any_eq_true, beq_iff_eq] at h
  obtain ⟨hg, ⟨y, kv'⟩, hm, e1, e2⟩ := h
  have e2 := kvSame_eq e2
  simp only at e1 e2
  subst e1 e2
  obtain ⟨g1, g2, _⟩ := W.glo hg
  obtain ⟨g, h1, h2⟩ := W.gd _ _ hm
  exact ⟨g1, g2, g, h1, h2⟩
theorem ek_gix (W : XW G cl T L S n X) {kvs : List (D × D)} {nm : Str} {p0 : Pos} (h : gdB G S nm kvs = true) (ha : PE X y (tI X.K T (evE cl a))) (hs : noSlice y = true) : EK X T (evE cl (.x (.gix kvs a))) (.Subscript (.Name nm p0) y pos) := by
  obtain ⟨g1, g2, g, g3, g4⟩ := gd_ok W h
  exact ek_val (pe_gix g4 g1 g3 g2 ha (plain_ix hs)) (fun _ => rfl) (fun _ _ _ z => nomatch z)
theorem ek_gin (W : XW G cl T L S n X) {neg : Bool} {kvs : List (D × D)} {nm : Str} {p0 : Pos} (h : gdB G S nm kvs = true) (ha : PE X y (tI X.K T (evE cl a))) : EK X T (evE cl (.x (.gin neg kvs a))) (.Compare y [if neg then .NotIn else .In] [.Name nm p0] pos) := by
  obtain ⟨g1, g2, g, g3, g4⟩ := gd_ok W h
  exact ⟨pe_gin g4 g1 g3 g2 ha, fun _ => pt_gin g4 g1 g3 g2 ha, fun _ _ _ z => nomatch z⟩
theorem ek_drg (W : XW G cl T L S n X) {x y : Str} {m : Expr} {a : ME} {nm p2 pos2 : Pos} (hb : bltB G S x "list" = true) (hy : bltB G S y "range" = true) (hs : noStar m = true) (ha : PE X m (tI X.K T (evE cl a))) :
    EK X T (evE cl (.x (.drg a))) (.Call (.Name x nm) [.Call (.Name y p2) [m] [] pos2] [] pos) := by
  obtain ⟨rfl, g1, g2, g3, g4⟩ := blt_id W hb
  obtain ⟨rfl, k1, k2, k3, k4⟩ := blt_id W hy
  exact ek_val (pe_drg W.calm g1 g2 k1 k2 ha (star_cons hs)) (fun _ => rfl) (fun _ _ _ z => nomatch z)
theorem ek_rev {j : Nat} {p1 p2 p3 : Pos} (ha : PE X x (tI X.K T (evE cl a))) : EK X T (evE cl (.x (.rev a))) (.Subscript x (.Slice none none (some (.UnaryOp .USub (.Constant (.int 1) j p1) p2)) p3) pos) :=
  ek_val (pe_rev ha) (fun _ => rfl) (fun _ _ _ z => nomatch z)
theorem ek_dst {k v : ME} {ek ev : Expr} (ha : PE X x (tI X.K T (evE cl a))) (hk : PE X ek (tI X.K T (evE cl k))) (hv : PE X ev (tI X.K T (evE cl v))) : EK X T (evE cl (.x (.dst a k v))) (.Dict [none, some ek] [x, ev] pos) :=
  ek_val (pe_dst ha hk hv) (fun _ => rfl) (fun _ _ _ z => nomatch z)
end
end MP
namespace MP
open PySem PySem.Spec PyProof.Rows L2
section
variable {G : GI} {cl : Nat → List D → HI → Rz} {T : List Addr} {L : Nat}
def ifB (G : GI) (S : SC) (n : Nat) (ifs : List Expr) (c : ME) : Bool := chkIfs (fun f => chkE G S n c f) c ifs
theorem pts_of {X : Cx} {S : SC} {n : Nat} {ifs : List Expr} {c : ME} (h : ifB G S n ifs c = true) (ih : ∀ f, chkE G S n c f = true → EK X T (evE cl c) f) : PTs X ifs (tBl X.K T (tst (evE cl c))) := by
  cases ifs with
  | nil =>
    have h : isYes c = true := h
    have e : c = .cst (.bl true) := by
      cases c with
      | cst d =>
        cases d with
        | bl b => rw [show b = true from h]
        | _ => cases h
      | _ => cases h
    subst e
    refine pts_nil.imp fun σ H Q q => ?_
    obtain ⟨μ, h0, σd, r, R, Sr, e, o⟩ := q
    cases e
    exact o μ H (List.prefix_refl _) TK.refl R
  | cons f r =>
    cases r with
    | nil =>
      have h : (okT f && chkE G S n c f) = true := h
      simp only [Bool.and_eq_true] at h
      exact pts_one ((ih f h.2).2.1 h.1)
    | cons _ _ => cases h
theorem sub_ok {a b : List Nat} (h : subset a b = true) : ∀ i ∈ a, i ∈ b := by simpa [subset] using h
theorem omit_ok {v : ME} (h : isOmit v = true) : v = .omit := by cases v <;> first | rfl | cases h
variable {S : SC} {n : Nat} {X : Cx}
theorem ek_lc (W : XW G cl T L S n X) {own : List Nat} {t : Tg} {i : MI} {c e v : ME} {elt tg iter : Expr} {ifs : List Expr} {scope : Scope} {pos : Pos} (hb : blkB S.N S.sc scope (ownOf S.N own) = true) (hi : PI X tg iter (tIt X.K T (evI cl i))) (hs : noSet iter = true)
    (ht : chkT ⟨S.N, relS scope S.sc, false⟩ t tg = true) (hx : subset t.ix own = true) (hf : ifB G ⟨S.N, relS scope S.sc, false⟩ n ifs c = true)
    (ihc : ∀ X', XW G cl T L ⟨S.N, relS scope S.sc, false⟩ n X' → ∀ f, chkE G ⟨S.N, relS scope S.sc, false⟩ n c f = true → EK X' T (evE cl c) f)
    (ihe : ∀ X', XW G cl T L ⟨S.N, relS scope S.sc, false⟩ n X' → EK X' T (evE cl e) elt) (hv : isOmit v = true) :
    EK X T (evE cl (.comp .lst own (.one t i c e v))) (.ListComp elt [⟨tg, iter, ifs, 0⟩] scope pos) := by
  have bo := blkB_ok hb
  have := pe_lc (pos := pos) (te := tI X.K T (evE cl e)) (tt := tBl X.K T (tst (evE cl c))) (g := tGd X.K t) W.calm W.nd hi (by rw [W.N, W.sc]; exact bo) (fun s H C cs fp => sndT (W.blk s H C cs fp scope).xt ht) (fun s H C cs fp => pts_of hf (ihc _ (W.blk s H C cs fp scope))) (fun s H C cs fp => (ihe _ (W.blk s H C cs fp scope)).1) (fold_ok hs)
  rw [ownOf_ix] at this
  exact ek_val (this.imp fun σ H Q q => lc_of (omit_ok hv) (sub_ok hx) q) (fun _ => rfl) (fun _ _ _ z => nomatch z)
theorem ek_dc (W : XW G cl T L S n X) {own : List Nat} {t : Tg} {i : MI} {c e v : ME} {elt val tg iter : Expr} {ifs : List Expr} {scope : Scope} {pos : Pos} (hb : blkB S.N S.sc scope (ownOf S.N own) = true) (hi : PI X tg iter (tIt X.K T (evI cl i))) (hs : noSet iter = true)
    (ht : chkT ⟨S.N, relS scope S.sc, false⟩ t tg = true) (hx : subset t.ix own = true) (hf : ifB G ⟨S.N, relS scope S.sc, false⟩ n ifs c = true)
    (ihc : ∀ X', XW G cl T L ⟨S.N, relS scope S.sc, false⟩ n X' → ∀ f, chkE G ⟨S.N, relS scope S.sc, false⟩ n c f = true → EK X' T (evE cl c) f)
    (ihe : ∀ X', XW G cl T L ⟨S.N, relS scope S.sc, false⟩ n X' → EK X' T (evE cl e) elt) (ihv : ∀ X', XW G cl T L ⟨S.N, relS scope S.sc, false⟩ n X' → EK X' T (evE cl v) val) :
    EK X T (evE cl (.comp .dct own (.one t i c e v))) (.DictComp elt val [⟨tg, iter, ifs, 0⟩] scope pos) := by
  have bo := blkB_ok hb
  have := pe_dc (pos := pos) (tk := tI X.K T (evE cl e)) (tv := tI X.K T (evE cl v)) (tt := tBl X.K T (tst (evE cl c))) (g := tGd X.K t) W.calm W.nd hi (by rw [W.N, W.sc]; exact bo) (fun s H C cs fp => sndT (W.blk s H C cs fp scope).xt ht) (fun s H C cs fp => pts_of hf (ihc _ (W.blk s H C cs fp scope))) (fun s H C cs fp => (ihe _ (W.blk s H C cs fp scope)).1) (fun s H C cs fp => (ihv _ (W.blk s H C cs fp scope)).1) (fold_ok hs)
  rw [ownOf_ix] at this
  exact ek_val (this.imp fun σ H Q q => dc_of (sub_ok hx) q) (fun _ => rfl) (fun _ _ _ z => nomatch z)
theorem ek_lc2 (W : XW G cl T L S n X) {own own1 : List Nat} {t t1 : Tg} {i i1 : MI} {c c1 e v : ME} {elt tg iter tg1 iter1 : Expr} {ifs ifs1 : List Expr} {scope : Scope} {pos : Pos} (hb : blkB S.N S.sc scope (ownOf S.N own) = true) (ho : subset own1 own = true)
    (hi : PI X tg iter (tIt X.K T (evI cl i))) (hs : noSet iter = true)
    (ht : chkT ⟨S.N, relS scope S.sc, false⟩ t tg = true) (hx : subset t.ix own = true) (hf : ifB G ⟨S.N, relS scope S.sc, false⟩ n ifs c = true)
    (ihc : ∀ X', XW G cl T L ⟨S.N, relS scope S.sc, false⟩ n X' → ∀ f, chkE G ⟨S.N, relS scope S.sc, false⟩ n c f = true → EK X' T (evE cl c) f)
    (hi1 : ∀ X', XW G cl T L ⟨S.N, relS scope S.sc, false⟩ n X' → PI X' tg1 iter1 (tIt X'.K T (evI cl i1))) (hs1 : noSet iter1 = true)
    (ht1 : chkT ⟨S.N, relS scope S.sc, false⟩ t1 tg1 = true) (hx1 : subset t1.ix own1 = true) (hf1 : ifB G ⟨S.N, relS scope S.sc, false⟩ n ifs1 c1 = true)
    (ihc1 : ∀ X', XW G cl T L ⟨S.N, relS scope S.sc, false⟩ n X' → ∀ f, chkE G ⟨S.N, relS scope S.sc, false⟩ n c1 f = true → EK X' T (evE cl c1) f)
    (ihe : ∀ X', XW G cl T L ⟨S.N, relS scope S.sc, false⟩ n X' → EK X' T (evE cl e) elt) (hv : isOmit v = true) :
    EK X T (evE cl (.comp .lst own (.more t i c own1 (.one t1 i1 c1 e v)))) (.ListComp elt [⟨tg, iter, ifs, 0⟩, ⟨tg1, iter1, ifs1, 0⟩] scope pos) := by
  have bo := blkB_ok hb
  have := pe_lc2 (pos := pos) (vs1 := own1) (te := tI X.K T (evE cl e)) (tt := tBl X.K T (tst (evE cl c))) (g := tGd X.K t) (wi1 := tIt X.K T (evI cl i1)) (tt1 := tBl X.K T (tst (evE cl c1))) (g1 := tGd X.K t1) W.calm W.nd hi (by rw [W.N, W.sc]; exact bo) (by rw [ownOf_ix]; exact sub_ok ho) (fun s H C cs fp => sndT (W.blk s H C cs fp scope).xt ht) (fun s H C cs fp => pts_of hf (ihc _ (W.blk s H C cs fp scope)))
    (fun s H C cs fp => hi1 _ (W.blk s H C cs fp scope)) (fun s H C cs fp => sndT (W.blk s H C cs fp scope).xt ht1) (fun s H C cs fp => pts_of hf1 (ihc1 _ (W.blk s H C cs fp scope))) (fun s H C cs fp => (ihe _ (W.blk s H C cs fp scope)).1) (fold_ok hs) (fun env => fold_ok hs1)
  rw [ownOf_ix] at this
  exact ek_val (this.imp fun σ H Q q => lc2_of (omit_ok hv) (sub_ok hx) (sub_ok hx1) q) (fun _ => rfl) (fun _ _ _ z => nomatch z)
theorem gen_ask (W : XW G cl T L S (n + 1) X) (hn : n = 0) {c0 P : Addr} (hc0 : X.env.code = .ref c0) (tb : GxR.TabB X.base X.mg c0 P) {own : List Nat} {t : Tg} {i : MI} {c e : ME} {elt tg iter : Expr} {ifs : List Expr} {scope : Scope} {gpos : Pos} (hb : genB S.N S.sc scope (ownOf S.N own) = true) (hi : PI X tg iter (tIt X.K T (evI cl i))) (hs : noFold iter = true)
    (ht : chkT ⟨S.N, scope, false⟩ t tg = true) (hf : ifB G ⟨S.N, scope, false⟩ n ifs c = true)
    (ihc : ∀ X', XW G cl T L ⟨S.N, scope, false⟩ n X' → ∀ f, chkE G ⟨S.N, scope, false⟩ n c f = true → EK X' T (evE cl c) f)
    (ihe : ∀ X', XW G cl T L ⟨S.N, scope, false⟩ n X' → EK X' T (evE cl e) elt) :
    GenAsk X P (.GeneratorExp elt [⟨tg, iter, ifs, 0⟩] scope gpos) (tIt X.K T (evI cl i)) (lp1 (tGd X.K t) (tBl X.K T (tst (evE cl c))) (tI X.K T (evE cl e)) own) where
  calm := W.calm
  room := by have := W.room.dp; omega
  make := fun pins s σ H R Q' I h hQ => by
    have sc : GenSc X.N X.env.scope scope (ownOf S.N own) := by rw [W.N, W.sc]; exact genB_ok hb
    refine gen_make (own := ownOf S.N own) (by have := W.room.dp; omega) tb hc0 sc W.nd hi (makes1 sc (gfold_ok hs)) (LpJ := lp1 (tGd X.K t) (tBl X.K T (tst (evE cl c))) (tI X.K T (evE cl e)) own) ?_ I h hQ
    rw [ownOf_ix]
    exact segs1 (X := X) (elt := elt) (tg := tg) (iter := iter) (ifs := ifs) (gpos := gpos) (scope := scope) (vs := own) (g := tGd X.K t) (tt := tBl X.K T (tst (evE cl c))) (te := tI X.K T (evE cl e)) W.calm sc.co
      (fun A s H C cs code fp a og => sndT (S := ⟨S.N, scope, false⟩) (X := gcx X A s H scope (genEnv scope cs C code builtinsNs X.env) fp a og) ⟨W.N, rfl, W.nd, (fun z => nomatch z), W.calm⟩ ht)
      (fun A s H C cs code fp a og h1 h2 h3 => pts_of hf (ihc _ (W.gen hn A s H C cs code fp a og scope h1 h2 h3)))
      (fun A s H C cs code fp a og h1 h2 h3 => (ihe _ (W.gen hn A s H C cs code fp a og scope h1 h2 h3)).1)
theorem gen_ask2 (W : XW G cl T L S (n + 1) X) (hn : n = 0) {c0 P : Addr} (hc0 : X.env.code = .ref c0) (tb : GxR.TabB X.base X.mg c0 P) {own own1 : List Nat} {t t1 : Tg} {i i1 : MI} {c c1 e : ME} {elt tg iter tg1 iter1 : Expr} {ifs ifs1 : List Expr} {scope : Scope} {gpos : Pos} (hb : genB S.N S.sc scope (ownOf S.N own) = true) (ho : subset own1 own = true) (hi : PI X tg iter (tIt X.K T (evI cl i))) (hs : noFold iter = true)
    (ht : chkT ⟨S.N, scope, false⟩ t tg = true) (hf : ifB G ⟨S.N, scope, false⟩ n ifs c = true)
    (ihc : ∀ X', XW G cl T L ⟨S.N, scope, false⟩ n X' → ∀ f, chkE G ⟨S.N, scope, false⟩ n c f = true → EK X' T (evE cl c) f)
    (hi1 : ∀ X', XW G cl T L ⟨S.N, scope, false⟩ n X' → PI X' tg1 iter1 (tIt X'.K T (evI cl i1))) (hs1 : noSet iter1 = true)
    (ht1 : chkT ⟨S.N, scope, false⟩ t1 tg1 = true) (hf1 : ifB G ⟨S.N, scope, false⟩ n ifs1 c1 = true)
    (ihc1 : ∀ X', XW G cl T L ⟨S.N, scope, false⟩ n X' → ∀ f, chkE G ⟨S.N, scope, false⟩ n c1 f = true → EK X' T (evE cl c1) f)
    (ihe : ∀ X', XW G cl T L ⟨S.N, scope, false⟩ n X' → EK X' T (evE cl e) elt) :
    GenAsk X P (.GeneratorExp elt [⟨tg, iter, ifs, 0⟩, ⟨tg1, iter1, ifs1, 0⟩] scope gpos) (tIt X.K T (evI cl i)) (lp2 (tGd X.K t) (tBl X.K T (tst (evE cl c))) (tIt X.K T (evI cl i1)) (tGd X.K t1) (tBl X.K T (tst (evE cl c1))) (tI X.K T (evE cl e)) own own1) where
  calm := W.calm
  room := by have := W.room.dp; omega
  make := fun pins s σ H R Q' I h hQ => by
    have sc : GenSc X.N X.env.scope scope (ownOf S.N own) := by rw [W.N, W.sc]; exact genB_ok hb
    refine gen_make (own := ownOf S.N own) (by have := W.room.dp; omega) tb hc0 sc W.nd hi (makes_any sc (gfold_ok hs)) (LpJ := lp2 (tGd X.K t) (tBl X.K T (tst (evE cl c))) (tIt X.K T (evI cl i1)) (tGd X.K t1) (tBl X.K T (tst (evE cl c1))) (tI X.K T (evE cl e)) own own1) ?_ I h hQ
    rw [ownOf_ix]
    exact segs2 (X := X) (elt := elt) (tg := tg) (iter := iter) (ifs := ifs) (tg1 := tg1) (iter1 := iter1) (ifs1 := ifs1) (gpos := gpos) (scope := scope) (vs := own) (vs1 := own1) (g := tGd X.K t) (tt := tBl X.K T (tst (evE cl c))) (wi1 := tIt X.K T (evI cl i1)) (g1 := tGd X.K t1) (tt1 := tBl X.K T (tst (evE cl c1))) (te := tI X.K T (evE cl e)) W.calm sc.co (sub_ok ho) (fun env => fold_ok hs1)
      (fun A s H C cs code fp a og => sndT (S := ⟨S.N, scope, false⟩) (X := gcx X A s H scope (genEnv scope cs C code builtinsNs X.env) fp a og) ⟨W.N, rfl, W.nd, (fun z => nomatch z), W.calm⟩ ht)
      (fun A s H C cs code fp a og h1 h2 h3 => pts_of hf (ihc _ (W.gen hn A s H C cs code fp a og scope h1 h2 h3)))
      (fun A s H C cs code fp a og h1 h2 h3 => hi1 _ (W.gen hn A s H C cs code fp a og scope h1 h2 h3))
      (fun A s H C cs code fp a og => sndT (S := ⟨S.N, scope, false⟩) (X := gcx X A s H scope (genEnv scope cs C code builtinsNs X.env) fp a og) ⟨W.N, rfl, W.nd, (fun z => nomatch z), W.calm⟩ ht1)
      (fun A s H C cs code fp a og h1 h2 h3 => pts_of hf1 (ihc1 _ (W.gen hn A s H C cs code fp a og scope h1 h2 h3)))
      (fun A s H C cs code fp a og h1 h2 h3 => (ihe _ (W.gen hn A s H C cs code fp a og scope h1 h2 h3)).1)
theorem ek_gen (W : XW G cl T L S (n + 1) X) (hn : n = 0) {k : CK} {own : List Nat} {t : Tg} {i : MI} {c e v : ME} {elt tg iter : Expr} {ifs : List Expr} {scope : Scope} {x : Str} {pos nm gpos : Pos} (hk : genK G S x k = true)
    (hb : genB S.N S.sc scope (ownOf S.N own) = true) (hi : PI X tg iter (tIt X.K T (evI cl i))) (hs : noFold iter = true)
    (ht : chkT ⟨S.N, scope, false⟩ t tg = true) (hx : subset t.ix own = true) (hf : ifB G ⟨S.N, scope, false⟩ n ifs c = true)
    (ihc : ∀ X', XW G cl T L ⟨S.N, scope, false⟩ n X' → ∀ f, chkE G ⟨S.N, scope, false⟩ n c f = true → EK X' T (evE cl c) f)
    (ihe : ∀ X', XW G cl T L ⟨S.N, scope, false⟩ n X' → EK X' T (evE cl e) elt) (hv : isOmit v = true) :
    EK X T (evE cl (.comp k own (.one t i c e v))) (.Call (.Name x nm) [.GeneratorExp elt [⟨tg, iter, ifs, 0⟩] scope gpos] [] pos) := by
  obtain ⟨c0, P, hc0, tb, hP⟩ := W.code (Nat.succ_pos n)
  have K := gen_ask W hn hc0 tb (gpos := gpos) hb hi hs ht hf ihc ihe
  cases k with
  | gtup =>
    obtain ⟨rfl, g1, g2, g3, g4⟩ := blt_id W hk
    exact ek_val ((pe_gtup (p := nm) (pos := pos) K g1 g2 (he := by rfl)).imp fun σ H Q q => gtup_of hP (omit_ok hv) (sub_ok hx) q) (fun _ => rfl) (fun _ _ _ z => nomatch z)
  | gall =>
    obtain ⟨rfl, g1, g2, g3, g4⟩ := blt_id W hk
    exact ek_val ((pe_gall (p := nm) (pos := pos) K g1 g2 (he := by rfl)).imp fun σ H Q q => gall_of hP (omit_ok hv) (sub_ok hx) q) (fun _ => rfl) (fun _ _ _ z => nomatch z)
  | gany =>
    obtain ⟨rfl, g1, g2, g3, g4⟩ := blt_id W hk
    exact ek_val ((pe_gany (p := nm) (pos := pos) K g1 g2 (he := by rfl)).imp fun σ H Q q => gany_of hP (omit_ok hv) (sub_ok hx) q) (fun _ => rfl) (fun _ _ _ z => nomatch z)
  | _ => cases hk
theorem ek_gen2 (W : XW G cl T L S (n + 1) X) (hn : n = 0) {k : CK} {own own1 : List Nat} {t t1 : Tg} {i i1 : MI} {c c1 e v : ME} {elt tg iter tg1 iter1 : Expr} {ifs ifs1 : List Expr} {scope : Scope} {x : Str} {pos nm gpos : Pos} (hk : genK G S x k = true) (ha : allAny k = true)
    (hb : genB S.N S.sc scope (ownOf S.N own) = true) (ho : subset own1 own = true) (hi : PI X tg iter (tIt X.K T (evI cl i))) (hs : noFold iter = true)
    (ht : chkT ⟨S.N, scope, false⟩ t tg = true) (hx : subset t.ix own = true) (hf : ifB G ⟨S.N, scope, false⟩ n ifs c = true)
    (ihc : ∀ X', XW G cl T L ⟨S.N, scope, false⟩ n X' → ∀ f, chkE G ⟨S.N, scope, false⟩ n c f = true → EK X' T (evE cl c) f)
    (hi1 : ∀ X', XW G cl T L ⟨S.N, scope, false⟩ n X' → PI X' tg1 iter1 (tIt X'.K T (evI cl i1))) (hs1 : noSet iter1 = true)
    (ht1 : chkT ⟨S.N, scope, false⟩ t1 tg1 = true) (hx1 : subset t1.ix own1 = true) (hf1 : ifB G ⟨S.N, scope, false⟩ n ifs1 c1 = true)
    (ihc1 : ∀ X', XW G cl T L ⟨S.N, scope, false⟩ n X' → ∀ f, chkE G ⟨S.N, scope, false⟩ n c1 f = true → EK X' T (evE cl c1) f)
    (ihe : ∀ X', XW G cl T L ⟨S.N, scope, false⟩ n X' → EK X' T (evE cl e) elt) (hv : isOmit v = true) :
    EK X T (evE cl (.x (.gn2 k own (.more t i c own1 (.one t1 i1 c1 e v))))) (.Call (.Name x nm) [.GeneratorExp elt [⟨tg, iter, ifs, 0⟩, ⟨tg1, iter1, ifs1, 0⟩] scope gpos] [] pos) := by
  obtain ⟨c0, P, hc0, tb, hP⟩ := W.code (Nat.succ_pos n)
  have K := gen_ask2 W hn hc0 tb (gpos := gpos) hb ho hi hs ht hf ihc hi1 hs1 ht1 hf1 ihc1 ihe
  cases k with
  | gall =>
    obtain ⟨rfl, g1, g2, g3, g4⟩ := blt_id W hk
    refine ek_val ((pe_gall (p := nm) (pos := pos) K g1 g2 (he := by rfl)).imp fun σ H Q q => ?_) (fun _ => rfl) (fun _ _ _ z => nomatch z)
    exact g2_of hP true (omit_ok hv) (sub_ok hx) (sub_ok hx1) q
  | gany =>
    obtain ⟨rfl, g1, g2, g3, g4⟩ := blt_id W hk
    refine ek_val ((pe_gany (p := nm) (pos := pos) K g1 g2 (he := by rfl)).imp fun σ H Q q => ?_) (fun _ => rfl) (fun _ _ _ z => nomatch z)
    exact g2_of hP false (omit_ok hv) (sub_ok hx) (sub_ok hx1) q
  | _ => cases ha
theorem ek_ssc (W : XW G cl T L S n X) {own own1 : List Nat} {t t1 : Tg} {i i1 : MI} {c c1 e v : ME} {elt tg iter tg1 iter1 : Expr} {ifs ifs1 : List Expr} {scope : Scope} {x : Str} {nm pos pos2 : Pos} (hk : bltB G S x "sorted" = true) (hb : blkB S.N S.sc scope (ownOf S.N own) = true) (ho : subset own1 own = true)
    (hi : PI X tg iter (tIt X.K T (evI cl i))) (hs : noSet iter = true)
    (ht : chkT ⟨S.N, relS scope S.sc, false⟩ t tg = true) (hx : subset t.ix own = true) (hf : ifB G ⟨S.N, relS scope S.sc, false⟩ n ifs c = true)
    (ihc : ∀ X', XW G cl T L ⟨S.N, relS scope S.sc, false⟩ n X' → ∀ f, chkE G ⟨S.N, relS scope S.sc, false⟩ n c f = true → EK X' T (evE cl c) f)
    (hi1 : ∀ X', XW G cl T L ⟨S.N, relS scope S.sc, false⟩ n X' → PI X' tg1 iter1 (tIt X'.K T (evI cl i1))) (hs1 : noSet iter1 = true)
    (ht1 : chkT ⟨S.N, relS scope S.sc, false⟩ t1 tg1 = true) (hx1 : subset t1.ix own1 = true) (hf1 : ifB G ⟨S.N, relS scope S.sc, false⟩ n ifs1 c1 = true)
    (ihc1 : ∀ X', XW G cl T L ⟨S.N, relS scope S.sc, false⟩ n X' → ∀ f, chkE G ⟨S.N, relS scope S.sc, false⟩ n c1 f = true → EK X' T (evE cl c1) f)
    (ihe : ∀ X', XW G cl T L ⟨S.N, relS scope S.sc, false⟩ n X' → EK X' T (evE cl e) elt) (hv : isOmit v = true) :
    EK X T (evE cl (.x (.ssc own (.more t i c own1 (.one t1 i1 c1 e v))))) (.Call (.Name x nm) [.SetComp elt [⟨tg, iter, ifs, 0⟩, ⟨tg1, iter1, ifs1, 0⟩] scope pos2] [] pos) := by
  obtain ⟨rfl, g1, g2, g3, g4⟩ := blt_id W hk
  have bo := blkB_ok hb
  refine ek_val (pe_ssc (own := ownOf S.N own) (vs1 := own1) (te := tI X.K T (evE cl e)) (tt := tBl X.K T (tst (evE cl c))) (g := tGd X.K t) (wi := tIt X.K T (evI cl i)) (wi1 := tIt X.K T (evI cl i1)) (tt1 := tBl X.K T (tst (evE cl c1))) (g1 := tGd X.K t1) W.calm g1 g2 (by decide +kernel) W.nd hi (by rw [W.N, W.sc]; exact bo) (by rw [ownOf_ix]; exact sub_ok ho)
    (fun s H C cs fp => sndT (W.blk s H C cs fp scope).xt ht) (fun s H C cs fp => pts_of hf (ihc _ (W.blk s H C cs fp scope))) (fun s H C cs fp => hi1 _ (W.blk s H C cs fp scope)) (fun s H C cs fp => sndT (W.blk s H C cs fp scope).xt ht1) (fun s H C cs fp => pts_of hf1 (ihc1 _ (W.blk s H C cs fp scope))) (fun s H C cs fp => (ihe _ (W.blk s H C cs fp scope)).1) (fold_ok hs) (fun env => fold_ok hs1) fun σ H Q q => ?_) (fun _ => rfl) (fun _ _ _ z => nomatch z)
  rw [ownOf_ix]
  exact ssc_of (omit_ok hv) (sub_ok hx) (sub_ok hx1) q
theorem ik_rng (W : XW G cl T L S n X) {x : Str} {l : List Expr} {ms : MEs} {tg : Expr} {nm pos : Pos} (hb : bltB G S x "range" = true) (hl : (l.length == 1 || l.length == 2) = true) (hc : chkEs G S n ms l = true) (ha : PA X l (tL X.K T (evEs cl ms))) :
    PI X tg (.Call (.Name x nm) l [] pos) (tIt X.K T (evI cl (.rng ms))) := by
  obtain ⟨rfl, g1, g2, g3, g4⟩ := blt_id W hb
  match l, ms, hc, hl, ha with
  | [e1], .cons m1 .nil, hc, _, ha =>
    simp only [chkEs, Bool.and_eq_true] at hc
    exact pi_rng1 g1 g2 ha (star_cons hc.1.1) fun σ h r e => by
      have := evEs_length (G := G) (S := S) (n := n) (es := [e1]) (by simp only [chkEs, Bool.and_eq_true]; exact hc) e
      exact this
  | [e1, e2], .cons m1 (.cons m2 .nil), hc, _, ha =>
    have hc' := hc
    simp only [chkEs, Bool.and_eq_true] at hc
    exact pi_rng2 g1 g2 ha (by rw [star_cons hc.1.1, star_cons hc.2.1.1]; rfl) (by rw [star_cons hc.2.1.1]; rfl) fun σ h r e => evEs_length hc' e
  | [_], .nil, hc, _, _ => simp [chkEs] at hc
  | [_], .cons _ (.cons _ _), hc, _, _ => simp [chkEs] at hc
  | [_, _], .nil, hc, _, _ => simp [chkEs] at hc
  | [_, _], .cons _ .nil, hc, _, _ => simp [chkEs] at hc
  | [_, _], .cons _ (.cons _ (.cons _ _)), hc, _, _ => simp [chkEs] at hc
  | [], _, _, hl, _ => simp at hl
  | _ :: _ :: _ :: _, _, _, hl, _ => simp at hl
theorem ik_zip (W : XW G cl T L S n X) {x : Str} {e1 e2 tg : Expr} {a b : ME} {nm pos : Pos} (ht : isTup tg = true) (hb : bltB G S x "zip" = true) (s1 : noStar e1 = true) (s2 : noStar e2 = true) (ha : PE X e1 (tI X.K T (evE cl a))) (hb2 : PE X e2 (tI X.K T (evE cl b))) :
    PI X tg (.Call (.Name x nm) [e1, e2] [] pos) (tIt X.K T (evI cl (.zip a b))) := by
  obtain ⟨rfl, g1, g2, g3, g4⟩ := blt_id W hb
  cases tg with
  | Tuple elts k p => exact pi_zip' g1 g2 ha hb2 (star_cons s1) (star_cons s2) (by rw [star_cons s2]; rfl)
  | _ => cases ht
theorem ik_enm (W : XW G cl T L S n X) {x : Str} {e1 tg : Expr} {a : ME} {nm pos : Pos} (ht : isTup tg = true) (hb : bltB G S x "enumerate" = true) (s1 : noStar e1 = true) (ha : PE X e1 (tI X.K T (evE cl a))) :
    PI X tg (.Call (.Name x nm) [e1] [] pos) (tIt X.K T (evI cl (.enm a))) := by
  obtain ⟨rfl, g1, g2, g3, g4⟩ := blt_id W hb
  cases tg with
  | Tuple elts k p => exact pi_enm' g1 g2 ha (star_cons s1)
  | _ => cases ht
end
end MP
namespace MP
open PySem PySem.Spec PyProof.Rows L2
section
variable {G : GI} {cl : Nat → List D → HI → Rz} {T : List Addr} {L : Nat}
theorem sp_and {b : ME} {S : SC} {n : Nat} {X : Cx} (ih : ∀ e, chkE G S n b e = true → EK X T (evE cl b) e) (o : BoolOp) (y : Expr) (r : List Expr) (pos : Pos)
    (h0 : (!r.isEmpty || okT y) = true) (h : chkE G S n b (nxt o y r pos) = true) : PE X (.BoolOp o (y :: r) pos) (tI X.K T (evE cl b)) ∧ PW X (.BoolOp o (y :: r) pos) (tBl X.K T (tst (evE cl b))) := by
  cases r with
  | nil =>
    obtain ⟨h1, h2, _⟩ := ih y h
    refine ⟨pe_one h1, ?_⟩
    cases o with
    | And => exact pw_and1 (h2 h0)
    | Or => exact pw_or1 (h2 h0)
  | cons z r =>
    obtain ⟨h1, _, h3⟩ := ih _ h
    exact ⟨h1, h3 _ _ _ rfl⟩
def KE (G : GI) (cl : Nat → List D → HI → Rz) (T : List Addr) (L : Nat) (m : ME) : Prop := ∀ {S : SC} {n : Nat} {X : Cx} {e : Expr}, n ≤ 1 → XW G cl T L S n X → chkE G S n m e = true → EK X T (evE cl m) e
def KI (G : GI) (cl : Nat → List D → HI → Rz) (T : List Addr) (L : Nat) (m : MI) : Prop := ∀ {S : SC} {n : Nat} {X : Cx} {tg e : Expr}, n ≤ 1 → XW G cl T L S n X → chkI G S n m tg e = true → PI X tg e (tIt X.K T (evI cl m))
def ClK (G : GI) (cl : Nat → List D → HI → Rz) (T : List Addr) (L : Nat) : Cl → Prop
  | .one t i c e v => KI G cl T L i ∧ KE G cl T L c ∧ KE G cl T L e ∧ KE G cl T L v
  | .more t i c own r => KI G cl T L i ∧ KE G cl T L c ∧ ClK G cl T L r
theorem ek_comp {k : CK} {own : List Nat} {c : Cl} (K : ClK G cl T L c) : KE G cl T L (.comp k own c) := by
  intro S n X e hn W h
  cases e with
  | ListComp elt gens scope pos =>
    cases k with
    | lst =>
      cases c with
      | one t i c e v =>
        match gens, h with
        | [⟨tg, iter, ifs, as⟩], h =>
          simp only [chkE, Bool.and_eq_true, beq_iff_eq] at h
          obtain ⟨⟨⟨⟨⟨⟨⟨⟨rfl, h1⟩, h2⟩, h3⟩, h4⟩, h5⟩, h6⟩, h7⟩, h8⟩ := h
          exact ek_lc W h1 (K.1 hn W h2) h3 h4 h5 h6 (fun X' W' f hf => K.2.1 hn W' hf) (fun X' W' => K.2.2.1 hn W' h7) h8
        | [], h => simp [chkE] at h
        | _ :: _ :: _, h => simp [chkE] at h
      | more t i c own1 r =>
        cases r with
        | more _ _ _ _ _ => simp [chkE] at h
        | one t1 i1 c1 e v =>
          match gens, h with
          | [⟨tg, iter, ifs, as⟩, ⟨tg1, iter1, ifs1, as1⟩], h =>
            simp only [chkE, Bool.and_eq_true, beq_iff_eq] at h
            obtain ⟨⟨⟨⟨⟨⟨⟨⟨⟨⟨⟨⟨⟨⟨⟨rfl, rfl⟩, h1⟩, h2⟩, h3⟩, h4⟩, h5⟩, h6⟩, h7⟩, h8⟩, h9⟩, h10⟩, h11⟩, h12⟩, h13⟩, h14⟩ := h
            exact ek_lc2 W h1 h2 (K.1 hn W h3) h4 h5 h6 h7 (fun X' W' f hf => K.2.1 hn W' hf) (fun X' W' => K.2.2.1 hn W' h8) h9 h10 h11 h12 (fun X' W' f hf => K.2.2.2.1 hn W' hf) (fun X' W' => K.2.2.2.2.1 hn W' h13) h14
          | [], h => simp [chkE] at h
          | [_], h => simp [chkE] at h
          | _ :: _ :: _ :: _, h => simp [chkE] at h
    | _ => cases c <;> simp [chkE] at h
  | DictComp key val gens scope pos =>
    cases k with
    | dct =>
      cases c with
      | one t i c e v =>
        match gens, h with
        | [⟨tg, iter, ifs, as⟩], h =>
          simp only [chkE, Bool.and_eq_true, beq_iff_eq] at h
          obtain ⟨⟨⟨⟨⟨⟨⟨⟨rfl, h1⟩, h2⟩, h3⟩, h4⟩, h5⟩, h6⟩, h7⟩, h8⟩ := h
          exact ek_dc W h1 (K.1 hn W h2) h3 h4 h5 h6 (fun X' W' f hf => K.2.1 hn W' hf) (fun X' W' => K.2.2.1 hn W' h7) (fun X' W' => K.2.2.2 hn W' h8)
        | [], h => simp [chkE] at h
        | _ :: _ :: _, h => simp [chkE] at h
      | more t i c own1 r => simp [chkE] at h
    | _ => cases c <;> simp [chkE] at h
  | Call fn l kws pos =>
    cases fn with
    | Name x nm =>
      match l, kws, h with
      | [a], [], h =>
        cases a with
        | GeneratorExp elt gens scope gpos =>
          cases c with
          | more t i c own1 r => simp [chkE] at h
          | one t i c e v =>
            match gens, h with
            | [⟨tg, iter, ifs, as⟩], h =>
              have h : (as == 0 && genK G S x k && n == 1 && genB S.N S.sc scope (ownOf S.N own) && chkI G S n i tg iter && noFold iter && chkT ⟨S.N, scope, false⟩ t tg && subset t.ix own
                && chkIfs (fun f => chkE G ⟨S.N, scope, false⟩ 0 c f) c ifs && chkE G ⟨S.N, scope, false⟩ 0 e elt && isOmit v) = true := by cases k <;> exact h
              simp only [Bool.and_eq_true, beq_iff_eq] at h
              obtain ⟨⟨⟨⟨⟨⟨⟨⟨⟨⟨rfl, h1⟩, rfl⟩, h2⟩, h3⟩, h4⟩, h5⟩, h6⟩, h7⟩, h8⟩, h9⟩ := h
              exact ek_gen W rfl h1 h2 (K.1 hn W h3) h4 h5 h6 h7 (fun X' W' f hf => K.2.1 (Nat.zero_le _) W' hf) (fun X' W' => K.2.2.1 (Nat.zero_le _) W' h8) h9
            | [], h => cases k <;> simp [chkE] at h
            | _ :: _ :: _, h => cases k <;> simp [chkE] at h
        | _ => cases k <;> cases c <;> simp [chkE] at h
      | [], _, h => cases k <;> cases c <;> simp [chkE] at h
      | _ :: _ :: _, _, h => cases k <;> cases c <;> simp [chkE] at h
      | [_], _ :: _, h => cases k <;> cases c <;> simp [chkE] at h
    | _ => cases k <;> cases c <;> simp [chkE] at h
  | _ => cases k <;> cases c <;> simp [chkE] at h
theorem ek_ssc' {own : List Nat} {c : Cl} (K : ClK G cl T L c) : KE G cl T L (.x (.ssc own c)) := by
  intro S n X ex hn W h
  simp only [chkE] at h
  cases c with
  | one t i c e v => cases ex <;> exact absurd h Bool.false_ne_true
  | more t i c own1 r =>
    cases r with
    | more _ _ _ _ _ => cases ex <;> exact absurd h Bool.false_ne_true
    | one t1 i1 c1 e v =>
      simp only [chkX] at h
      cases hs : scOf ex with
      | none => rw [hs] at h; cases h
      | some y =>
        rw [hs] at h
        obtain ⟨nm, pos2, pos, rfl⟩ := scOf_eq hs
        obtain ⟨x, elt, ⟨tg, iter, ifs, as⟩, ⟨tg1, iter1, ifs1, as1⟩, scope⟩ := y
        simp only [Bool.and_eq_true, beq_iff_eq] at h
        obtain ⟨⟨⟨⟨⟨⟨⟨⟨⟨⟨⟨⟨⟨⟨⟨⟨rfl, rfl⟩, h0⟩, h1⟩, h2⟩, h3⟩, h4⟩, h5⟩, h6⟩, h7⟩, h8⟩, h9⟩, h10⟩, h11⟩, h12⟩, h13⟩, h14⟩ := h
        exact ek_ssc W h0 h1 h2 (K.1 hn W h3) h4 h5 h6 h7 (fun X' W' f hf => K.2.1 hn W' hf) (fun X' W' => K.2.2.1 hn W' h8) h9 h10 h11 h12 (fun X' W' f hf => K.2.2.2.1 hn W' hf) (fun X' W' => K.2.2.2.2.1 hn W' h13) h14
theorem ek_gn2' {k : CK} {own : List Nat} {c : Cl} (K : ClK G cl T L c) : KE G cl T L (.x (.gn2 k own c)) := by
  intro S n X ex hn W h
  simp only [chkE] at h
  cases c with
  | one t i c e v => cases ex <;> exact absurd h Bool.false_ne_true
  | more t i c own1 r =>
    cases r with
    | more _ _ _ _ _ => cases ex <;> exact absurd h Bool.false_ne_true
    | one t1 i1 c1 e v =>
      simp only [chkX] at h
      cases hs : gnOf ex with
      | none => rw [hs] at h; cases h
      | some y =>
        rw [hs] at h
        obtain ⟨nm, pos2, pos, rfl⟩ := gnOf_eq hs
        obtain ⟨x, elt, ⟨tg, iter, ifs, as⟩, ⟨tg1, iter1, ifs1, as1⟩, scope⟩ := y
        simp only [Bool.and_eq_true, beq_iff_eq] at h
        obtain ⟨⟨⟨⟨⟨⟨⟨⟨⟨⟨⟨⟨⟨⟨⟨⟨⟨⟨rfl, rfl⟩, h1⟩, h2⟩, rfl⟩, h3⟩, h4⟩, h5⟩, h6⟩, h7⟩, h8⟩, h9⟩, h10⟩, h11⟩, h12⟩, h13⟩, h14⟩, h15⟩, h16⟩ := h
        exact ek_gen2 W rfl h1 h2 h3 h4 (K.1 hn W h5) h6 h7 h8 h9 (fun X' W' f hf => K.2.1 (Nat.zero_le _) W' hf) (fun X' W' => K.2.2.1 (Nat.zero_le _) W' h10) h11 h12 h13 h14 (fun X' W' f hf => K.2.2.2.1 (Nat.zero_le _) W' hf) (fun X' W' => K.2.2.2.2.1 (Nat.zero_le _) W' h15) h16
mutual
theorem sndE : ∀ (m : ME) {S : SC} {n : Nat} {X : Cx} {e : Expr}, n ≤ 1 → XW G cl T L S n X → chkE G S n m e = true → EK X T (evE cl m) e
  | .var i, S, n, X, e, hn, W, h => by
    cases e with
    | Name x pos => exact ek_var W h
    | _ => simp [chkE] at h
  | .cst d, S, n, X, e, hn, W, h => by
    cases e with
    | Constant c k pos => exact ek_cst h
    | _ => simp [chkE] at h
  | .glb d, S, n, X, e, hn, W, h => by
    cases e with
    | Name x pos => exact ek_glb W h
    | _ => simp [chkE] at h
  | .tup es, S, n, X, e, hn, W, h => by
    cases e with
    | Tuple l k pos => exact ek_tup (sndEs es hn W h)
    | _ => simp [chkE] at h
  | .lst es, S, n, X, e, hn, W, h => by
    cases e with
    | List l pos => exact ek_lst (sndEs es hn W h)
    | _ => simp [chkE] at h
  | .dnew, S, n, X, e, hn, W, h => by
    cases e with
    | Dict ks vs pos =>
      cases ks with
      | cons _ _ => simp [chkE] at h
      | nil =>
        cases vs with
        | cons _ _ => simp [chkE] at h
        | nil => exact ek_dnew
    | _ => simp [chkE] at h
  | .bin op a b, S, n, X, e, hn, W, h => by
    cases e with
    | BinOp x o y pos =>
      simp only [chkE, Bool.and_eq_true, decide_eq_true_eq] at h
      obtain ⟨⟨rfl, h1⟩, h2⟩ := h
      exact ek_bin (sndE a hn W h1).1 (sndE b hn W h2).1
    | _ => simp [chkE] at h
  | .neg a, S, n, X, e, hn, W, h => by
    cases e with
    | UnaryOp o x pos =>
      cases o with
      | USub => exact ek_neg (sndE a hn W h).1
      | _ => simp [chkE] at h
    | _ => simp [chkE] at h
  | .cmp op a b, S, n, X, e, hn, W, h => by
    cases e with
    | Compare x os ys pos =>
      match os, ys, h with
      | [o], [y], h =>
        simp only [chkE, Bool.and_eq_true, decide_eq_true_eq] at h
        obtain ⟨⟨⟨rfl, h1⟩, h2⟩, h3⟩ := h
        exact ek_cmp W.hu (sndE a hn W h1).1 (sndE b hn W h2).1 h3
      | [], _, h => simp [chkE] at h
      | _ :: _ :: _, _, h => simp [chkE] at h
      | [_], [], h => simp [chkE] at h
      | [_], _ :: _ :: _, h => simp [chkE] at h
    | _ => simp [chkE] at h
  | .and a b, S, n, X, e, hn, W, h => by
    cases e with
    | BoolOp o vs pos =>
      match o, vs, h with
      | .And, x :: y :: r, h =>
        simp only [chkE, Bool.and_eq_true] at h
        obtain ⟨⟨⟨h0, h1⟩, h3⟩, h2⟩ := h
        obtain ⟨p1, p2⟩ := sp_and (fun e h => sndE b hn W h) .And y r pos h3 h2
        exact ek_and (sndE a hn W h1).1 ((sndE a hn W h1).2.1 h0) p1 p2
      | .Or, _, h => simp [chkE] at h
      | .And, [], h => simp [chkE] at h
      | .And, [_], h => simp [chkE] at h
    | _ => simp [chkE] at h
  | .or a b, S, n, X, e, hn, W, h => by
    cases e with
    | BoolOp o vs pos =>
      match o, vs, h with
      | .Or, x :: y :: r, h =>
        simp only [chkE, Bool.and_eq_true] at h
        obtain ⟨⟨⟨h0, h1⟩, h3⟩, h2⟩ := h
        obtain ⟨p1, p2⟩ := sp_and (fun e h => sndE b hn W h) .Or y r pos h3 h2
        exact ek_or (sndE a hn W h1).1 ((sndE a hn W h1).2.1 h0) p1 p2
      | .And, _, h => simp [chkE] at h
      | .Or, [], h => simp [chkE] at h
      | .Or, [_], h => simp [chkE] at h
    | _ => simp [chkE] at h
  | .not a, S, n, X, e, hn, W, h => by
    cases e with
    | UnaryOp o x pos =>
      cases o with
      | Not =>
        simp only [chkE, Bool.and_eq_true] at h
        exact ek_not (sndE a hn W h.2).1 ((sndE a hn W h.2).2.1 h.1)
      | _ => simp [chkE] at h
    | _ => simp [chkE] at h
  | .ife c a b, S, n, X, e, hn, W, h => by
    cases e with
    | IfExp x y z pos =>
      simp only [chkE, Bool.and_eq_true] at h
      exact ek_ife ((sndE c hn W h.1.1.2).2.1 h.1.1.1) (sndE a hn W h.1.2).1 (sndE b hn W h.2).1
    | _ => simp [chkE] at h
  | .idx a i, S, n, X, e, hn, W, h => by
    cases e with
    | Subscript x y pos =>
      simp only [chkE, Bool.and_eq_true] at h
      exact ek_idx W.hu (sndE a hn W h.1.2).1 (sndE i hn W h.2).1 h.1.1
    | _ => simp [chkE] at h
  | .slc a lo hi, S, n, X, e, hn, W, h => by
    cases e with
    | Subscript x y pos =>
      cases y with
      | Slice l u st p2 =>
        cases st with
        | some _ => simp [chkE] at h
        | none =>
          simp only [chkE, Bool.and_eq_true] at h
          refine ek_slc (sndE a hn W h.1.1).1 ?_ ?_
          · have h2 := h.1.2
            cases l with
            | none => rw [omit_ok h2]; exact part_none
            | some l =>
              simp only [chkPart, Bool.and_eq_true, Bool.not_eq_true'] at h2
              exact part_some (sndE lo hn W h2.2).1 h2.1
          · have h2 := h.2
            cases u with
            | none => rw [omit_ok h2]; exact part_none
            | some l =>
              simp only [chkPart, Bool.and_eq_true, Bool.not_eq_true'] at h2
              exact part_some (sndE hi hn W h2.2).1 h2.1
      | _ => simp [chkE] at h
    | _ => simp [chkE] at h
  | .omit, S, n, X, e, hn, W, h => by simp [chkE] at h
  | .call f es, S, n, X, e, hn, W, h => by
    cases e with
    | Call fn l kws pos =>
      cases fn with
      | Name x nm =>
        match l, kws, h with
        | m :: ms, [], h =>
          simp only [chkE, Bool.and_eq_true] at h
          obtain ⟨⟨⟨h1, h2⟩, _⟩, h3⟩ := h
          unfold fnB at h2
          cases c : G.fs[f]? with
          | none => rw [c] at h2; cases h2
          | some p =>
            obtain ⟨y, np⟩ := p
            rw [c] at h2
            simp only [Bool.and_eq_true, beq_iff_eq] at h2
            obtain ⟨rfl, h4⟩ := h2
            exact ek_call W h1 c h3 (sndEs es hn W h3) h4.symm
        | [], [], h => simp [chkE] at h
        | _, _ :: _, h => simp [chkE] at h
      | _ => simp [chkE] at h
    | _ => simp [chkE] at h
  | .blt bb es, S, n, X, e, hn, W, h => by
    cases e with
    | Call fn l kws pos =>
      cases fn with
      | Name x nm =>
        match l, kws, h with
        | m :: ms, [], h =>
          simp only [chkE, Bool.and_eq_true] at h
          exact ek_blt W h.1.1.1 (fun t z => by rw [z] at h; cases h.1.1.2) h.2 (sndEs es hn W h.2)
        | [], [], h => simp [chkE] at h
        | _, _ :: _, h => simp [chkE] at h
      | _ => simp [chkE] at h
    | _ => simp [chkE] at h
  | .lck i a, S, n, X, e, hn, W, h => by
    cases e with
    | ListComp elt gs scope pos =>
      simp only [chkE] at h
      exact ek_val (pe_lck (i := i) (sndE a hn W h).1) (fun _ => rfl) (fun _ _ _ z => nomatch z)
    | _ => simp [chkE] at h
  | .sst a, S, n, X, e, hn, W, h => by
    cases e with
    | Call fn l kws pos =>
      cases fn with
      | Name x nm =>
        match l, kws, h with
        | [e1], [], h =>
          cases e1 with
          | Call fn2 l2 kws2 pos2 =>
            cases fn2 with
            | Name y p2 =>
              match l2, kws2, h with
              | [m], [], h =>
                simp only [chkE, Bool.and_eq_true] at h
                exact ek_sst W h.1.1.1 h.1.1.2 h.1.2 (sndE a hn W h.2).1
              | [], _, h => simp [chkE] at h
              | _ :: _ :: _, _, h => simp [chkE] at h
              | [_], _ :: _, h => simp [chkE] at h
            | _ => simp [chkE] at h
          | _ => simp [chkE] at h
        | [], _, h => simp [chkE] at h
        | _ :: _ :: _, _, h => simp [chkE] at h
        | [_], _ :: _, h => simp [chkE] at h
      | _ => simp [chkE] at h
    | _ => simp [chkE] at h
  | .isi t a, S, n, X, e, hn, W, h => by
    cases e with
    | Call fn l kws pos =>
      cases fn with
      | Name x nm =>
        match l, kws, h with
        | [e1, e2], [], h =>
          cases e2 with
          | Name y p2 =>
            simp only [chkE, Bool.and_eq_true] at h
            exact ek_isi W h.1.1.1 h.1.1.2 h.1.2 (sndE a hn W h.2).1
          | _ => simp [chkE] at h
        | [], _, h => simp [chkE] at h
        | [_], _, h => simp [chkE] at h
        | _ :: _ :: _ :: _, _, h => simp [chkE] at h
        | [_, _], _ :: _, h => simp [chkE] at h
      | _ => simp [chkE] at h
    | _ => simp [chkE] at h
  | .mth m o es, S, n, X, e, hn, W, h => by
    cases e with
    | Call fn l kws pos =>
      cases fn with
      | Attribute x a apos =>
        cases kws with
        | nil =>
          simp only [chkE, Bool.and_eq_true, decide_eq_true_eq] at h
          obtain ⟨⟨⟨⟨⟨rfl, h1⟩, h2⟩, h3⟩, h4⟩, h5⟩ := h
          exact ek_mth W h1 h2 h3 h5 (sndE o hn W h4).1 (sndEs es hn W h5)
        | cons _ _ => simp [chkE] at h
      | _ => simp [chkE] at h
    | _ => simp [chkE] at h
  | .comp k own c, S, n, X, e, hn, W, h => ek_comp (sndC c) hn W h
  | .x m, S, n, X, e, hn, W, h => by
    simp only [chkE] at h
    exact sndX m hn W h
theorem sndX : ∀ (m : MX) {S : SC} {n : Nat} {X : Cx} {e : Expr}, n ≤ 1 → XW G cl T L S n X → chkX G S n m e = true → EK X T (evE cl (.x m)) e
  | .chn o1 o2 a b c, S, n, X, e, hn, W, h => by
    simp only [chkX] at h
    cases hs : chnOf e with
    | none => rw [hs] at h; cases h
    | some w =>
      rw [hs] at h
      obtain ⟨pos, rfl⟩ := chnOf_eq hs
      obtain ⟨wx, wy, w1, w2, wa, wb, wc⟩ := w
      simp only [Bool.and_eq_true, decide_eq_true_eq] at h
      obtain ⟨⟨⟨⟨⟨rfl, rfl⟩, h1⟩, h2⟩, h3⟩, h4⟩ := h
      exact ek_chn W.hu (sndE a hn W h1).1 (sndE b hn W h2).1 (sndE c hn W h3).1 h4
  | .gix kvs m, S, n, X, e, hn, W, h => by
    simp only [chkX] at h
    cases hs : gixOf e with
    | none => rw [hs] at h; cases h
    | some w =>
      rw [hs] at h
      obtain ⟨p0, pos, rfl⟩ := gixOf_eq hs
      obtain ⟨wx, wy, w1, w2, wa, wb, wc⟩ := w
      simp only [Bool.and_eq_true, decide_eq_true_eq] at h
      obtain ⟨⟨h1, h2⟩, h3⟩ := h
      exact ek_gix W h2 (sndE m hn W h3).1 h1
  | .gin neg kvs m, S, n, X, e, hn, W, h => by
    simp only [chkX] at h
    cases hs : ginOf e with
    | none => rw [hs] at h; cases h
    | some w =>
      rw [hs] at h
      obtain ⟨p0, pos, rfl⟩ := ginOf_eq hs
      obtain ⟨wx, wy, w1, w2, wa, wb, wc⟩ := w
      simp only [Bool.and_eq_true, decide_eq_true_eq] at h
      obtain ⟨⟨rfl, h1⟩, h2⟩ := h
      exact ek_gin W h1 (sndE m hn W h2).1
  | .drg a, S, n, X, e, hn, W, h => by
    simp only [chkX] at h
    cases hs : drgOf e with
    | none => rw [hs] at h; cases h
    | some w =>
      rw [hs] at h
      obtain ⟨nm, p2, pos2, pos, rfl⟩ := drgOf_eq hs
      obtain ⟨wx, wy, w1, w2, wa, wb, wc⟩ := w
      simp only [Bool.and_eq_true, decide_eq_true_eq] at h
      obtain ⟨⟨⟨h1, h2⟩, h3⟩, h4⟩ := h
      exact ek_drg W h1 h2 h3 (sndE a hn W h4).1
  | .rev a, S, n, X, e, hn, W, h => by
    simp only [chkX] at h
    cases hs : revOf e with
    | none => rw [hs] at h; cases h
    | some x =>
      rw [hs] at h
      obtain ⟨j, p1, p2, p3, pos, rfl⟩ := revOf_eq hs
      exact ek_rev (sndE a hn W h).1
  | .dst a k v, S, n, X, e, hn, W, h => by
    simp only [chkX] at h
    cases hs : dstOf e with
    | none => rw [hs] at h; cases h
    | some w =>
      rw [hs] at h
      obtain ⟨pos, rfl⟩ := dstOf_eq hs
      obtain ⟨wx, wy, w1, w2, wa, wb, wc⟩ := w
      simp only [Bool.and_eq_true, decide_eq_true_eq] at h
      obtain ⟨⟨h1, h2⟩, h3⟩ := h
      exact ek_dst (sndE a hn W h1).1 (sndE k hn W h2).1 (sndE v hn W h3).1
  | .ssc own c, S, n, X, e, hn, W, h => ek_ssc' (sndC c) hn W (by simp only [chkE]; exact h)
  | .gn2 k own c, S, n, X, e, hn, W, h => ek_gn2' (sndC c) hn W (by simp only [chkE]; exact h)
theorem sndEs : ∀ (ms : MEs) {S : SC} {n : Nat} {X : Cx} {es : List Expr}, n ≤ 1 → XW G cl T L S n X → chkEs G S n ms es = true → PA X es (tL X.K T (evEs cl ms))
  | .nil, S, n, X, es, hn, W, h => by
    cases es with
    | nil => exact pa_nil.imp fun σ H Q q => tL_nil q
    | cons _ _ => simp [chkEs] at h
  | .cons m ms, S, n, X, es, hn, W, h => by
    cases es with
    | nil => simp [chkEs] at h
    | cons e es =>
      simp only [chkEs, Bool.and_eq_true] at h
      exact (pa_cons (sndE m hn W h.1.2).1 (sndEs ms hn W h.2) (star_cons h.1.1)).imp fun σ H Q q => tL_cons q
theorem sndC : ∀ (c : Cl), ClK G cl T L c
  | .one t i c e v => ⟨fun hn W h => sndI i hn W h, fun hn W h => sndE c hn W h, fun hn W h => sndE e hn W h, fun hn W h => sndE v hn W h⟩
  | .more t i c own r => ⟨fun hn W h => sndI i hn W h, fun hn W h => sndE c hn W h, sndC r⟩
theorem sndI : ∀ (m : MI) {S : SC} {n : Nat} {X : Cx} {tg e : Expr}, n ≤ 1 → XW G cl T L S n X → chkI G S n m tg e = true → PI X tg e (tIt X.K T (evI cl m))
  | .ex m, S, n, X, tg, e, hn, W, h => pi_ex (sndE m hn W h).1
  | .kys m, S, n, X, tg, e, hn, W, h => pi_kys (sndE m hn W h).1
  | .rng ms, S, n, X, tg, e, hn, W, h => by
    cases e with
    | Call fn l kws pos =>
      cases fn with
      | Name x nm =>
        cases kws with
        | nil =>
          simp only [chkI, Bool.and_eq_true] at h
          exact ik_rng W h.1.1 h.1.2 h.2 (sndEs ms hn W h.2)
        | cons _ _ => simp [chkI] at h
      | _ => simp [chkI] at h
    | _ => simp [chkI] at h
  | .zip a b, S, n, X, tg, e, hn, W, h => by
    cases e with
    | Call fn l kws pos =>
      cases fn with
      | Name x nm =>
        match l, kws, h with
        | [e1, e2], [], h =>
          simp only [chkI, Bool.and_eq_true] at h
          obtain ⟨⟨⟨⟨⟨h1, h2⟩, h3⟩, h4⟩, h5⟩, h6⟩ := h
          exact ik_zip W h1 h2 h3 h4 (sndE a hn W h5).1 (sndE b hn W h6).1
        | [], _, h => simp [chkI] at h
        | [_], _, h => simp [chkI] at h
        | _ :: _ :: _ :: _, _, h => simp [chkI] at h
        | [_, _], _ :: _, h => simp [chkI] at h
      | _ => simp [chkI] at h
    | _ => simp [chkI] at h
  | .enm a, S, n, X, tg, e, hn, W, h => by
    cases e with
    | Call fn l kws pos =>
      cases fn with
      | Name x nm =>
        match l, kws, h with
        | [e1], [], h =>
          simp only [chkI, Bool.and_eq_true] at h
          obtain ⟨⟨⟨h1, h2⟩, h3⟩, h4⟩ := h
          exact ik_enm W h1 h2 h3 (sndE a hn W h4).1
        | [], _, h => simp [chkI] at h
        | _ :: _ :: _, _, h => simp [chkI] at h
        | [_], _ :: _, h => simp [chkI] at h
      | _ => simp [chkI] at h
    | _ => simp [chkI] at h
end
end
end MP
namespace MP
open PySem PySem.Spec PyProof.Rows L2
def isLC : Expr → Bool
  | .ListComp .. => true
  | _ => false
def swB (sc : Scope) (y : Str) (py : Pos) : Expr → Bool
  | .ListComp _ _ s p => sc.names.lookup y == some .local && py.line == p.line && !(s.names.any fun (n, k) => n == y && (k == .local || k == .cell))
  | .SetComp _ _ s p => sc.names.lookup y == some .local && py.line == p.line && !(s.names.any fun (n, k) => n == y && (k == .local || k == .cell))
  | .DictComp _ _ _ s p => sc.names.lookup y == some .local && py.line == p.line && !(s.names.any fun (n, k) => n == y && (k == .local || k == .cell))
  | _ => false
def isName : Expr → Bool
  | .Name .. => true
  | _ => false
def asgB (S : SC) (val : Expr) : Tg → Expr → Bool
  | .nm i, .Name y py => S.put i y && (isLC val || !swB S.sc y py val)
  | .tp ts, .Tuple es k p => chkT S (.tp ts) (.Tuple es k p) && noTup val
  | _, _ => false
def isSub : Expr → Bool
  | .Subscript .. => true
  | _ => false
def sub1 : Expr → Expr
  | .Subscript a _ _ => a
  | e => e
def sub2 : Expr → Expr
  | .Subscript _ b _ => b
  | e => e
def el (k : Nat) : Expr → Expr
  | .Tuple es a p => (es[k]?).getD (.Tuple es a p)
  | e => e
def parB (S : SC) (i j : Nat) : Expr → Expr → Bool
  | .Tuple [.Name x px, .Name y py] _ _, .Tuple [.Name z _, .Name _ _] _ _ => S.N[i]? == some x && S.N[j]? == some y && !(i == j) && !(x == y) && S.sc.names.lookup x == some .local && S.sc.names.lookup y == some .local
      && px.line == py.line && !(z == ("__debug__" : Str))
  | _, _ => false
section
variable (G : GI)
mutual
def chkS (S : SC) (n : Nat) : MS → Stmt → Bool
  | .asg t e, .Assign [tg] val _ => asgB S val t tg && (!isLck e && chkE G S n e val)
  | .par i j a b, .Assign [tg] val _ => parB S i j tg val && chkE G S n a (el 0 val) && chkE G S n b (el 1 val)
  | .sub o i e, .Assign [tg] val _ => isSub tg && noSlice (sub2 tg) && chkE G S n o (sub1 tg) && chkE G S n i (sub2 tg) && chkE G S n e val
  | .expr e, .Expr v _ => noComp v && chkE G S n e v
  | .ret e, .Return (some v) _ => chkE G S n e v
  | .retN, .Return none _ => true
  | .ite c a b, .If x y z _ => okT x && chkE G S n c x && chkSs S n a y && chkSs S n b z
  | .fr t i b, .For tg iter body [] _ => chkI G S n i tg iter && noSet iter && chkT S t tg && chkSs S n b body
  | .whl c b, .While x body [] _ => okT x && chkE G S n c x && chkSs S n b body
  | .brk, .Break _ => true
  | .cont, .Continue _ => true
  | .pass, .Pass _ => true
  | _, _ => false
def chkSs (S : SC) (n : Nat) : MSs → List Stmt → Bool
  | .nil, [] => true
  | .cons m ms, s :: ss => chkS S n m s && chkSs S n ms ss
  | _, _ => false
end
end
section
variable {G : GI} {cl : Nat → List D → HI → Rz} {T : List Addr} {L wf : Nat} {S : SC} {n : Nat} {X : Cx}
theorem tGd_nm {K : PySem.W.Frag} {i : Nat} {v : V} {σ : L2.St} {H : Hp} {Q : L2.St → Hp → Prop} (h : tGd K (.nm i) v σ H Q) : gName i v σ H Q := by
  obtain ⟨μ, d, σd, σd', rx, Sr, e, q⟩ := h
  simp only [bind1, Option.ite_none_right_eq_some, Option.some.injEq] at e
  obtain ⟨_, rfl⟩ := e
  exact q _ (Sr.set i rx) fun vs hv => wipe_set (hv i (by simp [Tg.ix]))
theorem tI_mono {K : PySem.W.Frag} {ev : MP.St → HI → Rz} {σ : L2.St} {H : Hp} {Q Q' : VK} (h : tI K T ev σ H Q) (i : ∀ v H, Q v H → Q' v H) : tI K T ev σ H Q' := by
  obtain ⟨μ, h0, σd, r, R, Sr, e, o⟩ := h
  exact ⟨μ, h0, σd, r, R, Sr, e, fun μ' H' v p t R' rv => i _ _ (o μ' H' v p t R' rv)⟩
theorem st_set {K : PySem.W.Frag} {i : Nat} {e : ME} {Z : Ends} {σ : L2.St} {H : Hp} (q : tSt K T (evS cl wf (.asg (.nm i) e)) Z σ H) : tAsg (tI K T (evE cl e)) (gName i) Z σ H :=
  tI_mono (st_asg q) fun v H => tGd_nm
theorem swap_eq {y : Str} {py : Pos} {l : Nat} {env : Env} {v : Expr} (hk : env.scope.kind = .function) : swapsWith v (some (.Name y py)) l env = pure (swB env.scope y py v) := by
  have hb : (env.blockKind == .function) = true := by unfold Env.blockKind; rw [hk]; rfl
  cases v with
  | ListComp elt gs s p =>
    unfold swapsWith
    simp only [hb, swB, Env.kindOf, Expr.pos, Bool.true_and]
  | SetComp elt gs s p =>
    unfold swapsWith
    simp only [hb, swB, Env.kindOf, Expr.pos, Bool.true_and]
  | DictComp k elt gs s p =>
    unfold swapsWith
    simp only [hb, swB, Env.kindOf, Expr.pos, Bool.true_and]
  | _ => rfl
theorem chkX_lc {elt : Expr} {gens : List Comprehension} {scope : Scope} {p : Pos} : ∀ m : MX, chkX G S n m (.ListComp elt gens scope p) = false
  | .chn .. => rfl
  | .gix .. => rfl
  | .gin .. => rfl
  | .drg .. => rfl
  | .rev .. => rfl
  | .dst .. => rfl
  | .ssc own c => by
    cases c with
    | one _ _ _ _ _ => rfl
    | more _ _ _ _ r => cases r <;> rfl
  | .gn2 k own c => by
    cases c with
    | one _ _ _ _ _ => rfl
    | more _ _ _ _ r => cases r <;> rfl
theorem set_comp {k : CK} {own : List Nat} {c : Cl} (K : ClK G cl T L c) {elt : Expr} {gens : List Comprehension} {scope : Scope} {p py pos : Pos} {y : Str} {i : Nat} (hn : n ≤ 1) (W : XW G cl T L S n X) (hi : X.N[i]? = some y) (hy : X.env.scope.names.lookup y = some .local)
    (hsw : swapsWith (.ListComp elt gens scope p) (some (.Name y py)) pos.line X.env = pure true) (h : chkE G S n (.comp k own c) (.ListComp elt gens scope p) = true) :
    PS X (.Assign [.Name y py] (.ListComp elt gens scope p) pos) (tAsg (tI X.K T (evE cl (.comp k own c))) (gName i)) := by
  cases k with
  | lst =>
    cases c with
    | one t i0 c e v =>
      match gens, h, hsw with
      | [⟨tg, iter, ifs, as⟩], h, hsw =>
        simp only [chkE, Bool.and_eq_true, beq_iff_eq] at h
        obtain ⟨⟨⟨⟨⟨⟨⟨⟨rfl, h1⟩, h2⟩, h3⟩, h4⟩, h5⟩, h6⟩, h7⟩, h8⟩ := h
        have bo := blkB_ok h1
        have := ps_setLc (te := tI X.K T (evE cl e)) (tt := tBl X.K T (tst (evE cl c))) (g := tGd X.K t) W.calm W.nd hi hy hsw (K.1 hn W h2) (by rw [W.N, W.sc]; exact bo) (fun s H C cs fp => sndT (W.blk s H C cs fp scope).xt h4)
          (fun s H C cs fp => pts_of h6 fun f hf => K.2.1 hn (W.blk s H C cs fp scope) hf) (fun s H C cs fp => (K.2.2.1 hn (W.blk s H C cs fp scope) h7).1) (fold_ok h3)
        rw [ownOf_ix] at this
        exact this.imp fun Z σ H q => lc_of (omit_ok h8) (sub_ok h5) q
      | [], h, _ => simp [chkE] at h
      | _ :: _ :: _, h, _ => simp [chkE] at h
    | more t i0 c own1 r =>
      cases r with
      | more _ _ _ _ _ => simp [chkE] at h
      | one t1 i1 c1 e v =>
        match gens, h, hsw with
        | [⟨tg, iter, ifs, as⟩, ⟨tg1, iter1, ifs1, as1⟩], h, hsw =>
          simp only [chkE, Bool.and_eq_true, beq_iff_eq] at h
          obtain ⟨⟨⟨⟨⟨⟨⟨⟨⟨⟨⟨⟨⟨⟨⟨rfl, rfl⟩, h1⟩, h2⟩, h3⟩, h4⟩, h5⟩, h6⟩, h7⟩, h8⟩, h9⟩, h10⟩, h11⟩, h12⟩, h13⟩, h14⟩ := h
          have bo := blkB_ok h1
          have := ps_setLc2 (vs1 := own1) (te := tI X.K T (evE cl e)) (tt := tBl X.K T (tst (evE cl c))) (g := tGd X.K t) (wi1 := tIt X.K T (evI cl i1)) (tt1 := tBl X.K T (tst (evE cl c1))) (g1 := tGd X.K t1) W.calm W.nd hi hy hsw (K.1 hn W h3) (by rw [W.N, W.sc]; exact bo) (by rw [ownOf_ix]; exact sub_ok h2)
            (fun s H C cs fp => sndT (W.blk s H C cs fp scope).xt h5) (fun s H C cs fp => pts_of h7 fun f hf => K.2.1 hn (W.blk s H C cs fp scope) hf)
            (fun s H C cs fp => K.2.2.1 hn (W.blk s H C cs fp scope) h8) (fun s H C cs fp => sndT (W.blk s H C cs fp scope).xt h10) (fun s H C cs fp => pts_of h12 fun f hf => K.2.2.2.1 hn (W.blk s H C cs fp scope) hf) (fun s H C cs fp => (K.2.2.2.2.1 hn (W.blk s H C cs fp scope) h13).1) (fold_ok h4) (fun env => fold_ok h9)
          rw [ownOf_ix] at this
          exact this.imp fun Z σ H q => lc2_of (omit_ok h14) (sub_ok h6) (sub_ok h11) q
        | [], h, _ => simp [chkE] at h
        | [_], h, _ => simp [chkE] at h
        | _ :: _ :: _ :: _, h, _ => simp [chkE] at h
  | _ => cases c <;> simp [chkE] at h
theorem set_ok (hk : S.sc.kind = .function) (hn : n ≤ 1) (W : XW G cl T L S n X) {i : Nat} {y : Str} {py pos : Pos} {e : ME} {val : Expr} (h1 : S.put i y = true) (h2 : (isLC val || !swB S.sc y py val) = true) (hl : isLck e = false) (h3 : chkE G S n e val = true) :
    PS X (.Assign [.Name y py] val pos) (tAsg (tI X.K T (evE cl e)) (gName i)) := by
  obtain ⟨g1, g2, g3⟩ := put_ok W.xt h1
  have sw := swap_eq (v := val) (y := y) (py := py) (l := pos.line) (env := X.env) (by rw [W.sc]; exact hk)
  cases c : swB X.env.scope y py val with
  | false =>
    rw [c] at sw
    exact ps_set W.nd g1 g2 (sndE e hn W h3).1 sw g3
  | true =>
    rw [c] at sw
    rw [W.sc] at c
    rw [c] at h2
    cases val with
    | ListComp elt gens scope p =>
      cases e with
      | x m0 =>
        have h4 : chkX G S n m0 (.ListComp elt gens scope p) = true := by simpa only [chkE] using h3
        rw [chkX_lc m0] at h4
        cases h4
      | comp k own cl0 =>
        refine set_comp (sndC cl0) hn W g1 ?_ sw h3
        simp only [swB, Bool.and_eq_true, beq_iff_eq] at c
        rw [W.sc]
        exact c.1.1
      | lck i0 a0 => cases hl
      | _ => simp [chkE] at h3
    | _ => cases h2
theorem sole_ok {e : Expr} {tg : Expr} {l : Nat} {env : Env} (h : isName tg = false) : swapsWithSole [tg] e l env = pure false := by
  cases e <;> first | rfl | (cases tg <;> first | rfl | cases h)
theorem noswap {es : List Expr} {k : Nat} {p : Pos} {v : Expr} {env : Env} (h : noTup v = true) : swappedStores [.Tuple es k p] v env = pure none := by
  cases v <;> first | rfl | cases h
theorem drop_ok {e : Expr} {l : Nat} {env : Env} (h : noComp e = true) : swapsWith e none l env = pure false := by
  cases e <;> first | rfl | cases h
theorem sub_assign {a b : Expr} {p : Pos} {env : Env} (h : noSlice b = true) : ∀ v, assign (.Subscript a b p) env v = (do
      let ov ← holding [v] (eval a env)
      let iv ← holding [v, ov] (eval b env)
      standAt p
      holding [v, ov, iv] (setItem ov iv v)
      release [v, ov, iv] []) := by
  intro v
  cases b <;> first | rfl | cases h
theorem par_ok {x y z w : Str} {px py pt pz pw p2 : Pos} {kt k2 : Nat} {env : Env} (hk : env.scope.kind = .function) (hx : env.scope.names.lookup x = some .local) (hy : env.scope.names.lookup y = some .local) (hxy : (x == y) = false) (hl : (px.line == py.line) = true) (hz : (z == ("__debug__" : Str)) = false) :
    swappedStores [.Tuple [.Name x px, .Name y py] kt pt] (.Tuple [.Name z pz, .Name w pw] k2 p2) env = pure (some [x, y]) := by
  have hb : (env.blockKind != .function) = false := by unfold Env.blockKind; rw [hk]; rfl
  have l1 : (px.line == px.line) = true := by simp
  have l2 : (py.line == px.line) = true := by rw [beq_iff_eq] at hl ⊢; exact hl.symm
  have e1 : (env.kindOf x == some .local) = true := by unfold Env.kindOf; rw [hx]; rfl
  have e2 : (env.kindOf y == some .local) = true := by unfold Env.kindOf; rw [hy]; rfl
  have hyx : (y == x) = false := by
    rw [beq_eq_false_iff_ne] at hxy ⊢
    exact fun q => hxy q.symm
  unfold swappedStores
  simp [hb, Expr.pos, l2, e1, e2, List.eraseDups_cons, hyx, foldedForSure, constantsAlone, hz, hl, List.filterMap, List.any, List.all, List.head?]
end
end MP
namespace MP
open PySem PySem.Spec PyProof.Rows L2
section
variable {G : GI} {cl : Nat → List D → HI → Rz} {T : List Addr} {L wf : Nat} {S : SC} {n : Nat} {X : Cx}
structure XS (G : GI) (cl : Nat → List D → HI → Rz) (T : List Addr) (L : Nat) (S : SC) (n : Nat) (X : Cx) : Prop where
  W : XW G cl T L S n X
  hk : S.sc.kind = .function
  hn : n ≤ 1
  po : PassesOwn (model X.prog X.w) X.A X.env X.xe
theorem XS.hu (Z : XS G cl T L S n X) : X.A.units + 400 < cLine := Z.W.hu
theorem st_parX (Z : XS G cl T L S n X) {i j : Nat} {tg val : Expr} {a b : ME} {pos : Pos} (h0 : parB S i j tg val = true) (ha : PE X (el 0 val) (tI X.K T (evE cl a))) (hb : PE X (el 1 val) (tI X.K T (evE cl b))) : PS X (.Assign [tg] val pos) (tSt X.K T (evS cl wf (.par i j a b))) := by
  unfold parB at h0
  split at h0
  · rename_i x px y py kt pt z pz w pw k2 p2
    simp only [Bool.and_eq_true, beq_iff_eq, Bool.not_eq_true'] at h0
    obtain ⟨⟨⟨⟨⟨⟨⟨h1, h2⟩, h3⟩, h4⟩, h5⟩, h6⟩, h7⟩, h12⟩ := h0
    have hl : (px.line == py.line) = true := by rw [beq_iff_eq]; exact h7
    have hw := par_ok (pt := pt) (pz := pz) (pw := pw) (p2 := p2) (kt := kt) (k2 := k2) (w := w) (env := X.env) (by rw [Z.W.sc]; exact Z.hk) (by rw [Z.W.sc]; exact h5) (by rw [Z.W.sc]; exact h6) h4 hl h12
    exact (ps_par Z.W.calm Z.W.nd (by rw [Z.W.N]; exact h1) (by rw [Z.W.N]; exact h2) (by simpa using h3) (by rw [Z.W.sc]; exact h5) (by rw [Z.W.sc]; exact h6) (pa_cons ha (pa_cons hb pa_nil rfl) rfl) hw).imp fun D σ H q => st_par q
  · cases h0
mutual
theorem sndS (Z : XS G cl T L S n X) : ∀ (m : MS) {st : Stmt}, chkS G S n m st = true → PS X st (tSt X.K T (evS cl wf m))
  | .asg t e, st, h => by
    cases st with
    | Assign tgs val pos =>
      match tgs, h with
      | [], h => simp [chkS] at h
      | _ :: _ :: _, h => simp [chkS] at h
      | [tg], h =>
        simp only [chkS, Bool.and_eq_true] at h
        obtain ⟨h1, hl, h2⟩ := h
        simp only [Bool.not_eq_true'] at hl
        cases t with
        | nm i =>
          cases tg with
          | Name y py =>
            simp only [asgB, Bool.and_eq_true] at h1
            exact (set_ok Z.hk Z.hn Z.W h1.1 h1.2 hl h2).imp fun D σ H q => st_set q
          | _ => cases h1
        | tp ts =>
          cases tg with
          | Tuple es k p =>
            simp only [asgB, Bool.and_eq_true] at h1
            exact (ps_asg (sndE e Z.hn Z.W h2).1 (sndT Z.W.xt h1.1) (sole_ok rfl) (noswap h1.2)).imp fun D σ H q => st_asg q
          | _ => cases h1
    | _ => simp [chkS] at h
  | .par i j a b, st, h => by
    cases st with
    | Assign tgs val pos =>
      match tgs, h with
      | [], h => simp [chkS] at h
      | _ :: _ :: _, h => simp [chkS] at h
      | [tg], h =>
        simp only [chkS, Bool.and_eq_true] at h
        obtain ⟨⟨h0, h13⟩, h14⟩ := h
        exact st_parX Z h0 (sndE a Z.hn Z.W h13).1 (sndE b Z.hn Z.W h14).1
    | _ => simp [chkS] at h
  | .sub o i e, st, h => by
    cases st with
    | Assign tgs val pos =>
      match tgs, h with
      | [], h => simp [chkS] at h
      | _ :: _ :: _, h => simp [chkS] at h
      | [tg], h =>
        simp only [chkS, Bool.and_eq_true] at h
        obtain ⟨⟨⟨⟨h0, h1⟩, h2⟩, h3⟩, h4⟩ := h
        cases tg with
        | Subscript a b p => exact (ps_asg (sndE e Z.hn Z.W h4).1 (pg_sub (sndE o Z.hn Z.W h2).1 (sndE i Z.hn Z.W h3).1 (set_all (T := T) Z.hu) (sub_assign h1)) (sole_ok rfl)).imp fun D σ H q => st_sub q
        | _ => cases h0
    | _ => simp [chkS] at h
  | .expr e, st, h => by
    cases st with
    | Expr v pos =>
      simp only [chkS, Bool.and_eq_true] at h
      exact (ps_expr (sndE e Z.hn Z.W h.2).1 (drop_ok h.1)).imp fun D σ H q => st_expr q
    | _ => simp [chkS] at h
  | .ret e, st, h => by
    cases st with
    | Return v pos =>
      cases v with
      | none => simp [chkS] at h
      | some v => exact (ps_ret (sndE e Z.hn Z.W h).1).imp fun D σ H q => st_ret q
    | _ => simp [chkS] at h
  | .retN, st, h => by
    cases st with
    | Return v pos =>
      cases v with
      | none => exact ps_retN.imp fun D σ H q => st_retN q
      | some v => simp [chkS] at h
    | _ => simp [chkS] at h
  | .ite c a b, st, h => by
    cases st with
    | If x y z pos =>
      simp only [chkS, Bool.and_eq_true] at h
      exact (ps_if ((sndE c Z.hn Z.W h.1.1.2).2.1 h.1.1.1) (sndSs Z a h.1.2) (sndSs Z b h.2)).imp fun D σ H q => st_ite q
    | _ => simp [chkS] at h
  | .fr t i b, st, h => by
    cases st with
    | For tg iter body els pos =>
      cases els with
      | cons _ _ => simp [chkS] at h
      | nil =>
        simp only [chkS, Bool.and_eq_true] at h
        exact (ps_for Z.po Z.W.calm (sndI i Z.hn Z.W h.1.1.1) (sndT Z.W.xt h.1.2) (sndSs Z b h.2) (fold_ok h.1.1.2)).imp fun D σ H q => st_for q
    | _ => simp [chkS] at h
  | .whl c b, st, h => by
    cases st with
    | While x body els pos =>
      cases els with
      | cons _ _ => simp [chkS] at h
      | nil =>
        simp only [chkS, Bool.and_eq_true] at h
        exact (ps_while Z.po ((sndE c Z.hn Z.W h.1.2).2.1 h.1.1) (sndSs Z b h.2)).imp fun D σ H q => st_whl q
    | _ => simp [chkS] at h
  | .brk, st, h => by
    cases st with
    | Break pos => exact ps_break.imp fun D σ H q => st_brk q
    | _ => simp [chkS] at h
  | .cont, st, h => by
    cases st with
    | Continue pos => exact ps_continue.imp fun D σ H q => st_cont q
    | _ => simp [chkS] at h
  | .pass, st, h => by
    cases st with
    | Pass pos => exact ps_pass.imp fun D σ H q => st_pass q
    | _ => simp [chkS] at h
  | .aug i op e, st, h => by simp [chkS] at h
theorem sndSs (Z : XS G cl T L S n X) : ∀ (m : MSs) {st : List Stmt}, chkSs G S n m st = true → PSs X st (tSt X.K T (evSs cl wf m))
  | .nil, st, h => by
    cases st with
    | nil => exact pss_nil.imp fun D σ H q => st_nil q
    | cons _ _ => simp [chkSs] at h
  | .cons m ms, st, h => by
    cases st with
    | nil => simp [chkSs] at h
    | cons s ss =>
      simp only [chkSs, Bool.and_eq_true] at h
      exact (pss_cons (sndS Z m h.1) (sndSs Z ms h.2)).imp fun D σ H q => st_cons q
end
end
end MP
namespace MP
open PySem PySem.Spec PyProof.Rows L2
structure DefX where
  nm : Str
  st : Stmt
  N : List Str
  ps : List Str
  d : Def
def scB (N P : List Str) (sc : Scope) : Bool :=
  decide (sc.kind = .function) && decide (sc.isCoroutine = false) && decide (sc.isGenerator = false) && decide N.Nodup && decide (N.take P.length = P)
  && decide (∀ x ∈ P, sc.names.lookup x = some .local ∨ sc.names.lookup x = some .cell) && decide (∀ y ∈ sc.names, y.2 ≠ .free)
theorem scB_ok {N P : List Str} {sc : Scope} (h : scB N P sc = true) : FnScope N P sc := by
  simp only [scB, Bool.and_eq_true, decide_eq_true_eq] at h
  obtain ⟨⟨⟨⟨⟨⟨h1, h2⟩, h3⟩, h4⟩, h5⟩, h6⟩, h7⟩ := h
  exact ⟨h1, h2, h3, h4, h5, h6, h7⟩
def chkD (G : GI) (x : DefX) : Bool := scB x.N x.ps (defScope x.st) && chkSs G ⟨x.N, defScope x.st, true⟩ 1 x.d.body (defBody x.st) && x.d.np == x.ps.length && x.d.nn == x.N.length
structure DOk (K : PySem.W.Frag) (mg : Str → Option Value) (base : Heap) (T : List Addr) (x : DefX) (a : Addr) (fd : FuncData) : Prop where
  ex : ∃ (oc : Value) (od : Option Addr) (kV doc pm : Value) (an : Option Addr) (c P : Addr) (ct : Value) (osl : Array (Option Value)),
    fd = PySem.W.fnOf x.nm x.nm (defArgs x.st) (defBody x.st) (defScope x.st) .none kV doc pm an (.ref c) ct ∧ K.lookup a = some ⟨oc, od, .func fd, osl⟩ ∧ PySem.W.codeIn K (.ref c) x.nm = true ∧ GxR.TabB base mg c P ∧ P ∈ T
  kp : PySem.W.keepIn K (.ref a) = true
  mg : mg x.nm = some (.ref a)
  bs : Binds K fd x.ps []
structure GlOk (K : PySem.W.Frag) (mg : Str → Option Value) (G : GI) : Prop where
  gl : ∀ x d, (x, d) ∈ G.gl → ∃ v u, mg x = some u ∧ RelV v u ∧ ∀ μ H, RV K μ H d v
  bn : ∀ x ∈ G.bn, mg x = none
  gd : ∀ x kvs, (x, kvs) ∈ G.gd → ∃ a, mg x = some (.ref a) ∧ KDi K a kvs
def Lv (k : Nat) : Nat := 13 + 2 * k
theorem SR.start {K : PySem.W.Frag} {μ : List Addr} {H : Hp} {ds : List D} {vs : List V} {N : List Str} (r : RVs K μ H ds vs) : SR K μ H (startD N.length ds) (L2.start N vs) := by
  have hl := r.length
  refine ⟨by unfold startD L2.start; simp [hl], fun i d e => ?_⟩
  unfold startD at e
  unfold L2.start
  rcases Nat.lt_or_ge i ds.length with h | h
  · rw [List.getElem?_append_left (by simpa using h), List.getElem?_map] at e
    rw [List.getElem?_append_left (by simpa [← hl] using h), List.getElem?_map]
    cases c : ds[i]? with
    | none => rw [c] at e; cases e
    | some x =>
      rw [c] at e
      cases e
      obtain ⟨v, h1, h2⟩ := r.get c
      exact ⟨v, by rw [h1]; rfl, h2⟩
  · rw [List.getElem?_append_right (by simpa using h), List.getElem?_replicate] at e
    split at e <;> cases e
section
variable {P : Program} {w : World} {K : PySem.W.Frag} {mg : Str → Option Value} {base : Heap} {T : List Addr} {G : GI} {ds : List DefX} {wf : Nat}
theorem defs_ok (hG : G.fs = ds.map fun x => (x.nm, x.ps.length)) (hc : ∀ x ∈ ds, chkD G x = true) (gl : GlOk K mg G) {ad : Nat → Addr} {fd : Nat → FuncData} (hd : ∀ f x, ds[f]? = some x → DOk K mg base T x (ad f) (fd f)) :
    ∀ (k f : Nat) (x : DefX), ds[f]? = some x → FnOk P w K mg base CX0 (Lv k) (ad f) (fd f) x.ps (spI K T x.ps.length (callI (ds.map (·.d)) wf k f))
  | 0, f, x, e => ⟨fun vs H Q E h => h.1, fun A outer s H args us vs Q E _ _ _ _ h => by
      obtain ⟨_, μ, h0, d, r, _, _, e, _⟩ := h
      cases e⟩
  | k + 1, f, x, e => by
    have ih := defs_ok hG hc gl hd k
    obtain ⟨⟨oc, od, kV, doc, pm, an, c, Pt, ct, osl, efd, lk, cd, tb, hPT⟩, kp, hmg, bs⟩ := hd f x e
    have ck := hc x (List.mem_of_getElem? e)
    simp only [chkD, Bool.and_eq_true, beq_iff_eq] at ck
    obtain ⟨⟨⟨c1, c2⟩, c3⟩, c4⟩ := ck
    have SO := scB_ok c1
    rw [efd]
    rw [efd] at lk
    show FnOk P w K mg base CX0 (Lv k + 1 + 1) _ _ _ _
    refine fn_of lk cd SO (fun vs H Q E h => h.1) fun A outer s H vs Q E hr hsp => ?_
    obtain ⟨hl, μ, h0, dvs, r, R, rv, ev, o⟩ := hsp
    have W : XS G (callI (ds.map (·.d)) wf k) T (Lv k) ⟨x.N, defScope x.st, true⟩ 1 (cxOf CX0 P w K mg base x.N x.nm (defScope x.st) (ad f) (.ref c) A outer s H E).nox := by
      refine ⟨⟨rfl, rfl, SO.nd, fun _ _ => rfl, rfl, hr, by unfold Lv; omega, gl.gl, fun g y np eg => ?_, gl.bn, fun _ => ⟨c, Pt, rfl, tb, hPT⟩, gl.gd⟩, SO.kind, Nat.le_refl _, PassesOwn.never⟩
      rw [hG, List.getElem?_map] at eg
      obtain ⟨z, ez, e2⟩ := Option.map_eq_some_iff.mp eg
      cases e2
      have dz := hd g z ez
      exact ⟨ad g, fd g, z.ps, dz.mg, dz.kp, dz.bs, ih g z ez⟩
    refine ⟨_, (sndSs (wf := wf) W x.d.body c2).nox, ?_⟩
    have hx : (ds.map (·.d))[f]? = some x.d := by rw [List.getElem?_map, e]; rfl
    simp only [callI, hx] at ev
    have hn : dvs.length = x.d.np := by rw [rv.length, hl, c3]
    rw [if_pos hn] at ev
    show tSt K T (evSs (callI (ds.map (·.d)) wf k) wf x.d.body) _ _ _
    split at ev
    · rename_i y h' ee
      cases ev
      exact ⟨μ, h0, _, _, R, by rw [c4]; exact SR.start rv, ee, fun μ' H' p t R' v rv' => o μ' H' v p t R' rv'⟩
    · rename_i y h' ee
      cases ev
      exact ⟨μ, h0, _, _, R, by rw [c4]; exact SR.start rv, ee, fun μ' H' p t R' σ' S' => o μ' H' .non p t R' .non⟩
    · cases ev
end
end MP
namespace MP
open PySem PySem.Spec PyProof.Rows L2
def Tabs (q : Program) (mg : Str → Option Value) (h : Heap) : Prop := ∀ d ∈ recsOf q, ∃ a o fd c P, mg d.name = some (.ref a) ∧ h.get? a = some o ∧ o.data = .func fd ∧ fd.code = .ref c ∧ h.IsCode c P #[] ∧ h.TableAt c P #[]
theorem walk_all {l : PySem.W.OpenLaw} {n k : Nat} {q : Program} {loose : List Str} {XP : (Str → Option Value) → Heap → Prop} {YP : World → Heap → Prop} {d : DefRec} {K : Params → PySem.W.Frag} {x : Str}
    (hn : l.most = some n) (hn2 : n ≤ sizeLine) (hdf : d.params.defaults = []) (hr : Room k callerA) (hY : ∀ (w : World) (h : Heap), YP w h → (K w.params).In h)
    (F : ∀ (w : World) (mg : Str → Option Value) (fa : Addr) (h : Heap), YP w h → (K w.params).In h → h.Ns mainGlobals mg → mg d.name = some (.ref fa) → Tabs q mg h → LamX.LawAtS l w (K w.params) CX0 k n x mg fa h) :
    PySem.W.WalkO q loose XP YP l.row.toRowW d [] (fun f vs => PySem.call f vs) := by
  refine Att.attach_callB hn hdf fun w s₀ s₁ mg mb fa o pm cd doc a vs ns gr yy ho hd hcd hmg hobj hints hlen hbits hg => ?_
  have kin := hY w _ yy
  have tb : Tabs q mg s₁.heap := fun dL hm => gr.T.tab dL hm
  obtain ⟨fd, cs, sp, t1, t2, t3, t4, t5, t6⟩ := F w mg fa _ yy kin gr.T.g hmg tb
  exact LamX.law_callTs kin gr.T.g gr.T.b gr.T.builtins gr.T.nolimit hg t1 t2 t3 gr.T.bmain hobj hints (Nat.le_trans hlen hn2) hr t6 t4 (fun H z1 z2 => t5 H a ns hlen hbits z1 z2) fun H e s' z => z
structure KDef (K : PySem.W.Frag) (x : DefX) (a c P : Addr) : Prop where
  ex : ∃ (oc : Value) (od : Option Addr) (kV doc pm : Value) (an : Option Addr) (ct : Value) (osl : Array (Option Value)),
    K.lookup a = some ⟨oc, od, .func (PySem.W.fnOf x.nm x.nm (defArgs x.st) (defBody x.st) (defScope x.st) .none kV doc pm an (.ref c) ct), osl⟩
  code : PySem.W.codeIn K (.ref c) x.nm = true
  kp : PySem.W.keepIn K (.ref a) = true
  ns : PySem.W.nsIn K mainGlobals x.nm = some (some (.ref a))
  tb : ∃ (e : Value) (dd : Option Addr) (vs : Array Value) (sl : Array (Option Value)), K.lookup c = some ⟨e, dd, .fields vs, sl⟩ ∧ vs[11]? = some (.ref P)
  nP : K.lookup P = none
def KD {K : PySem.W.Frag} {h : Heap} (KX : K.In h) (x : DefX) : Prop := ∃ f c P, KDef K x f c P
theorem kd_mk {K : PySem.W.Frag} {h : Heap} (KX : K.In h) {x : DefX} {f c P : Addr} {oc : Value} {od : Option Addr} {kV doc pm : Value} {an : Option Addr} {ct : Value} {osl : Array (Option Value)} {e : Value} {dd : Option Addr} {vs : Array Value} {sl : Array (Option Value)}
    (a : PySem.W.nsIn K mainGlobals x.nm = some (some (.ref f))) (l : K.lookup f = some ⟨oc, od, .func (PySem.W.fnOf x.nm x.nm (defArgs x.st) (defBody x.st) (defScope x.st) .none kV doc pm an (.ref c) ct), osl⟩) (h1 : PySem.W.codeIn K (.ref c) x.nm = true) (k1 : PySem.W.keepIn K (.ref f) = true)
    (t1 : K.lookup c = some ⟨e, dd, .fields vs, sl⟩) (t2 : vs[11]? = some (.ref P)) (n1 : K.lookup P = none) : KD KX x := ⟨f, c, P, ⟨oc, od, kV, doc, pm, an, ct, osl, l⟩, h1, k1, a, ⟨e, dd, vs, sl, t1, t2⟩, n1⟩
theorem kd_nil {K : PySem.W.Frag} {h : Heap} (KX : K.In h) : ∀ x ∈ ([] : List DefX), KD KX x := fun x hx => by cases hx
theorem kd_cons {K : PySem.W.Frag} {h : Heap} {KX : K.In h} {x : DefX} {r : List DefX} (a : KD KX x) (b : ∀ y ∈ r, KD KX y) : ∀ y ∈ x :: r, KD KX y := fun y hy => by
  rcases List.mem_cons.mp hy with rfl | hy
  · exact a
  · exact b y hy
inductive GlD (K : PySem.W.Frag) : Str × D → Prop where
  | non {x : Str} : PySem.W.nsIn K mainGlobals x = some (some .none) → GlD K (x, .non)
  | bl {x : Str} {b : Bool} : PySem.W.nsIn K mainGlobals x = some (some (.bool b)) → GlD K (x, .bl b)
  | int {x : Str} {i : Int} {t : Tok} : PySem.W.nsIn K mainGlobals x = some (some (.int i t)) → GlD K (x, .int i)
  | str {x y : Str} {t : Tok} : PySem.W.nsIn K mainGlobals x = some (some (.str y t)) → GlD K (x, .str y)
  | tup {x : Str} {ds : List D} {u : Value} : PySem.W.nsIn K mainGlobals x = some (some u) → KVal K (.tup ds) u → GlD K (x, .tup ds)
theorem glD_ok {K : PySem.W.Frag} {h : Heap} {mg : Str → Option Value} (X : K.In h) (G : h.Ns mainGlobals mg) {x : Str} {d : D} (g : GlD K (x, d)) : ∃ v u, mg x = some u ∧ RelV v u ∧ ∀ μ H, RV K μ H d v := by
  cases g with
  | non e => exact ⟨.non, _, PySem.W.mg_of X G e, rfl, fun _ _ => .non⟩
  | bl e => exact ⟨.bl _, _, PySem.W.mg_of X G e, rfl, fun _ _ => .bl _⟩
  | int e => exact ⟨.int _, _, PySem.W.mg_of X G e, ⟨_, rfl⟩, fun _ _ => .int _⟩
  | str e => exact ⟨.str _, _, PySem.W.mg_of X G e, ⟨_, rfl⟩, fun _ _ => .str _⟩
  | tup e k => obtain ⟨v, r, q⟩ := k; exact ⟨v, _, PySem.W.mg_of X G e, r, q⟩
theorem gl_ok {K : PySem.W.Frag} {h : Heap} {mg : Str → Option Value} {G : GI} (X : K.In h) (N : h.Ns mainGlobals mg) (a : ∀ p ∈ G.gl, GlD K p) (b : ∀ x ∈ G.bn, PySem.W.nsIn K mainGlobals x = some none) (c : ∀ p ∈ G.gd, ∃ g, PySem.W.nsIn K mainGlobals p.1 = some (some (.ref g)) ∧ KDi K g p.2) : GlOk K mg G :=
  ⟨fun x d hm => glD_ok X N (a _ hm), fun x hx => PySem.W.mg_none_of X N (b x hx), fun x kvs hm => let ⟨g, e, d⟩ := c _ hm; ⟨g, PySem.W.mg_of X N e, d⟩⟩
def KVals (K : PySem.W.Frag) (ds : List D) (us : List Value) : Prop := ∃ vs, Vals vs us ∧ ∀ μ H, RVs K μ H ds vs
theorem kvs_nil {K : PySem.W.Frag} : KVals K [] [] := ⟨[], .nil, fun _ _ => .nil⟩
theorem kvs_cons {K : PySem.W.Frag} {d : D} {ds : List D} {u : Value} {us : List Value} (a : KVal K d u) (b : KVals K ds us) : KVals K (d :: ds) (u :: us) :=
  let ⟨v, r, q⟩ := a; let ⟨vs, rs, qs⟩ := b; ⟨v :: vs, .cons r rs, fun μ H => .cons (q μ H) (qs μ H)⟩
theorem kv_str {K : PySem.W.Frag} {x : Str} {t : Tok} : KVal K (.str x) (.str x t) := ⟨.str x, ⟨t, rfl⟩, fun _ _ => .str x⟩
theorem kv_int {K : PySem.W.Frag} {i : Int} {t : Tok} : KVal K (.int i) (.int i t) := ⟨.int i, ⟨t, rfl⟩, fun _ _ => .int i⟩
theorem kv_bl {K : PySem.W.Frag} {b : Bool} : KVal K (.bl b) (.bool b) := ⟨.bl b, rfl, fun _ _ => .bl b⟩
theorem kv_non {K : PySem.W.Frag} : KVal K .non .none := ⟨.non, rfl, fun _ _ => .non⟩
theorem kv_tup {K : PySem.W.Frag} {a : Addr} {ds : List D} {od : Option Addr} {its : Array Value} {n : Nat} {sl : Array (Option Value)} (l : K.lookup a = some ⟨.type "tuple", od, .seq its n, sl⟩) (z : Nat.ble its.size 1000 = true) (r : KVals K ds its.toList) : KVal K (.tup ds) (.ref a) :=
  let ⟨vs, rs, qs⟩ := r
  ⟨.ref a, rfl, fun μ H => .tup (.inr ⟨_, its, n, l, rfl, rfl, Nat.le_trans (Nat.le_of_ble_eq_true z) (by rw [sizeLine_eq]; decide), rs⟩) (qs μ H)⟩
theorem kdi_mk {K : PySem.W.Frag} {g : Addr} {kvs : List (D × D)} {es : Array DictEntry} {n : Nat} (l : K.lookup g = some ⟨.type "dict", none, .dict es n, #[]⟩) (p : Paired (fun (p : D × D) (e : DictEntry) => ∃ i t, p.1 = .int i ∧ e.key = .int i t ∧ e.hash = hashInt i ∧ KVal K p.2 e.val) kvs es.toList) (w : (g == sysModules) = false) : KDi K g kvs := ⟨⟨es, n, l, p⟩, w⟩
theorem kde_nil {K : PySem.W.Frag} : Paired (fun (p : D × D) (e : DictEntry) => ∃ i t, p.1 = .int i ∧ e.key = .int i t ∧ e.hash = hashInt i ∧ KVal K p.2 e.val) [] [] := .nil
theorem kde_cons {K : PySem.W.Frag} {i : Int} {t : Tok} {x : D} {u : Value} {h : Int} {kvs : List (D × D)} {es : List DictEntry} (hh : h = hashInt i) (v : KVal K x u) (r : Paired (fun (p : D × D) (e : DictEntry) => ∃ i t, p.1 = .int i ∧ e.key = .int i t ∧ e.hash = hashInt i ∧ KVal K p.2 e.val) kvs es) :
    Paired (fun (p : D × D) (e : DictEntry) => ∃ i t, p.1 = .int i ∧ e.key = .int i t ∧ e.hash = hashInt i ∧ KVal K p.2 e.val) ((.int i, x) :: kvs) (⟨h, .int i t, u⟩ :: es) := .cons ⟨i, t, rfl, rfl, hh, v⟩ r
theorem choose_ix {α β : Type} {R : α → β → Prop} (b0 : β) : ∀ {ds : List α}, (∀ y ∈ ds, ∃ b, R y b) → ∃ g : Nat → β, ∀ i y, ds[i]? = some y → R y (g i)
  | [], _ => ⟨fun _ => b0, fun i y e => by simp at e⟩
  | d :: r, h => by
    obtain ⟨b, hb⟩ := h d List.mem_cons_self
    obtain ⟨g, hg⟩ := choose_ix b0 (ds := r) fun y hy => h y (List.mem_cons_of_mem _ hy)
    refine ⟨fun i => match i with | 0 => b | i + 1 => g i, fun i y e => ?_⟩
    cases i with
    | zero => simp at e; subst e; exact hb
    | succ i => exact hg i y (by simpa using e)
structure PF (K : PySem.W.Frag) (mg : Str → Option Value) (h : Heap) (y : DefX) (b : Addr × Addr × Addr × FuncData) : Prop where
  ex : ∃ (oc : Value) (od : Option Addr) (kV doc pm : Value) (an : Option Addr) (ct : Value) (osl : Array (Option Value)),
    b.2.2.2 = PySem.W.fnOf y.nm y.nm (defArgs y.st) (defBody y.st) (defScope y.st) .none kV doc pm an (.ref b.2.1) ct ∧ K.lookup b.1 = some ⟨oc, od, .func b.2.2.2, osl⟩
  code : PySem.W.codeIn K (.ref b.2.1) y.nm = true
  kp : PySem.W.keepIn K (.ref b.1) = true
  mg : mg y.nm = some (.ref b.1)
  hd : PySem.W.CodeHd h b.2.1 b.2.2.1
  tab : h.get? b.2.2.1 = some { cls := .none, data := .fields #[] }
  nP : K.lookup b.2.2.1 = none
theorem law_at {l : PySem.W.OpenLaw} {w : World} {K : PySem.W.Frag} {mg : Str → Option Value} {fa : Addr} {h : Heap} {q : Program} {G : GI} {ds : List DefX} {wf n k fl : Nat} {xl : DefX} {ln x : Str} (KX : K.In h) (N : h.Ns mainGlobals mg) (hmg : mg ln = some (.ref fa)) (TB : Tabs q mg h)
    (hG : G.fs = ds.map fun x => (x.nm, x.ps.length)) (hc : ∀ x ∈ ds, chkD G x = true) (hD : ∀ x ∈ ds, KD KX x) (gl : GlOk K mg G) (hrec : ∀ x ∈ ds, ((recsOf q).any fun e => e.name == x.nm) = true)
    (hb : ∀ y ∈ ds, ∀ (kV doc pm : Value) (an : Option Addr) (cdv ct : Value) (us : List Value), us.length = y.ps.length → bindArgs (PySem.W.fnOf y.nm y.nm (defArgs y.st) (defBody y.st) (defScope y.st) .none kV doc pm an cdv ct) ⟨us, []⟩ = pure (y.ps.zip us))
    (hfl : ds[fl]? = some xl) (hln : xl.nm = ln) (hxp : xl.ps = [x])
    (law : ∀ (ns : List Int) (o : HB), ns.length ≤ n → (∀ z ∈ ns, Builtin.Int.intBits z ≤ 1048576) → (o = .lst (ns.map .int) ∨ o = .rol (ns.map .int)) → ∃ h', callI (ds.map (·.d)) wf k fl [.ref 0] [o] = some (.bl true, h')) :
    LamX.LawAtS l w K CX0 (Lv k) n x mg fa h := by
  have facts : ∀ y ∈ ds, ∃ f c P, KDef K y f c P ∧ mg y.nm = some (.ref f) ∧ PySem.W.CodeHd h c P ∧ h.get? P = some { cls := .none, data := .fields #[] } := fun y hy => by
    obtain ⟨f, c, P, kd⟩ := hD y hy
    obtain ⟨oc, od, kV, doc, pm, an, ct, osl, lk⟩ := kd.ex
    have m1 := PySem.W.mg_of KX N kd.ns
    obtain ⟨dL, hm, hn1⟩ := List.any_eq_true.mp (hrec y hy)
    obtain ⟨a', o', fd', c', P', h1, h2, h3, h4, h5, h6⟩ := TB dL hm
    rw [beq_iff_eq.mp hn1, m1] at h1
    cases h1
    have g1 := KX _ _ lk
    rw [g1] at h2
    cases h2
    cases h3
    cases h4
    obtain ⟨e, dd, vs, sl, t1, t2⟩ := kd.tb
    have ch := PySem.W.CodeHd.of h5 h6
    obtain ⟨⟨oc2, vs2, e1, e2, e3, e4⟩, hP⟩ := h6
    have g2 := KX _ _ t1
    rw [g2] at e1
    cases e1
    cases e3
    rw [t2] at e4
    cases e4
    exact ⟨f, c, P, kd, m1, ch, hP⟩
  have facts2 : ∀ y ∈ ds, ∃ b : Addr × Addr × Addr × FuncData, PF K mg h y b := fun y hy => by
    obtain ⟨f, c, P, kd, m1, ch, hP⟩ := facts y hy
    obtain ⟨oc, od, kV, doc, pm, an, ct, osl, lk⟩ := kd.ex
    exact ⟨(f, c, P, _), ⟨oc, od, kV, doc, pm, an, ct, osl, rfl, lk⟩, kd.code, kd.kp, m1, ch, hP, kd.nP⟩
  obtain ⟨b0, _⟩ := facts2 xl (List.mem_of_getElem? hfl)
  obtain ⟨g, hg⟩ := choose_ix b0 facts2
  have inL : ∀ {i y}, ds[i]? = some y → i ∈ List.range ds.length := fun {i y} e => by
    rw [List.mem_range]
    rcases Nat.lt_or_ge i ds.length with z | z
    · exact z
    · rw [List.getElem?_eq_none z] at e; cases e
  have L := hg fl xl hfl
  have efa : (g fl).1 = fa := by
    have z := L.mg
    rw [hln, hmg] at z
    exact (Value.ref.inj (Option.some.inj z)).symm
  have ofL : ∀ {p : Addr × Addr}, p ∈ (List.range ds.length).map (fun i => ((g i).2.1, (g i).2.2.1)) → ∃ i y, ds[i]? = some y ∧ p = ((g i).2.1, (g i).2.2.1) := fun {p} hp => by
    obtain ⟨i, hi, e⟩ := List.mem_map.mp hp
    exact ⟨i, ds[i]'(List.mem_range.mp hi), List.getElem?_eq_getElem _, e.symm⟩
  have bnd : ∀ i y, ds[i]? = some y → Binds K (g i).2.2.2 y.ps [] := fun i y e => by
    obtain ⟨oc, od, kV, doc, pm, an, ct, osl, ef, _⟩ := (hg i y e).ex
    rw [ef]
    exact .all (hb y (List.mem_of_getElem? e) kV doc pm an (.ref (g i).2.1) ct)
  refine ⟨(g fl).2.2.2, (List.range ds.length).map (fun i => ((g i).2.1, (g i).2.2.1)), spI K (((List.range ds.length).map (fun i => ((g i).2.1, (g i).2.2.1))).map (·.2)) 1 (callI (ds.map (·.d)) wf k fl), ?_, ?_, ?_, ?_, ?_, ?_⟩
  · intro p hp
    obtain ⟨i, y, e, rfl⟩ := ofL hp
    exact (hg i y e).tab
  · intro p hp
    obtain ⟨i, y, e, rfl⟩ := ofL hp
    exact (hg i y e).nP
  · intro p hp
    obtain ⟨i, y, e, rfl⟩ := ofL hp
    exact (hg i y e).hd
  · intro s u
    obtain ⟨oc, od, kV, doc, pm, an, ct, osl, ef, _⟩ := L.ex
    rw [ef]
    have z := hb xl (List.mem_of_getElem? hfl) kV doc pm an (.ref (g fl).2.1) ct [u] (by rw [hxp]; rfl)
    rw [hxp] at z
    exact .of_eq z
  · intro H a ns h1 h2 h3 h4
    refine ⟨rfl, ?_⟩
    have hT : ∀ P ∈ ((List.range ds.length).map (fun i => ((g i).2.1, (g i).2.2.1))).map (·.2), GxR.TabG H P := fun P hP => by
      obtain ⟨p, hp, rfl⟩ := List.mem_map.mp hP
      exact ⟨#[], h3 p hp, True.intro⟩
    have rv : ∀ μ, RVs K μ H (ns.map .int) (ns.map V.int) := fun μ => by
      clear h1 h2 h4
      induction ns with
      | nil => exact .nil
      | cons i r ih => exact .cons (.int i) ih
    have one : ∀ o : HB, (o = .lst (ns.map .int) ∨ o = .rol (ns.map .int)) → OR K [a] H a o → rVs K (((List.range ds.length).map (fun i => ((g i).2.1, (g i).2.2.1))).map (·.2)) (callI (ds.map (·.d)) wf k fl) [V.ref a] H fun v _ => v = .bl true := by
      intro o ho oo
      obtain ⟨h', e⟩ := law ns o h1 h2 ho
      refine ⟨[a], [o], [.ref 0], _, ⟨rfl, ?_, ?_, hT⟩, .cons (.ref rfl) .nil, e, fun μ' H' v _ _ _ rv => by cases rv; rfl⟩
      · intro m n b o1 o2 e1 e2 _ _ _ _
        cases m with
        | succ m => simp at e1
        | zero =>
          cases n with
          | succ n => simp at e2
          | zero => rfl
      · intro n b u e1 e2
        cases n with
        | succ n => simp at e1
        | zero =>
          simp at e1 e2
          subst e1 e2
          exact oo
    rcases h4 with (h4 | ⟨ob, h4⟩) | h4
    · exact one _ (.inl rfl) ⟨_, h4, rv _⟩
    · exact one _ (.inr rfl) ⟨_, .inl ⟨ob, h4⟩, rv _⟩
    · exact one _ (.inr rfl) ⟨_, .inr h4, rv _⟩
  · intro base kb nb tb
    have z := defs_ok (P := l.prog) (w := w) (base := base) (T := ((List.range ds.length).map (fun i => ((g i).2.1, (g i).2.2.1))).map (·.2)) (wf := wf) hG hc gl (ad := fun i => (g i).1) (fd := fun i => (g i).2.2.2) (fun i y e => by
      obtain ⟨oc, od, kV, doc, pm, an, ct, osl, ef, lk⟩ := (hg i y e).ex
      have hp : ((g i).2.1, (g i).2.2.1) ∈ (List.range ds.length).map (fun i => ((g i).2.1, (g i).2.2.1)) := List.mem_map.mpr ⟨i, inL e, rfl⟩
      have t := tb _ hp
      exact ⟨⟨oc, od, kV, doc, pm, an, (g i).2.1, (g i).2.2.1, ct, osl, ef, lk, (hg i y e).code, ⟨t.code, t.bm, t.gP⟩, List.mem_map.mpr ⟨_, hp, rfl⟩⟩, (hg i y e).kp, (hg i y e).mg, bnd i y e⟩) k fl xl hfl
    have z2 : xl.ps.length = 1 := by rw [hxp]; rfl
    rw [z2, hxp] at z
    have z3 := z
    simp only [efa] at z3
    exact z3
end MP
namespace MP
open PySem (Str)
def wO {α : Type} (o : Option α) (Q : α → Prop) : Prop := ∃ r, o = some r ∧ Q r
theorem wO_some {α : Type} {r : α} {Q : α → Prop} : wO (some r) Q = Q r := propext ⟨fun ⟨_, e, q⟩ => by cases e; exact q, fun q => ⟨r, rfl, q⟩⟩
theorem wO_bind {α β : Type} {o : Option α} {f : α → Option β} {Q : β → Prop} : wO (o.bind f) Q = wO o fun a => wO (f a) Q := propext
  ⟨fun ⟨r, e, q⟩ => by obtain ⟨a, e1, e2⟩ := Option.bind_eq_some_iff.mp e; exact ⟨a, e1, r, e2, q⟩, fun ⟨a, e1, r, e2, q⟩ => ⟨r, Option.bind_eq_some_iff.mpr ⟨a, e1, e2⟩, q⟩⟩
theorem wO_map {α β : Type} {o : Option α} {f : α → β} {Q : β → Prop} : wO (o.map f) Q = wO o fun a => Q (f a) := propext
  ⟨fun ⟨r, e, q⟩ => by obtain ⟨a, e1, rfl⟩ := Option.map_eq_some_iff.mp e; exact ⟨a, e1, q⟩, fun ⟨a, e1, q⟩ => ⟨f a, Option.map_eq_some_iff.mpr ⟨a, e1, rfl⟩, q⟩⟩
theorem wO_ite {α : Type} {c : Prop} [Decidable c] {o : Option α} {Q : α → Prop} : wO (if c then o else none) Q = (c ∧ wO o Q) := propext
  ⟨fun ⟨r, e, q⟩ => by obtain ⟨h1, h2⟩ := Option.ite_none_right_eq_some.mp e; exact ⟨h1, r, h2, q⟩, fun ⟨h1, r, e, q⟩ => ⟨r, by rw [if_pos h1]; exact e, q⟩⟩
theorem wO_imp {α : Type} {o : Option α} {Q Q' : α → Prop} (h : wO o Q) (i : ∀ r, Q r → Q' r) : wO o Q' := let ⟨r, e, q⟩ := h; ⟨r, e, i r q⟩
section
variable (cl : Nat → List D → HI → Rz) (wf : Nat)
def wE (e : ME) (σ : St) (h : HI) (Q : D → HI → Prop) : Prop := wO (evE cl e σ h) fun r => Q r.1 r.2
def wL (es : MEs) (σ : St) (h : HI) (Q : List D → HI → Prop) : Prop := wO (evEs cl es σ h) fun r => Q r.1 r.2
def wI (i : MI) (σ : St) (h : HI) (Q : It → HI → Prop) : Prop := wO (evI cl i σ h) fun r => Q r.1 r.2
def wS (s : MS) (σ : St) (h : HI) (Q : Fl → HI → Prop) : Prop := wO (evS cl wf s σ h) fun r => Q r.1 r.2
def wB (s : MSs) (σ : St) (h : HI) (Q : Fl → HI → Prop) : Prop := wO (evSs cl wf s σ h) fun r => Q r.1 r.2
end
def wV : St → Nat → (D → Prop) → Prop
  | some d :: _, 0, Q => Q d
  | _ :: r, n + 1, Q => wV r n Q
  | _, _, _ => False
theorem wV_eq : ∀ (σ : St) (i : Nat) (Q : D → Prop), wV σ i Q = (∃ d, σ[i]? = some (some d) ∧ Q d)
  | [], i, Q => by cases i <;> simp [wV]
  | none :: r, 0, Q => by simp [wV]
  | some d :: r, 0, Q => by simp [wV]
  | none :: r, n + 1, Q => by simp [wV, wV_eq r n Q]
  | some d :: r, n + 1, Q => by simp [wV, wV_eq r n Q]
def wW : St → Nat → D → (St → Prop) → Prop
  | _ :: r, 0, d, Q => Q (some d :: r)
  | x :: r, n + 1, d, Q => wW r n d fun r' => Q (x :: r')
  | [], _, _, _ => False
theorem wW_eq : ∀ (σ : St) (i : Nat) (d : D) (Q : St → Prop), wW σ i d Q = wO (bind1 (.nm i) d σ) Q
  | [], i, d, Q => by cases i <;> simp [wW, wO, bind1]
  | x :: r, 0, d, Q => by simp [wW, wO, bind1]
  | x :: r, n + 1, d, Q => by
    simp only [wW, wW_eq r n d]
    simp only [bind1, wO, List.length_cons]
    by_cases c : n < r.length
    · simp [c]
    · simp [c]
section
variable {cl : Nat → List D → HI → Rz} {wf : Nat} {σ : St} {h : HI} {Q : D → HI → Prop} {R : Fl → HI → Prop} {QL : List D → HI → Prop} {QI : It → HI → Prop}
theorem wE_var {i : Nat} : wE cl (.var i) σ h Q = wV σ i fun d => Q d h := by
  rw [wV_eq]
  unfold wE wO
  simp only [evE]
  refine propext ⟨fun ⟨r, e, q⟩ => ?_, fun ⟨d, e, q⟩ => ⟨(d, h), by rw [e], q⟩⟩
  split at e
  · rename_i d hd
    cases e
    exact ⟨d, hd, q⟩
  · cases e
theorem wE_cst {d : D} : wE cl (.cst d) σ h Q = Q d h := wO_some
theorem wE_glb {d : D} : wE cl (.glb d) σ h Q = Q d h := wO_some
theorem wE_tup {es : MEs} : wE cl (.tup es) σ h Q = wL cl es σ h fun ds h1 => ds.length ≤ big ∧ Q (.tup ds) h1 := by
  unfold wE wL
  simp only [evE, wO_bind, wO_ite, wO_some]
theorem wE_lst {es : MEs} : wE cl (.lst es) σ h Q = wL cl es σ h fun ds h1 => ds.length ≤ big ∧ Q (.ref h1.length) (h1 ++ [.lst ds]) := by
  unfold wE wL
  simp only [evE, wO_bind, wO_ite, hnew, wO_some]
theorem wE_dnew : wE cl .dnew σ h Q = Q (.ref h.length) (h ++ [.dic []]) := by
  unfold wE
  simp only [evE, hnew, wO_some]
theorem wE_bin {op : BOp} {a b : ME} : wE cl (.bin op a b) σ h Q = wE cl a σ h fun x h1 => wE cl b σ h1 fun y h2 => wO (binD op x y h2) fun r => Q r.1 r.2 := by
  unfold wE
  simp only [evE, wO_bind]
theorem wE_cmp {op : COp} {a b : ME} : wE cl (.cmp op a b) σ h Q = wE cl a σ h fun x h1 => wE cl b σ h1 fun y h2 => wO (cmpB op x y h2) fun c => Q (.bl c) h2 := by
  unfold wE
  simp only [evE, wO_bind, wO_map]
theorem wE_not {a : ME} : wE cl (.not a) σ h Q = wE cl a σ h fun x h1 => wO (truth x h1) fun c => Q (.bl (!c)) h1 := by
  unfold wE
  simp only [evE, wO_bind, wO_map]
theorem wE_or {a b : ME} : wE cl (.or a b) σ h Q = wE cl a σ h fun x h1 => wO (truth x h1) fun c => if c = true then Q x h1 else wE cl b σ h1 Q := by
  unfold wE
  simp only [evE, wO_bind]
  congr 1
  funext r
  cases c : truth r.1 r.2 with
  | none => simp [wO]
  | some k => cases k <;> simp [wO]
theorem wE_and {a b : ME} : wE cl (.and a b) σ h Q = wE cl a σ h fun x h1 => wO (truth x h1) fun c => if c = true then wE cl b σ h1 Q else Q x h1 := by
  unfold wE
  simp only [evE, wO_bind]
  congr 1
  funext r
  cases c : truth r.1 r.2 with
  | none => simp [wO]
  | some k => cases k <;> simp [wO]
theorem wE_idx {a i : ME} : wE cl (.idx a i) σ h Q = wE cl a σ h fun x h1 => wE cl i σ h1 fun y h2 => wO (idxD x y h2) fun r => Q r.1 r.2 := by
  unfold wE
  simp only [evE, wO_bind]
theorem wE_slc {a lo hi : ME} : wE cl (.slc a lo hi) σ h Q = wE cl a σ h fun x h1 => wE cl lo σ h1 fun l h2 => wE cl hi σ h2 fun u h3 => wO (partOf (isOmit lo) l) fun l' => wO (partOf (isOmit hi) u) fun u' => wO (slcD x l' u' h3) fun r => Q r.1 r.2 := by
  unfold wE
  simp only [evE, wO_bind]
  congr 1
  funext r
  congr 1
  funext p
  congr 1
  funext q
  cases partOf (isOmit lo) p.1 with
  | none => simp [wO]
  | some l =>
    cases partOf (isOmit hi) q.1 with
    | none => simp [wO]
    | some u => simp [wO_some]
theorem wE_omit : wE cl .omit σ h Q = Q .non h := wO_some
theorem wE_call {f : Nat} {es : MEs} : wE cl (.call f es) σ h Q = wL cl es σ h fun ds h1 => wO (cl f ds h1) fun r => Q r.1 r.2 := by
  unfold wE wL
  simp only [evE, wO_bind]
theorem wE_blt {b : Blt} {es : MEs} : wE cl (.blt b es) σ h Q = wL cl es σ h fun ds h1 => wO (bltD b ds h1) fun r => Q r.1 r.2 := by
  unfold wE wL
  simp only [evE, wO_bind]
theorem wE_isi {t : Ty} {a : ME} : wE cl (.isi t a) σ h Q = wE cl a σ h fun x h1 => wO (hasTy t x h1) fun c => Q (.bl c) h1 := by
  unfold wE
  simp only [evE, wO_bind, bltD, wO_map]
theorem wE_sst {a : ME} : wE cl (.sst a) σ h Q = wE cl a σ h fun x h1 => wO (sstD x h1) fun r => Q r.1 r.2 := by
  unfold wE
  simp only [evE, wO_bind]
theorem wE_lck {i : Nat} {a : ME} {n : Nat} {kvs : List (D × D)} (hi : σ.getD i none = some (.ref n)) (hn : h[n]? = some (.dic kvs)) (w : wE cl a σ (h.set n (.frz kvs)) fun x h1 => ∃ k, h1[n]? = some (.frz k) ∧ Q x (h1.set n (.dic k))) : wE cl (.lck i a) σ h Q := by
  obtain ⟨r, e, k, e1, q⟩ := w
  refine ⟨(r.1, r.2.set n (.dic k)), ?_, q⟩
  simp only [evE, hi, lckD, hn, Option.bind_some, e, unlD, e1, Option.map_some]
theorem wE_mth {m : Mth} {o : ME} {es : MEs} : wE cl (.mth m o es) σ h Q = wE cl o σ h fun x h1 => recv m x h1 = true ∧ wL cl es σ h1 fun ds h2 => wO (mthD m x ds h2) fun r => Q r.1 r.2 := by
  unfold wE wL
  simp only [evE, wO_bind, wO_ite]
theorem wL_nil : wL cl .nil σ h QL = QL [] h := wO_some
theorem wL_cons {e : ME} {es : MEs} : wL cl (.cons e es) σ h QL = wE cl e σ h fun x h1 => wL cl es σ h1 fun xs h2 => QL (x :: xs) h2 := by
  unfold wL wE
  simp only [evEs, wO_bind, wO_some]
theorem wB_nil : wB cl wf .nil σ h R = R (.nx σ) h := wO_some
theorem wB_cons {s : MS} {r : MSs} : wB cl wf (.cons s r) σ h R = wS cl wf s σ h fun f h1 => match f with | .nx σ' => wB cl wf r σ' h1 R | f => R f h1 := by
  unfold wB wS wO
  simp only [evSs]
  refine propext ⟨fun ⟨z, e, q⟩ => ?_, fun ⟨z, e, q⟩ => ?_⟩
  · split at e
    · rename_i σ' h' e1
      exact ⟨_, e1, z, e, q⟩
    · rename_i hx
      refine ⟨z, e, ?_⟩
      obtain ⟨f, h1⟩ := z
      cases f with
      | nx σ' => exact absurd e (hx σ' h1)
      | _ => exact q
  · obtain ⟨f, h1⟩ := z
    rw [e]
    cases f with
    | nx σ' => exact q
    | brk _ => exact ⟨_, rfl, q⟩
    | ct _ => exact ⟨_, rfl, q⟩
    | rt _ => exact ⟨_, rfl, q⟩
theorem wS_asg {i : Nat} {e : ME} : wS cl wf (.asg (.nm i) e) σ h R = wE cl e σ h fun x h1 => wW σ i x fun σ' => R (.nx σ') h1 := by
  unfold wS wE
  simp only [evS, wO_bind, wO_map, wW_eq]
theorem wS_sub {o i e : ME} : wS cl wf (.sub o i e) σ h R = wE cl e σ h fun v h1 => wE cl o σ h1 fun x h2 => wE cl i σ h2 fun y h3 => wO (setIx x y v h3) fun h' => R (.nx σ) h' := by
  unfold wS wE
  simp only [evS, wO_bind, wO_map]
theorem wS_expr {e : ME} : wS cl wf (.expr e) σ h R = wE cl e σ h fun _ h1 => R (.nx σ) h1 := by
  unfold wS wE
  simp only [evS, wO_map]
theorem wS_ret {e : ME} : wS cl wf (.ret e) σ h R = wE cl e σ h fun x h1 => R (.rt x) h1 := by
  unfold wS wE
  simp only [evS, wO_map]
theorem wS_ite {c : ME} {a b : MSs} : wS cl wf (.ite c a b) σ h R = wE cl c σ h fun x h1 => wO (truth x h1) fun t => if t = true then wB cl wf a σ h1 R else wB cl wf b σ h1 R := by
  unfold wS wE wB
  simp only [evS, testE, wO_bind, wO_map]
  congr 1
  funext r
  congr 1
  funext t
  cases t <;> simp
theorem wI_ex {e : ME} : wI cl (.ex e) σ h QI = wE cl e σ h fun x h1 => wO (itOf x h1) fun t => QI t h1 := by
  unfold wI wE
  simp only [evI, wO_bind, wO_map]
theorem wI_rng {es : MEs} : wI cl (.rng es) σ h QI = wL cl es σ h fun ds h1 => wO (rngIt ds) fun t => QI t h1 := by
  unfold wI wL
  simp only [evI, wO_bind, wO_map]
theorem wI_zip {a b : ME} : wI cl (.zip a b) σ h QI = wE cl a σ h fun x h1 => wE cl b σ h1 fun y h2 => wO (zipOf x y h2) fun t => QI t h2 := by
  unfold wI wE
  simp only [evI, wO_bind, wO_map]
theorem wS_for {t : Tg} {i : MI} {b : MSs} (I : Nat → St → HI → Prop)
    (hi : wI cl i σ h fun it h1 => I 0 σ h1 ∧ (∀ j σ h, j < it.len → I j σ h → ∃ d, it.nx j h = some d ∧ wO (bind1 t d σ) fun σ1 => wB cl wf b σ1 h fun f h2 => match f with | .nx σ2 => I (j + 1) σ2 h2 | .ct σ2 => I (j + 1) σ2 h2 | _ => False) ∧
      ∀ σ h, I it.len σ h → it.fin h = true ∧ R (.nx σ) h) : wS cl wf (.fr t i b) σ h R := by
  obtain ⟨⟨it, h1⟩, ei, q0⟩ := hi
  have h0 : I 0 σ h1 := q0.1
  have st : ∀ j σ h, j < it.len → I j σ h → ∃ d, it.nx j h = some d ∧ wO (bind1 t d σ) fun σ1 => wB cl wf b σ1 h fun f h2 => match f with | .nx σ2 => I (j + 1) σ2 h2 | .ct σ2 => I (j + 1) σ2 h2 | _ => False := q0.2.1
  have fi : ∀ σ h, I it.len σ h → it.fin h = true ∧ R (.nx σ) h := q0.2.2
  clear q0
  have loop : ∀ (n j : Nat) (σ : St) (h : HI), j + n = it.len → I j σ h → ∃ σ' h', loopN it.nx it.fin (fun d σ h => (bind1 t d σ).bind fun σ' => (evSs cl wf b σ' h).map fun q => (turnOf q.1, q.2)) n j σ h = some (.inl σ', h') ∧ I it.len σ' h' := by
    intro n
    induction n with
    | zero =>
      intro j σ h hj hI
      have hj : j = it.len := by omega
      subst hj
      exact ⟨σ, h, by simp only [loopN, (fi σ h hI).1, if_true], hI⟩
    | succ n ih =>
      intro j σ h hj hI
      obtain ⟨d, e1, σ1, e2, ⟨f, h2⟩, e3, q⟩ := st j σ h (by omega) hI
      cases f with
      | nx σ2 =>
        obtain ⟨σ', h', e4, e5⟩ := ih (j + 1) σ2 h2 (by omega) q
        exact ⟨σ', h', by simp only [loopN, e1, e2, e3, Option.bind_some, Option.map_some, turnOf]; exact e4, e5⟩
      | ct σ2 =>
        obtain ⟨σ', h', e4, e5⟩ := ih (j + 1) σ2 h2 (by omega) q
        exact ⟨σ', h', by simp only [loopN, e1, e2, e3, Option.bind_some, Option.map_some, turnOf]; exact e4, e5⟩
      | brk _ => exact q.elim
      | rt _ => exact q.elim
  obtain ⟨σ', h', e4, e5⟩ := loop it.len 0 σ h1 (by omega) h0
  refine ⟨(.nx σ', h'), ?_, (fi σ' h' e5).2⟩
  simp only [evS, ei, Option.bind_some, e4, Option.map_some, afterFor]
end
theorem wC {P : List Def} {wf k f : Nat} {d : Def} {ds : List D} {h : HI} {Q : D × HI → Prop} (hf : P[f]? = some d) (hl : ds.length = d.np)
    (w : wB (callI P wf k) wf d.body (startD d.nn ds) h fun f h' => match f with | .rt x => Q (x, h') | .nx _ => Q (.non, h') | _ => False) : wO (callI P wf (k + 1) f ds h) Q := by
  obtain ⟨⟨fl, h'⟩, e, q⟩ := w
  cases fl with
  | rt x => exact ⟨(x, h'), by simp only [callI, hf, hl, if_true, e], q⟩
  | nx x => exact ⟨(.non, h'), by simp only [callI, hf, hl, if_true, e], q⟩
  | brk _ => exact q.elim
  | ct _ => exact q.elim
end MP
namespace MP
open PySem (Str)
section
variable {cl : Nat → List D → HI → Rz} {σ : St} {h : HI} {Q : D → HI → Prop}
theorem loop_to {α : Type} {nx : Nat → HI → Option D} {fin : HI → Bool} {body : D → α → HI → Option ((α ⊕ D) × HI)} {len : Nat} (I : Nat → α → HI → Prop)
    (st : ∀ j a h, j < len → I j a h → ∃ d a' h', nx j h = some d ∧ body d a h = some (.inl a', h') ∧ I (j + 1) a' h') (fi : ∀ a h, I len a h → fin h = true) : ∀ (n j : Nat) (a : α) (h : HI), j + n = len → I j a h →
    ∃ a' h', loopN nx fin body n j a h = some (.inl a', h') ∧ I len a' h'
  | 0, j, a, h, hj, hI => by
    have hj : j = len := by omega
    subst hj
    exact ⟨a, h, by simp only [loopN, fi a h hI, if_true], hI⟩
  | n + 1, j, a, h, hj, hI => by
    obtain ⟨d, a1, h1, e1, e2, q⟩ := st j a h (by omega) hI
    obtain ⟨a', h', e4, e5⟩ := loop_to I st fi n (j + 1) a1 h1 (by omega) q
    exact ⟨a', h', by simp only [loopN, e1, e2]; exact e4, e5⟩
theorem wE_lc {own : List Nat} {t : Tg} {i : MI} {c e : ME} (I : Nat → Nat → List D → HI → Prop)
    (hi : wI cl i σ h fun it h1 => I h1.length 0 [] (h1 ++ [.lst []]) ∧
      (∀ j acc H, j < it.len → I h1.length j acc H → H[h1.length]? = some (.lst acc) → ∃ d, it.nx j H = some d ∧ wO (bind1 t d (wipeD σ own)) fun σ1 => wE cl c σ1 H fun x H1 => wO (truth x H1) fun tt =>
        if tt = true then wE cl e σ1 H1 fun y H2 => H2[h1.length]? = some (.lst acc) ∧ acc.length < big ∧ I h1.length (j + 1) (acc ++ [y]) (H2.set h1.length (.lst (acc ++ [y]))) else H1[h1.length]? = some (.lst acc) ∧ I h1.length (j + 1) acc H1) ∧
      ∀ acc H, I h1.length it.len acc H → H[h1.length]? = some (.lst acc) → it.fin H = true ∧ Q (.ref h1.length) H) : wE cl (.comp .lst own (.one t i c e .omit)) σ h Q := by
  obtain ⟨⟨it, h1⟩, ei, q0⟩ := hi
  have q0 : I h1.length 0 [] (h1 ++ [.lst []]) ∧
      (∀ j acc H, j < it.len → I h1.length j acc H → H[h1.length]? = some (.lst acc) → ∃ d, it.nx j H = some d ∧ wO (bind1 t d (wipeD σ own)) fun σ1 => wE cl c σ1 H fun x H1 => wO (truth x H1) fun tt =>
        if tt = true then wE cl e σ1 H1 fun y H2 => H2[h1.length]? = some (.lst acc) ∧ acc.length < big ∧ I h1.length (j + 1) (acc ++ [y]) (H2.set h1.length (.lst (acc ++ [y]))) else H1[h1.length]? = some (.lst acc) ∧ I h1.length (j + 1) acc H1) ∧
      ∀ acc H, I h1.length it.len acc H → H[h1.length]? = some (.lst acc) → it.fin H = true ∧ Q (.ref h1.length) H := q0
  obtain ⟨h0, st, fi⟩ := q0
  obtain ⟨a', h', e4, acc, e5, e6⟩ := loop_to (len := it.len) (nx := it.nx) (fin := it.fin) (body := fun d a h => (bind1 t d (wipeD σ own)).bind fun σ' => (evE cl c σ' h).bind fun q => match truth q.1 q.2 with
        | some true => (evE cl e σ' q.2).bind fun x => (evE cl .omit σ' x.2).bind fun y => emit .lst h1.length x.1 y.1 a y.2
        | some false => some (.inl a, q.2)
        | none => none) (fun j (a : Acc) H => ∃ acc, I h1.length j acc H ∧ H[h1.length]? = some (.lst acc)) (by
      rintro j a H hj ⟨acc, hI, hn⟩
      obtain ⟨d, f1, σ1, f2, ⟨x, H1⟩, f3, tt, f4, f5⟩ := st j acc H hj hI hn
      have f4 : truth x H1 = some tt := f4
      cases tt with
      | false =>
        refine ⟨d, a, H1, f1, ?_, acc, f5.2, f5.1⟩
        simp only [f2, Option.bind_some, f3, f4]
      | true =>
        obtain ⟨⟨y, H2⟩, g1, g2, g3, g4⟩ := f5
        have g2 : H2[h1.length]? = some (.lst acc) := g2
        refine ⟨d, a, H2.set h1.length (.lst (acc ++ [y])), f1, ?_, acc ++ [y], g4, ?_⟩
        · simp only [f2, Option.bind_some, f3, f4, g1, evE, emit, g2, g3, if_true]
        · rw [List.getElem?_set_self]
          rcases Nat.lt_or_ge h1.length H2.length with z | z
          · exact z
          · rw [List.getElem?_eq_none z] at g2; cases g2) (by
      rintro a H ⟨acc, hI, hn⟩
      exact (fi acc H hI hn).1) it.len 0 (acc0 .lst h1).1 (acc0 .lst h1).2 (by omega) ⟨[], h0, by simp [acc0]⟩
  refine ⟨(.ref h1.length, h'), ?_, (fi acc h' e5 e6).2⟩
  rw [evE, evC, ei]
  exact (congrArg (fun o => Option.bind o _) e4).trans rfl
theorem wE_gt {own : List Nat} {t : Tg} {i : MI} {c e : ME} (I : Nat → List D → HI → Prop)
    (hi : wI cl i σ h fun it h1 => I 0 [] h1 ∧
      (∀ j acc H, j < it.len → I j acc H → ∃ d, it.nx j H = some d ∧ wO (bind1 t d (wipeD σ own)) fun σ1 => wE cl c σ1 H fun x H1 => wO (truth x H1) fun tt =>
        if tt = true then wE cl e σ1 H1 fun y H2 => acc.length < big ∧ I (j + 1) (acc ++ [y]) H2 else I (j + 1) acc H1) ∧
      ∀ acc H, I it.len acc H → it.fin H = true ∧ Q (.tup acc) H) : wE cl (.comp .gtup own (.one t i c e .omit)) σ h Q := by
  obtain ⟨⟨it, h1⟩, ei, q0⟩ := hi
  have q0 : I 0 [] h1 ∧
      (∀ j acc H, j < it.len → I j acc H → ∃ d, it.nx j H = some d ∧ wO (bind1 t d (wipeD σ own)) fun σ1 => wE cl c σ1 H fun x H1 => wO (truth x H1) fun tt =>
        if tt = true then wE cl e σ1 H1 fun y H2 => acc.length < big ∧ I (j + 1) (acc ++ [y]) H2 else I (j + 1) acc H1) ∧
      ∀ acc H, I it.len acc H → it.fin H = true ∧ Q (.tup acc) H := q0
  obtain ⟨h0, st, fi⟩ := q0
  obtain ⟨a', h', e4, acc, ea, e5⟩ := loop_to (len := it.len) (nx := it.nx) (fin := it.fin) (body := fun d a h => (bind1 t d (wipeD σ own)).bind fun σ' => (evE cl c σ' h).bind fun q => match truth q.1 q.2 with
        | some true => (evE cl e σ' q.2).bind fun x => (evE cl .omit σ' x.2).bind fun y => emit .gtup h1.length x.1 y.1 a y.2
        | some false => some (.inl a, q.2)
        | none => none) (fun j (a : Acc) H => ∃ acc, a = .ds acc ∧ I j acc H) (by
      rintro j a H hj ⟨acc, rfl, hI⟩
      obtain ⟨d, f1, σ1, f2, ⟨x, H1⟩, f3, tt, f4, f5⟩ := st j acc H hj hI
      have f4 : truth x H1 = some tt := f4
      cases tt with
      | false =>
        refine ⟨d, .ds acc, H1, f1, ?_, acc, rfl, f5⟩
        simp only [f2, Option.bind_some, f3, f4]
      | true =>
        obtain ⟨⟨y, H2⟩, g1, g3, g4⟩ := f5
        refine ⟨d, .ds (acc ++ [y]), H2, f1, ?_, acc ++ [y], rfl, g4⟩
        simp only [f2, Option.bind_some, f3, f4, g1, evE, emit, g3, if_true]) (by
      rintro a H ⟨acc, _, hI⟩
      exact (fi acc H hI).1) it.len 0 (acc0 .gtup h1).1 (acc0 .gtup h1).2 (by omega) ⟨[], rfl, h0⟩
  refine ⟨(.tup acc, h'), ?_, (fi acc h' e5).2⟩
  subst ea
  rw [evE, evC, ei]
  exact (congrArg (fun o => Option.bind o _) e4).trans rfl
theorem wE_dc {own : List Nat} {t : Tg} {i : MI} {c e v : ME} (I : Nat → Nat → List (D × D) → HI → Prop)
    (hi : wI cl i σ h fun it h1 => I h1.length 0 [] (h1 ++ [.dic []]) ∧
      (∀ j kvs H, j < it.len → I h1.length j kvs H → H[h1.length]? = some (.dic kvs) → ∃ d, it.nx j H = some d ∧ wO (bind1 t d (wipeD σ own)) fun σ1 => wE cl c σ1 H fun x H1 => wO (truth x H1) fun tt =>
        tt = true ∧ wE cl e σ1 H1 fun y H2 => wE cl v σ1 H2 fun w H3 => H3[h1.length]? = some (.dic kvs) ∧ y.key = true ∧ kvs.length < big ∧ I h1.length (j + 1) (kPut kvs y w) (H3.set h1.length (.dic (kPut kvs y w)))) ∧
      ∀ kvs H, I h1.length it.len kvs H → H[h1.length]? = some (.dic kvs) → it.fin H = true ∧ Q (.ref h1.length) H) : wE cl (.comp .dct own (.one t i c e v)) σ h Q := by
  obtain ⟨⟨it, h1⟩, ei, q0⟩ := hi
  have q0 : I h1.length 0 [] (h1 ++ [.dic []]) ∧
      (∀ j kvs H, j < it.len → I h1.length j kvs H → H[h1.length]? = some (.dic kvs) → ∃ d, it.nx j H = some d ∧ wO (bind1 t d (wipeD σ own)) fun σ1 => wE cl c σ1 H fun x H1 => wO (truth x H1) fun tt =>
        tt = true ∧ wE cl e σ1 H1 fun y H2 => wE cl v σ1 H2 fun w H3 => H3[h1.length]? = some (.dic kvs) ∧ y.key = true ∧ kvs.length < big ∧ I h1.length (j + 1) (kPut kvs y w) (H3.set h1.length (.dic (kPut kvs y w)))) ∧
      ∀ kvs H, I h1.length it.len kvs H → H[h1.length]? = some (.dic kvs) → it.fin H = true ∧ Q (.ref h1.length) H := q0
  obtain ⟨h0, st, fi⟩ := q0
  obtain ⟨a', h', e4, acc, e5, e6⟩ := loop_to (len := it.len) (nx := it.nx) (fin := it.fin) (body := fun d a h => (bind1 t d (wipeD σ own)).bind fun σ' => (evE cl c σ' h).bind fun q => match truth q.1 q.2 with
        | some true => (evE cl e σ' q.2).bind fun x => (evE cl v σ' x.2).bind fun y => emit .dct h1.length x.1 y.1 a y.2
        | some false => some (.inl a, q.2)
        | none => none) (fun j (a : Acc) H => ∃ kvs, I h1.length j kvs H ∧ H[h1.length]? = some (.dic kvs)) (by
      rintro j a H hj ⟨kvs, hI, hn⟩
      obtain ⟨d, f1, σ1, f2, ⟨x, H1⟩, f3, tt, f4, rfl, f5⟩ := st j kvs H hj hI hn
      have f4 : truth x H1 = some true := f4
      obtain ⟨⟨y, H2⟩, g1, ⟨w, H3⟩, g1', g2, g3, g4, g5⟩ := f5
      have g1' : evE cl v σ1 H2 = some (w, H3) := g1'
      have g2 : H3[h1.length]? = some (.dic kvs) := g2
      have g3 : y.key = true := g3
      refine ⟨d, a, H3.set h1.length (.dic (kPut kvs y w)), f1, ?_, kPut kvs y w, g5, ?_⟩
      · simp only [f2, Option.bind_some, f3, f4, g1, g1', emit, g2, g3, g4, decide_true, Bool.and_self, if_true]
      · rw [List.getElem?_set_self]
        rcases Nat.lt_or_ge h1.length H3.length with z | z
        · exact z
        · rw [List.getElem?_eq_none z] at g2; cases g2) (by
      rintro a H ⟨acc, hI, hn⟩
      exact (fi acc H hI hn).1) it.len 0 (acc0 .dct h1).1 (acc0 .dct h1).2 (by omega) ⟨[], h0, by simp [acc0]⟩
  refine ⟨(.ref h1.length, h'), ?_, (fi acc h' e5 e6).2⟩
  rw [evE, evC, ei]
  exact (congrArg (fun o => Option.bind o _) e4).trans rfl
end
end MP
namespace MP
open PySem (Str)
section
variable {cl : Nat → List D → HI → Rz} {σ : St} {h : HI} {Q : D → HI → Prop}
def Lc2 (cl : Nat → List D → HI → Rz) (σ : St) (own own1 : List Nat) (t t1 : Tg) (i1 : MI) (c c1 e : ME) (I : Nat → List D → HI → Prop) (J : Nat → Nat → List D → HI → Prop) (n : Nat) (it : It) (Q : D → HI → Prop) : Prop :=
  (∀ j acc H, j < it.len → I j acc H → H[n]? = some (.lst acc) → ∃ d, it.nx j H = some d ∧ wO (bind1 t d (wipeD σ own)) fun σ1 => wE cl c σ1 H fun x H1 => wO (truth x H1) fun tt => tt = true ∧ wI cl i1 σ1 H1 fun it1 H2 => H2[n]? = some (.lst acc) ∧ J j 0 acc H2 ∧
    (∀ l acc H, l < it1.len → J j l acc H → H[n]? = some (.lst acc) → ∃ d, it1.nx l H = some d ∧ wO (bind1 t1 d (wipeD σ1 own1)) fun σ2 => wE cl c1 σ2 H fun x H1 => wO (truth x H1) fun tt => tt = true ∧ wE cl e σ2 H1 fun y H2 => H2[n]? = some (.lst acc) ∧ acc.length < big ∧ J j (l + 1) (acc ++ [y]) (H2.set n (.lst (acc ++ [y])))) ∧
    ∀ acc H, J j it1.len acc H → H[n]? = some (.lst acc) → it1.fin H = true ∧ I (j + 1) acc H) ∧
  ∀ acc H, I it.len acc H → H[n]? = some (.lst acc) → it.fin H = true ∧ Q (.ref n) H
theorem wE_lc2 {own own1 : List Nat} {t t1 : Tg} {i i1 : MI} {c c1 e : ME} (I : Nat → Nat → List D → HI → Prop) (J : Nat → Nat → Nat → List D → HI → Prop)
    (hi : wI cl i σ h fun it h1 => I h1.length 0 [] (h1 ++ [.lst []]) ∧ Lc2 cl σ own own1 t t1 i1 c c1 e (I h1.length) (J h1.length) h1.length it Q) : wE cl (.comp .lst own (.more t i c own1 (.one t1 i1 c1 e .omit))) σ h Q := by
  obtain ⟨⟨it, h1⟩, ei, q0⟩ := hi
  have q0 : I h1.length 0 [] (h1 ++ [.lst []]) ∧ Lc2 cl σ own own1 t t1 i1 c c1 e (I h1.length) (J h1.length) h1.length it Q := q0
  obtain ⟨h0, st, fi⟩ := q0
  obtain ⟨a', h', e4, acc, e5, e6⟩ := loop_to (len := it.len) (nx := it.nx) (fin := it.fin) (body := fun d a h => (bind1 t d (wipeD σ own)).bind fun σ' => (evE cl c σ' h).bind fun q => match truth q.1 q.2 with
        | some true => evD cl .lst own1 h1.length (.one t1 i1 c1 e .omit) a σ' q.2
        | some false => some (.inl a, q.2)
        | none => none) (fun j (a : Acc) H => ∃ acc, I h1.length j acc H ∧ H[h1.length]? = some (.lst acc)) (by
      rintro j a H hj ⟨acc, hI, hn⟩
      obtain ⟨d, f1, σ1, f2, ⟨x, H1⟩, f3, tt, f4, rfl, ⟨it1, H2⟩, f5, g0, g1, st1, fi1⟩ := st j acc H hj hI hn
      have f4 : truth x H1 = some true := f4
      have g0 : H2[h1.length]? = some (.lst acc) := g0
      have st1 : ∀ l acc H, l < it1.len → J h1.length j l acc H → H[h1.length]? = some (.lst acc) → ∃ d, it1.nx l H = some d ∧ wO (bind1 t1 d (wipeD σ1 own1)) fun σ2 => wE cl c1 σ2 H fun x H1 => wO (truth x H1) fun tt => tt = true ∧ wE cl e σ2 H1 fun y H2 => H2[h1.length]? = some (.lst acc) ∧ acc.length < big ∧ J h1.length j (l + 1) (acc ++ [y]) (H2.set h1.length (.lst (acc ++ [y]))) := st1
      obtain ⟨a2, H3, k1, acc2, k2, k3⟩ := loop_to (len := it1.len) (nx := it1.nx) (fin := it1.fin) (body := fun d a h => (bind1 t1 d (wipeD σ1 own1)).bind fun σ' => (evE cl c1 σ' h).bind fun q => match truth q.1 q.2 with
          | some true => (evE cl e σ' q.2).bind fun x => (evE cl .omit σ' x.2).bind fun y => emit .lst h1.length x.1 y.1 a y.2
          | some false => some (.inl a, q.2)
          | none => none) (fun l (a : Acc) H => ∃ acc, J h1.length j l acc H ∧ H[h1.length]? = some (.lst acc)) (by
        rintro l a H hl ⟨acc, hJ, hn⟩
        obtain ⟨d, f1, σ2, f2, ⟨x, H1⟩, f3, tt, f4, rfl, ⟨y, H2⟩, u1, u2, u3, u4⟩ := st1 l acc H hl hJ hn
        have f4 : truth x H1 = some true := f4
        have u2 : H2[h1.length]? = some (.lst acc) := u2
        refine ⟨d, a, H2.set h1.length (.lst (acc ++ [y])), f1, ?_, acc ++ [y], u4, ?_⟩
        · simp only [f2, Option.bind_some, f3, f4, u1, evE, emit, u2, u3, if_true]
        · rw [List.getElem?_set_self]
          rcases Nat.lt_or_ge h1.length H2.length with z | z
          · exact z
          · rw [List.getElem?_eq_none z] at u2; cases u2) (by
        rintro a H ⟨acc, hJ, hn⟩
        exact (fi1 acc H hJ hn).1) it1.len 0 a H2 (by omega) ⟨acc, g1, g0⟩
      refine ⟨d, a2, H3, f1, ?_, acc2, (fi1 acc2 H3 k2 k3).2, k3⟩
      simp only [f2, Option.bind_some, f3, f4]
      rw [evD, f5]
      exact k1) (by
      rintro a H ⟨acc, hI, hn⟩
      exact (fi acc H hI hn).1) it.len 0 (acc0 .lst h1).1 (acc0 .lst h1).2 (by omega) ⟨[], h0, by simp [acc0]⟩
  refine ⟨(.ref h1.length, h'), ?_, (fi acc h' e5 e6).2⟩
  rw [evE, evC, ei]
  exact (congrArg (fun o => Option.bind o _) e4).trans rfl
end
end MP
namespace MP
open PySem (Str)
section
variable (n : Nat)
mutual
def D.sh : D → D
  | .tup ds => .tup (D.shs ds)
  | .ref m => .ref (n + m)
  | .non => .non
  | .bl b => .bl b
  | .int i => .int i
  | .str x => .str x
termination_by structural x => x
def D.shs : List D → List D
  | [] => []
  | d :: r => D.sh d :: D.shs r
termination_by structural x => x
end
def shK (kvs : List (D × D)) : List (D × D) := kvs.map fun p => (p.1.sh n, p.2.sh n)
def shB : HB → HB
  | .lst ds => .lst (D.shs n ds)
  | .rol ds => .rol (D.shs n ds)
  | .dic kvs => .dic (shK n kvs)
  | .frz kvs => .frz (shK n kvs)
  | .set ds => .set (D.shs n ds)
  | .ins C fs => .ins C (fs.map fun p => (p.1, p.2.sh n))
def shS (σ : St) : St := σ.map (Option.map (D.sh n))
end
theorem shs_map (n : Nat) : ∀ ds, D.shs n ds = ds.map (D.sh n)
  | [] => rfl
  | d :: r => by rw [D.shs, shs_map n r]; rfl
section
variable (h0 : HI)
def shH (h : HI) : HI := h0 ++ h.map (shB h0.length)
abbrev sD (d : D) : D := d.sh h0.length
abbrev sDs (d : List D) : List D := D.shs h0.length d
def shR (r : D × HI) : D × HI := (sD h0 r.1, shH h0 r.2)
end
variable {h0 : HI}
theorem shH_len (h : HI) : (shH h0 h).length = h0.length + h.length := by simp [shH]
theorem shH_get (h : HI) (m : Nat) : (shH h0 h)[h0.length + m]? = (h[m]?).map (shB h0.length) := by
  unfold shH
  rw [List.getElem?_append_right (Nat.le_add_right _ _), Nat.add_sub_cancel_left, List.getElem?_map]
theorem shH_set (h : HI) (m : Nat) (o : HB) : (shH h0 h).set (h0.length + m) (shB h0.length o) = shH h0 (h.set m o) := by
  unfold shH
  rw [List.set_append_right _ _ (Nat.le_add_right _ _), Nat.add_sub_cancel_left, List.map_set]
theorem shH_app (h : HI) (o : HB) : shH h0 h ++ [shB h0.length o] = shH h0 (h ++ [o]) := by
  unfold shH
  rw [List.map_append, List.append_assoc]
  rfl
theorem shs_len (n : Nat) (ds : List D) : (D.shs n ds).length = ds.length := by rw [shs_map, List.length_map]
theorem shs_app (n : Nat) (a b : List D) : D.shs n (a ++ b) = D.shs n a ++ D.shs n b := by rw [shs_map, shs_map, shs_map, List.map_append]
theorem shs_get (n : Nat) (ds : List D) (i : Nat) : (D.shs n ds)[i]? = (ds[i]?).map (D.sh n) := by rw [shs_map, List.getElem?_map]
theorem sh_new (h : HI) (o : HB) : hnew (shH h0 h) (shB h0.length o) = (hnew h o).map (shR h0) := by
  simp only [hnew, Option.map_some, shR, shH_app, shH_len, sD, D.sh]
mutual
theorem sh_eqv (n : Nat) : ∀ x y : D, D.eqv (x.sh n) (y.sh n) = D.eqv x y
  | .non, y => by cases y <;> rfl
  | .bl a, y => by cases y <;> rfl
  | .int a, y => by cases y <;> rfl
  | .str a, y => by cases y <;> rfl
  | .ref a, y => by cases y <;> rfl
  | .tup a, y => by
    cases y with
    | tup b => exact sh_eqvs n a b
    | _ => rfl
theorem sh_eqvs (n : Nat) : ∀ x y : List D, D.eqvs (D.shs n x) (D.shs n y) = D.eqvs x y
  | [], y => by cases y <;> rfl
  | a :: r, y => by
    cases y with
    | nil => rfl
    | cons b s =>
      simp only [D.shs, D.eqvs]
      rw [sh_eqv n a b, sh_eqvs n r s]
end
mutual
theorem sh_flat (n : Nat) : ∀ (k : Nat) (x : D), D.flat k (x.sh n) = D.flat k x
  | k, .ref m => by cases k <;> rfl
  | 0, .tup ds => rfl
  | k + 1, .tup ds => sh_flats n k ds
  | 0, .non => rfl
  | 0, .bl _ => rfl
  | 0, .int _ => rfl
  | 0, .str _ => rfl
  | _ + 1, .non => rfl
  | _ + 1, .bl _ => rfl
  | _ + 1, .int _ => rfl
  | _ + 1, .str _ => rfl
theorem sh_flats (n : Nat) : ∀ (k : Nat) (x : List D), D.flats k (D.shs n x) = D.flats k x
  | k, [] => by cases k <;> rfl
  | k, d :: r => by
    simp only [D.shs, D.flats]
    rw [sh_flat n k d, sh_flats n k r]
end
theorem sh_key (n : Nat) (d : D) : (d.sh n).key = d.key := by cases d <;> rfl
theorem sh_find (n : Nat) (kvs : List (D × D)) (k : D) : kFind (shK n kvs) (k.sh n) = (kFind kvs k).map (D.sh n) := by
  unfold kFind shK
  rw [List.find?_map, Option.map_map, Option.map_map]
  congr 1
  · congr 1
    funext p
    exact sh_eqv n p.1 k
theorem sh_put (n : Nat) (kvs : List (D × D)) (k v : D) : kPut (shK n kvs) (k.sh n) (v.sh n) = shK n (kPut kvs k v) := by
  unfold kPut
  have e : ((shK n kvs).any fun p => D.eqv p.1 (k.sh n)) = kvs.any fun p => D.eqv p.1 k := by
    unfold shK
    rw [List.any_map]
    congr 1
    funext p
    exact sh_eqv n p.1 k
  rw [e]
  split
  · unfold shK
    rw [List.map_map, List.map_map]
    refine List.map_congr_left fun p _ => ?_
    show (if D.eqv (p.1.sh n) (k.sh n) = true then (p.1.sh n, v.sh n) else (p.1.sh n, p.2.sh n)) = _
    rw [sh_eqv]
    simp only [Function.comp]
    split <;> rfl
  · unfold shK
    rw [List.map_append]
    rfl
theorem sh_bin (op : BOp) (x y : D) (h : HI) : binD op (sD h0 x) (sD h0 y) (shH h0 h) = (binD op x y h).map (shR h0) := by
  cases x <;> cases y <;> simp only [sD, D.sh, binD, Option.map_none]
  · cases intOp op _ _ <;> rfl
  · split <;> rfl
  · simp only [shs_len, ← shs_app]
    split <;> rfl
  · rename_i a b
    rw [shH_get, shH_get]
    cases ha : h[a]? with
    | none => rfl
    | some oa =>
      cases hb : h[b]? with
      | none => cases oa <;> rfl
      | some ob =>
        cases oa <;> cases ob <;> simp only [Option.map_some, shB, Option.map_none]
        simp only [shs_len, ← shs_app]
        split
        · exact sh_new h (.lst _)
        · rfl
theorem sh_isNon (x : D) : isNon (sD h0 x) = isNon x := by cases x <;> rfl
theorem sh_anyEq (x : D) (ds : List D) : anyEq (sD h0 x) (sDs h0 ds) = anyEq x ds := by
  unfold anyEq
  rw [sDs, shs_map, List.any_map]
  congr 1
  funext y
  exact sh_eqv _ y x
theorem sh_in (x y : D) (h : HI) : inD (sD h0 x) (sD h0 y) (shH h0 h) = inD x y h := by
  cases y <;> simp only [sD, D.sh, inD]
  · rw [sh_flat, sh_flats]
    split
    · exact congrArg some (sh_anyEq x _)
    · rfl
  · rename_i m
    rw [shH_get]
    cases hm : h[m]? with
    | none => rfl
    | some o =>
      cases o <;> simp only [Option.map_some, shB]
      · rw [sh_flat, sh_flats]
        split
        · exact congrArg some (sh_anyEq x _)
        · rfl
      · rw [sh_flat, sh_flats]
        split
        · exact congrArg some (sh_anyEq x _)
        · rfl
      · rw [sh_key, sh_find, Option.isSome_map]
theorem sh_cmp (op : COp) (x y : D) (h : HI) : cmpB op (sD h0 x) (sD h0 y) (shH h0 h) = cmpB op x y h := by
  cases op with
  | eq => simp only [cmpB, sD, sh_flat, sh_eqv]
  | ne => simp only [cmpB, sD, sh_flat, sh_eqv]
  | isN =>
    have e1 := sh_isNon (h0 := h0) x
    have e2 := sh_isNon (h0 := h0) y
    simp only [cmpB, e1, e2]
  | notN =>
    have e1 := sh_isNon (h0 := h0) x
    have e2 := sh_isNon (h0 := h0) y
    simp only [cmpB, e1, e2]
  | inn => exact sh_in x y h
  | nin => exact congrArg (Option.map (!·)) (sh_in x y h)
  | _ => cases x <;> cases y <;> rfl
theorem shs_emp (n : Nat) (ds : List D) : (D.shs n ds).isEmpty = ds.isEmpty := by cases ds <;> rfl
theorem shK_emp (n : Nat) (ds : List (D × D)) : (shK n ds).isEmpty = ds.isEmpty := by cases ds <;> rfl
theorem shK_len (n : Nat) (ds : List (D × D)) : (shK n ds).length = ds.length := by simp [shK]
theorem sh_truth (x : D) (h : HI) : truth (sD h0 x) (shH h0 h) = truth x h := by
  cases x <;> simp only [sD, D.sh, truth]
  · rw [shs_emp]
  · rename_i m
    rw [shH_get]
    cases hm : h[m]? with
    | none => rfl
    | some o => cases o <;> simp only [Option.map_some, shB, shs_emp, shK_emp]
theorem sh_lst (x : D) (h : HI) : lstOf (shH h0 h) (sD h0 x) = (lstOf h x).map (D.shs h0.length) := by
  cases x <;> simp only [sD, D.sh, lstOf, Option.map_none]
  rename_i m
  rw [shH_get]
  cases hm : h[m]? with
  | none => rfl
  | some o => cases o <;> simp only [Option.map_some, shB, Option.map_none]
theorem sh_at (n : Nat) (ds : List D) (i : Int) : atD (D.shs n ds) i = (atD ds i).map (D.sh n) := by
  unfold atD
  rw [shs_len]
  cases ixAt ds.length i with
  | none => rfl
  | some j => exact shs_get n ds j
theorem sh_idx (x i : D) (h : HI) : idxD (sD h0 x) (sD h0 i) (shH h0 h) = (idxD x i h).map (shR h0) := by
  cases x with
  | tup ds =>
    cases i <;> simp only [sD, D.sh, idxD, Option.map_none]
    rw [sh_at]
    cases atD ds _ <;> rfl
  | str z =>
    cases i <;> simp only [sD, D.sh, idxD, Option.map_none]
    split
    · cases (ixAt z.cps.size _).bind fun j => z.cps[j]? <;> rfl
    · rfl
  | ref m =>
    simp only [sD, D.sh, idxD]
    rw [shH_get]
    cases hm : h[m]? with
    | none => cases i <;> rfl
    | some o =>
      cases o with
      | lst ds =>
        cases i <;> simp only [Option.map_some, shB, D.sh, Option.map_none]
        rw [sh_at]
        cases atD ds _ <;> rfl
      | rol ds =>
        cases i <;> simp only [Option.map_some, shB, D.sh, Option.map_none]
        rw [sh_at]
        cases atD ds _ <;> rfl
      | dic kvs =>
        have e : ∀ i : D, (if (i.sh h0.length).key = true then (kFind (shK h0.length kvs) (i.sh h0.length)).map fun d => (d, shH h0 h) else none) = (if i.key = true then (kFind kvs i).map fun d => (d, h) else none).map (shR h0) := fun i => by
          rw [sh_key, sh_find]
          split
          · cases kFind kvs i <;> rfl
          · rfl
        cases i <;> exact e _
      | _ => cases i <;> rfl
  | _ => cases i <;> rfl
theorem sh_cut (n : Nat) (ds : List D) (lo hi : Option Int) : cut (D.shs n ds) lo hi = D.shs n (cut ds lo hi) := by
  unfold cut
  rw [shs_len, shs_map, shs_map, List.map_take, List.map_drop]
theorem sh_slc (x : D) (lo hi : Option Int) (h : HI) : slcD (sD h0 x) lo hi (shH h0 h) = (slcD x lo hi h).map (shR h0) := by
  cases x with
  | tup ds =>
    simp only [sD, D.sh, slcD, sh_cut]
    rfl
  | str z =>
    simp only [sD, D.sh, slcD]
    split <;> rfl
  | ref m =>
    simp only [sD, D.sh, slcD]
    rw [shH_get]
    cases hm : h[m]? with
    | none => rfl
    | some o =>
      cases o <;> simp only [Option.map_some, shB, Option.map_none, sh_cut]
      · exact sh_new h (.lst _)
      · exact sh_new h (.lst _)
  | _ => rfl
theorem shs_set (n : Nat) (ds : List D) (j : Nat) (v : D) : (D.shs n ds).set j (v.sh n) = D.shs n (ds.set j v) := by rw [shs_map, shs_map, List.map_set]
theorem sh_setIx (x i v : D) (h : HI) : setIx (sD h0 x) (sD h0 i) (sD h0 v) (shH h0 h) = (setIx x i v h).map (shH h0) := by
  cases x with
  | ref m =>
    simp only [sD, D.sh, setIx]
    rw [shH_get]
    cases hm : h[m]? with
    | none => cases i <;> rfl
    | some o =>
      cases o with
      | lst ds =>
        cases i <;> simp only [Option.map_some, shB, D.sh, Option.map_none]
        rw [shs_len]
        cases ixAt ds.length _ with
        | none => rfl
        | some j =>
          simp only [Option.map_some, shs_set]
          exact congrArg some (shH_set h m (.lst _))
      | dic kvs =>
        have e : ∀ i : D, (if ((i.sh h0.length).key && decide ((shK h0.length kvs).length < big)) = true then some ((shH h0 h).set (h0.length + m) (.dic (kPut (shK h0.length kvs) (i.sh h0.length) (v.sh h0.length)))) else none) = (if (i.key && decide (kvs.length < big)) = true then some (h.set m (.dic (kPut kvs i v))) else none).map (shH h0) := fun i => by
          rw [sh_key, shK_len, sh_put]
          split
          · exact congrArg some (shH_set h m (.dic _))
          · rfl
        cases i <;> exact e _
      | _ => cases i <;> rfl
  | _ => cases i <;> rfl
theorem sh_strs (n : Nat) : ∀ ds, strsOf (D.shs n ds) = strsOf ds
  | [] => rfl
  | d :: r => by
    cases d <;> simp only [D.shs, D.sh, strsOf]
    rw [sh_strs n r]
theorem sh_ints (n : Nat) : ∀ ds, intsD (D.shs n ds) = intsD ds
  | [] => rfl
  | d :: r => by
    cases d <;> simp only [D.shs, D.sh, intsD]
    rw [sh_ints n r]
theorem sh_tups (n : Nat) : ∀ ds, tupsD (D.shs n ds) = tupsD ds
  | [] => rfl
  | d :: r => by
    cases d <;> simp only [D.shs, D.sh, tupsD]
    rw [sh_ints, sh_tups n r]
theorem shs_strs (n : Nat) (l : List Str) : D.shs n (l.map .str) = l.map .str := by
  rw [shs_map, List.map_map]
  rfl
theorem shs_ints (n : Nat) (l : List Int) : D.shs n (l.map .int) = l.map .int := by
  rw [shs_map, List.map_map]
  rfl
theorem shs_tups (n : Nat) (l : List (List Int)) : D.shs n (l.map tupI) = l.map tupI := by
  rw [shs_map, List.map_map]
  refine List.map_congr_left fun x _ => ?_
  show D.tup (D.shs n (x.map .int)) = _
  rw [shs_ints]
  rfl
theorem sh_new' (h : HI) {ds ds' : List D} (e : D.shs h0.length ds = ds') : hnew (shH h0 h) (.lst ds') = (hnew h (.lst ds)).map (shR h0) := by
  rw [← e]
  exact sh_new h (.lst ds)
theorem sh_hasTy (t : Ty) (x : D) (h : HI) : hasTy t (sD h0 x) (shH h0 h) = hasTy t x h := by
  cases x <;> simp only [sD, D.sh, hasTy]
  rename_i m
  rw [shH_get]
  cases hm : h[m]? with
  | none => rfl
  | some o => cases o <;> simp only [Option.map_some, shB]
theorem shK_keys (n : Nat) (kvs : List (D × D)) : (shK n kvs).map (·.1) = D.shs n (kvs.map (·.1)) := by
  rw [shs_map, List.map_map]
  unfold shK
  rw [List.map_map]
  rfl
theorem sh_signs (n : Nat) (z : Str) : D.shs n (signs z) = signs z := by
  rw [shs_map]
  unfold signs
  rw [List.map_map]
  rfl
theorem sh_srt (ds : List D) (h : HI) : ((strsOf (D.shs h0.length ds)).bind fun l => if l.length < 64 then hnew (shH h0 h) (.lst ((srtS l).map .str)) else none) = ((strsOf ds).bind fun l => if l.length < 64 then hnew h (.lst ((srtS l).map .str)) else none).map (shR h0) := by
  rw [sh_strs]
  cases strsOf ds with
  | none => rfl
  | some l =>
    simp only [Option.bind_some]
    split
    · exact sh_new' h (shs_strs _ _)
    · rfl
theorem sh_blt (b : Blt) (args : List D) (h : HI) : bltD b (sDs h0 args) (shH h0 h) = (bltD b args h).map (shR h0) := by
  match args with
  | [] => cases b <;> rfl
  | x :: y :: r => cases b <;> cases x <;> rfl
  | [x] =>
    cases b with
    | isi t =>
      show (hasTy t (sD h0 x) (shH h0 h)).map _ = ((hasTy t x h).map _).map _
      rw [sh_hasTy]
      cases hasTy t x h <;> rfl
    | len =>
      cases x <;> simp only [sDs, D.shs, D.sh, bltD, Option.map_none]
      · split <;> rfl
      · rw [shs_len]; rfl
      · rename_i m
        rw [shH_get]
        cases hm : h[m]? with
        | none => rfl
        | some o => cases o <;> simp only [Option.map_some, shB, Option.map_none, shs_len, shK_len] <;> rfl
    | int => cases x <;> rfl
    | str =>
      cases x <;> simp only [sDs, D.shs, D.sh, bltD, Option.map_none]
      split <;> rfl
    | list =>
      cases x <;> simp only [sDs, D.shs, D.sh, bltD, Option.map_none]
      · split
        · exact sh_new' h (sh_signs _ _)
        · rfl
      · exact sh_new h (.lst _)
      · rename_i m
        rw [shH_get]
        cases hm : h[m]? with
        | none => rfl
        | some o =>
          cases o <;> simp only [Option.map_some, shB, Option.map_none]
          · exact sh_new h (.lst _)
          · exact sh_new h (.lst _)
    | tuple =>
      cases x <;> simp only [sDs, D.shs, D.sh, bltD, Option.map_none]
      · rfl
      · rename_i m
        rw [shH_get]
        cases hm : h[m]? with
        | none => rfl
        | some o => cases o <;> simp only [Option.map_some, shB, Option.map_none] <;> rfl
    | dict =>
      cases x <;> simp only [sDs, D.shs, D.sh, bltD, Option.map_none]
      rename_i m
      rw [shH_get]
      cases hm : h[m]? with
      | none => rfl
      | some o =>
        cases o <;> simp only [Option.map_some, shB, Option.map_none]
        exact sh_new h (.dic _)
    | srt =>
      cases x <;> simp only [sDs, D.shs, D.sh, bltD, Option.map_none]
      rename_i m
      rw [shH_get]
      cases hm : h[m]? with
      | none => rfl
      | some o =>
        cases o with
        | lst ds =>
          match ds with
          | [] => exact sh_srt [] h
          | .tup [] :: ds =>
            simp only [Option.map_some, shB, D.shs, D.sh]
            rw [sh_tups]
            cases tupsD ds with
            | none => rfl
            | some l =>
              simp only [Option.bind_some]
              split
              · exact sh_new' h (shs_tups _ _)
              · rfl
          | .tup (a :: r) :: ds => exact sh_srt (.tup (a :: r) :: ds) h
          | .non :: ds => exact sh_srt (.non :: ds) h
          | .bl b :: ds => exact sh_srt (.bl b :: ds) h
          | .int b :: ds => exact sh_srt (.int b :: ds) h
          | .str b :: ds => exact sh_srt (.str b :: ds) h
          | .ref b :: ds => exact sh_srt (.ref b :: ds) h
        | rol ds => exact sh_srt ds h
        | dic kvs =>
          simp only [Option.map_some, shB, shK_keys]
          exact sh_srt (kvs.map (·.1)) h
        | _ => rfl
theorem sh_sst (d : D) (h : HI) : sstD (sD h0 d) (shH h0 h) = (sstD d h).map (shR h0) := by
  unfold sstD
  rw [sh_lst]
  cases lstOf h d with
  | none => rfl
  | some ds =>
    simp only [Option.map_some, Option.bind_some]
    rw [sh_strs]
    cases strsOf ds with
    | none => rfl
    | some l =>
      simp only [Option.bind_some]
      split
      · exact sh_new' h (shs_strs _ _)
      · rfl
theorem sh_ssc (d : D) (h : HI) : sscD (sD h0 d) (shH h0 h) = (sscD d h).map (shR h0) := by
  cases d <;> simp only [sD, D.sh, sscD, Option.map_none]
  rw [sh_strs]
  cases strsOf _ with
  | none => rfl
  | some l =>
    simp only [Option.bind_some]
    split
    · exact sh_new' h (shs_strs _ _)
    · rfl
theorem sh_rev (d : D) (h : HI) : revD (sD h0 d) (shH h0 h) = (revD d h).map (shR h0) := by
  unfold revD
  rw [sh_lst]
  cases lstOf h d with
  | none => rfl
  | some ds =>
    simp only [Option.map_some, Option.bind_some]
    refine sh_new' h ?_
    rw [shs_map, shs_map, List.map_reverse]
def noRef (d : D) : Bool := D.flat deep d
theorem flat_sh (n : Nat) : ∀ (k : Nat) (d : D), D.flat k d = true → d.sh n = d
  | k, .ref m, h => by cases k <;> simp [D.flat] at h
  | 0, .tup ds, h => by simp [D.flat] at h
  | k + 1, .tup ds, h => by
    have : ∀ (ds : List D), D.flats k ds = true → D.shs n ds = ds := by
      intro ds
      induction ds with
      | nil => intro _; rfl
      | cons d r ih =>
        intro h
        simp only [D.flats, Bool.and_eq_true] at h
        rw [D.shs, flat_sh n k d h.1, ih h.2]
    show D.tup (D.shs n ds) = _
    rw [this ds h]
  | 0, .non, _ => rfl
  | 0, .bl _, _ => rfl
  | 0, .int _, _ => rfl
  | 0, .str _, _ => rfl
  | _ + 1, .non, _ => rfl
  | _ + 1, .bl _, _ => rfl
  | _ + 1, .int _, _ => rfl
  | _ + 1, .str _, _ => rfl
theorem noRef_sh {n : Nat} {d : D} (h : noRef d = true) : d.sh n = d := flat_sh n deep d h
def noRefK (kvs : List (D × D)) : Bool := kvs.all fun p => noRef p.2
theorem noRefK_find {n : Nat} {kvs : List (D × D)} (h : noRefK kvs = true) {k d : D} (e : kFind kvs k = some d) : d.sh n = d := by
  unfold kFind at e
  obtain ⟨p, hp, rfl⟩ := Option.map_eq_some_iff.mp e
  exact noRef_sh (List.all_eq_true.mp h p (List.mem_of_find?_eq_some hp))
theorem sh_gix {kvs : List (D × D)} (hk : noRefK kvs = true) (d : D) (h : HI) : gixD kvs (sD h0 d) (shH h0 h) = (gixD kvs d h).map (shR h0) := by
  cases d <;> simp only [sD, D.sh, gixD, Option.map_none]
  rename_i i
  cases e : kFind kvs (.int i) with
  | none => rfl
  | some x =>
    simp only [Option.map_some, shR, sD, noRefK_find hk e]
theorem sh_gin (neg : Bool) (kvs : List (D × D)) (d : D) (h : HI) : ginD neg kvs (sD h0 d) (shH h0 h) = (ginD neg kvs d h).map (shR h0) := by
  cases d <;> rfl
theorem sh_recv (m : Mth) (d : D) (h : HI) : recv m (sD h0 d) (shH h0 h) = recv m d h := by
  cases d with
  | ref n =>
    cases m <;>
    · simp only [sD, D.sh, recv]
      rw [shH_get]
      cases hm : h[n]? with
      | none => rfl
      | some o => cases o <;> rfl
  | _ => cases m <;> rfl
theorem sh_mth (m : Mth) (o : D) (args : List D) (h : HI) : mthD m (sD h0 o) (sDs h0 args) (shH h0 h) = (mthD m o args h).map (shR h0) := by
  cases o with
  | ref n =>
    cases m with
    | append =>
      match args with
      | [d] =>
        simp only [sD, D.sh, sDs, D.shs, mthD]
        rw [shH_get]
        cases hm : h[n]? with
        | none => rfl
        | some o =>
          cases o with
          | lst ds =>
            simp only [Option.map_some, shB, shs_len]
            split
            · have : D.shs h0.length ds ++ [d.sh h0.length] = D.shs h0.length (ds ++ [d]) := by rw [shs_app]; rfl
              rw [this]
              exact congrArg (fun x => some (D.non, x)) (shH_set h n (.lst _))
            · rfl
          | _ => rfl
      | [] => rfl
      | _ :: _ :: _ => rfl
    | extend =>
      match args with
      | [.ref m] =>
        simp only [sD, D.sh, sDs, D.shs, mthD]
        rw [shH_get, shH_get]
        cases ha : h[n]? with
        | none => rfl
        | some oa =>
          cases hb : h[m]? with
          | none => cases oa <;> rfl
          | some ob =>
            cases oa <;> cases ob <;> simp only [Option.map_some, shB, Option.map_none]
            simp only [shs_len, ← shs_app]
            split
            · exact congrArg (fun x => some (D.non, x)) (shH_set h n (.lst _))
            · rfl
      | [.tup _] => rfl
      | [.non] => rfl
      | [.bl _] => rfl
      | [.int _] => rfl
      | [.str _] => rfl
      | [] => rfl
      | x :: _ :: _ => cases x <;> rfl
    | pop =>
      match args with
      | [] =>
        simp only [sD, D.sh, sDs, D.shs, mthD]
        rw [shH_get]
        cases hm : h[n]? with
        | none => rfl
        | some o =>
          cases o with
          | lst ds =>
            simp only [Option.map_some, shB]
            have e1 : (D.shs h0.length ds).getLast? = (ds.getLast?).map (D.sh h0.length) := by rw [shs_map, List.getLast?_map]
            have e2 : (D.shs h0.length ds).dropLast = D.shs h0.length ds.dropLast := by rw [shs_map, shs_map, List.map_dropLast]
            rw [e1, e2]
            cases hl : ds.getLast? with
            | none => rfl
            | some d => exact congrArg (fun x => some (d.sh h0.length, x)) (shH_set h n (.lst _))
          | _ => rfl
      | x :: r => cases x <;> rfl
    | get =>
      match args with
      | [] => rfl
      | [k] =>
        simp only [sD, D.sh, sDs, D.shs, mthD]
        rw [shH_get]
        cases hm : h[n]? with
        | none => rfl
        | some o =>
          cases o with
          | dic kvs =>
            simp only [Option.map_some, shB, sh_key, sh_find]
            split
            · cases kFind kvs k <;> rfl
            · rfl
          | _ => rfl
      | [k, d] =>
        simp only [sD, D.sh, sDs, D.shs, mthD]
        rw [shH_get]
        cases hm : h[n]? with
        | none => rfl
        | some o =>
          cases o with
          | dic kvs =>
            simp only [Option.map_some, shB, sh_key, sh_find]
            split
            · cases kFind kvs k <;> rfl
            · rfl
          | _ => rfl
      | _ :: _ :: _ :: _ => rfl
  | _ => cases m <;> (match args with | [] => rfl | [x] => cases x <;> rfl | [x, y] => cases x <;> rfl | x :: _ :: _ :: _ => cases x <;> rfl)
def It.sh (n : Nat) : It → It
  | .seq ds => .seq (D.shs n ds)
  | .live m k => .live (n + m) k
  | .zip a b => .zip (It.sh n a) (It.sh n b)
  | .enm a => .enm (It.sh n a)
theorem sh_len (n : Nat) : ∀ t : It, (It.sh n t).len = t.len
  | .seq ds => shs_len n ds
  | .live _ _ => rfl
  | .zip a b => by simp only [It.sh, It.len, sh_len n a, sh_len n b]
  | .enm a => sh_len n a
theorem sh_nx (h : HI) (i : Nat) : ∀ t : It, (It.sh h0.length t).nx i (shH h0 h) = (t.nx i h).map (D.sh h0.length)
  | .seq ds => shs_get _ ds i
  | .live m k => by
    have e := sh_lst (h0 := h0) (.ref m) h
    simp only [It.sh, It.nx]
    show ((lstOf (shH h0 h) (sD h0 (.ref m))).bind _) = _
    rw [e]
    cases lstOf h (.ref m) with
    | none => rfl
    | some ds => exact shs_get _ ds i
  | .zip a b => by
    simp only [It.sh, It.nx, sh_nx h i a, sh_nx h i b]
    cases a.nx i h with
    | none => rfl
    | some x => cases b.nx i h <;> rfl
  | .enm a => by
    simp only [It.sh, It.nx, sh_nx h i a]
    cases a.nx i h <;> rfl
theorem sh_fin (h : HI) : ∀ t : It, (It.sh h0.length t).fin (shH h0 h) = t.fin h
  | .seq ds => rfl
  | .live m k => by
    have e := sh_lst (h0 := h0) (.ref m) h
    simp only [It.sh, It.fin]
    show (match lstOf (shH h0 h) (sD h0 (.ref m)) with | some ds => decide (ds.length ≤ k) | none => false) = _
    rw [e]
    cases lstOf h (.ref m) with
    | none => rfl
    | some ds => simp only [Option.map_some, shs_len]
  | .zip a b => by simp only [It.sh, It.fin, sh_fin h a, sh_fin h b]
  | .enm a => sh_fin h a
def shI (h0 : HI) (r : It × HI) : It × HI := (It.sh h0.length r.1, shH h0 r.2)
theorem sh_itOf (d : D) (h : HI) : itOf (sD h0 d) (shH h0 h) = (itOf d h).map (It.sh h0.length) := by
  cases d with
  | tup ds => rfl
  | str z =>
    simp only [sD, D.sh, itOf]
    split
    · exact congrArg (fun x => some (It.seq x)) (sh_signs _ z).symm
    · rfl
  | ref m =>
    have e := sh_lst (h0 := h0) (.ref m) h
    simp only [sD, D.sh, itOf] at e ⊢
    rw [e]
    cases lstOf h (.ref m) with
    | none => rfl
    | some ds => simp only [Option.map_some, It.sh, shs_len]
  | _ => rfl
theorem sh_zipOf (d e : D) (h : HI) : zipOf (sD h0 d) (sD h0 e) (shH h0 h) = (zipOf d e h).map (It.sh h0.length) := by
  cases d <;> cases e <;> simp only [sD, D.sh, zipOf, Option.map_none]
  · rfl
  · rename_i m n
    have e1 := sh_lst (h0 := h0) (.ref m) h
    have e2 := sh_lst (h0 := h0) (.ref n) h
    simp only [sD, D.sh] at e1 e2
    rw [e1, e2]
    cases lstOf h (.ref m) with
    | none => rfl
    | some ds =>
      cases lstOf h (.ref n) with
      | none => rfl
      | some es => simp only [Option.map_some, It.sh, shs_len]
theorem sh_enmOf (d : D) (h : HI) : enmOf (sD h0 d) (shH h0 h) = (enmOf d h).map (It.sh h0.length) := by
  cases d <;> simp only [sD, D.sh, enmOf, Option.map_none]
  rename_i m
  have e1 := sh_lst (h0 := h0) (.ref m) h
  simp only [sD, D.sh] at e1
  rw [e1]
  cases lstOf h (.ref m) with
  | none => rfl
  | some ds => simp only [Option.map_some, It.sh, shs_len]
theorem sh_keysOf (d : D) (h : HI) : keysOf (sD h0 d) (shH h0 h) = (keysOf d h).map (It.sh h0.length) := by
  cases d <;> simp only [sD, D.sh, keysOf, Option.map_none]
  rename_i m
  rw [shH_get]
  cases hm : h[m]? with
  | none => rfl
  | some o => cases o <;> simp only [Option.map_some, shB, Option.map_none, shK_keys, It.sh]
theorem sh_rngIt (ds : List D) : rngIt (sDs h0 ds) = (rngIt ds).map (It.sh h0.length) := by
  match ds with
  | [.int j] =>
    simp only [sDs, D.shs, D.sh, rngIt]
    split
    · simp only [Option.map_some, It.sh, shs_map, List.map_map]
      rfl
    · rfl
  | [.int i, .int j] =>
    simp only [sDs, D.shs, D.sh, rngIt]
    split
    · simp only [Option.map_some, It.sh, shs_map, List.map_map]
      rfl
    · rfl
  | [] => rfl
  | [.non] => rfl
  | [.bl _] => rfl
  | [.str _] => rfl
  | [.tup _] => rfl
  | [.ref _] => rfl
  | [.int _, .non] => rfl
  | [.int _, .bl _] => rfl
  | [.int _, .str _] => rfl
  | [.int _, .tup _] => rfl
  | [.int _, .ref _] => rfl
  | .non :: _ :: _ => rfl
  | .bl _ :: _ :: _ => rfl
  | .str _ :: _ :: _ => rfl
  | .tup _ :: _ :: _ => rfl
  | .ref _ :: _ :: _ => rfl
  | .int _ :: x :: _ :: _ => cases x <;> rfl
def shSum {α β : Type} (f : α → α) (g : β → β) : α ⊕ β → α ⊕ β
  | .inl a => .inl (f a)
  | .inr b => .inr (g b)
theorem sh_loop {α β : Type} {f : α → α} {g : β → β} {nx nx' : Nat → HI → Option D} {fin fin' : HI → Bool} {body body' : D → α → HI → Option ((α ⊕ β) × HI)} (hn : ∀ i h, nx' i (shH h0 h) = (nx i h).map (D.sh h0.length)) (hf : ∀ h, fin' (shH h0 h) = fin h)
    (hb : ∀ d a h, body' (sD h0 d) (f a) (shH h0 h) = (body d a h).map fun r => (shSum f g r.1, shH h0 r.2)) :
    ∀ (r i : Nat) (a : α) (h : HI), loopN nx' fin' body' r i (f a) (shH h0 h) = (loopN nx fin body r i a h).map fun r => (shSum f g r.1, shH h0 r.2)
  | 0, i, a, h => by
    simp only [loopN, hf]
    split <;> rfl
  | r + 1, i, a, h => by
    simp only [loopN, hn]
    cases nx i h with
    | none => rfl
    | some d =>
      simp only [Option.map_some]
      have e := hb d a h
      simp only [sD] at e
      rw [e]
      cases body d a h with
      | none => rfl
      | some x =>
        obtain ⟨x1, h1⟩ := x
        cases x1 with
        | inl a' => exact sh_loop hn hf hb r (i + 1) a' h1
        | inr b => rfl
section
variable (n : Nat)
mutual
theorem sh_bind1 : ∀ (t : Tg) (d : D) (σ : St), bind1 t (d.sh n) (shS n σ) = (bind1 t d σ).map (shS n)
  | .nm i, d, σ => by
    simp only [bind1, shS, List.length_map]
    split
    · simp only [Option.map_some, shS, List.map_set]
    · rfl
  | .tp ts, .tup ds, σ => sh_binds ts ds σ
  | .tp ts, .non, σ => rfl
  | .tp ts, .bl _, σ => rfl
  | .tp ts, .int _, σ => rfl
  | .tp ts, .str _, σ => rfl
  | .tp ts, .ref _, σ => rfl
theorem sh_binds : ∀ (ts : Tgs) (ds : List D) (σ : St), binds ts (D.shs n ds) (shS n σ) = (binds ts ds σ).map (shS n)
  | .nil, [], σ => rfl
  | .nil, _ :: _, σ => rfl
  | .cons t ts, [], σ => rfl
  | .cons t ts, d :: ds, σ => by
    simp only [D.shs, binds]
    rw [sh_bind1 t d σ]
    cases bind1 t d σ with
    | none => rfl
    | some σ' => exact sh_binds ts ds σ'
end
theorem sh_wipe (σ : St) : ∀ vs, wipeD (shS n σ) vs = shS n (wipeD σ vs)
  | [] => rfl
  | v :: vs => by
    show (wipeD (shS n σ) vs).set v none = shS n ((wipeD σ vs).set v none)
    rw [sh_wipe σ vs, shS, shS, List.map_set]
    rfl
def Acc.sh : Acc → Acc
  | .ds l => .ds (D.shs n l)
  | .sum i => .sum i
  | .yes => .yes
end
theorem sh_acc0 (k : CK) (h : HI) : (acc0 k (shH h0 h)).1 = (acc0 k h).1.sh h0.length ∧ (acc0 k (shH h0 h)).2 = shH h0 (acc0 k h).2 := by
  cases k <;> first | exact ⟨rfl, rfl⟩ | exact ⟨rfl, shH_app h (.lst [])⟩ | exact ⟨rfl, shH_app h (.dic [])⟩
theorem sh_compEnd (k : CK) (n : Nat) (a : Acc) : compEnd k (h0.length + n) (a.sh h0.length) = (compEnd k n a).map (D.sh h0.length) := by
  cases k <;> cases a <;> rfl
theorem sh_emit (k : CK) (n : Nat) (d v : D) (a : Acc) (h : HI) : emit k (h0.length + n) (sD h0 d) (sD h0 v) (a.sh h0.length) (shH h0 h) = (emit k n d v a h).map fun r => (shSum (Acc.sh h0.length) (D.sh h0.length) r.1, shH h0 r.2) := by
  cases k with
  | lst =>
    simp only [emit]
    rw [shH_get]
    cases hm : h[n]? with
    | none => rfl
    | some o =>
      cases o with
      | lst ds =>
        simp only [Option.map_some, shB, shs_len]
        split
        · have : D.shs h0.length ds ++ [sD h0 d] = D.shs h0.length (ds ++ [d]) := by rw [shs_app]; rfl
          rw [this]
          exact congrArg (fun x => some (Sum.inl (a.sh h0.length), x)) (shH_set h n (.lst _))
        · rfl
      | _ => rfl
  | dct =>
    simp only [emit]
    rw [shH_get]
    cases hm : h[n]? with
    | none => rfl
    | some o =>
      cases o with
      | dic kvs =>
        simp only [Option.map_some, shB, shK_len, sD, sh_key, sh_put]
        split
        · exact congrArg (fun x => some (Sum.inl (a.sh h0.length), x)) (shH_set h n (.dic _))
        · rfl
      | _ => rfl
  | gtup =>
    cases a with
    | ds l =>
      simp only [Acc.sh, emit, shs_len]
      split
      · have : D.shs h0.length l ++ [sD h0 d] = D.shs h0.length (l ++ [d]) := by rw [shs_app]; rfl
        rw [this]
        rfl
      · rfl
    | _ => rfl
  | sset =>
    cases a with
    | ds l =>
      cases d <;> simp only [sD, D.sh, Acc.sh, emit, shs_len, Option.map_none]
      split
      · have : ∀ x : Str, D.shs h0.length l ++ [D.str x] = D.shs h0.length (l ++ [.str x]) := fun x => by rw [shs_app]; rfl
        rw [this]
        rfl
      · rfl
    | _ => cases d <;> rfl
  | gsum =>
    cases a with
    | sum i =>
      cases d <;> simp only [sD, D.sh, Acc.sh, emit, Option.map_none]
      split <;> rfl
    | _ => cases d <;> rfl
  | gall =>
    cases d with
    | bl b => cases b <;> rfl
    | _ => rfl
  | gany =>
    cases d with
    | bl b => cases b <;> rfl
    | _ => rfl
theorem sh_part (b : Bool) (d : D) : partOf b (sD h0 d) = partOf b d := by cases b <;> cases d <;> rfl
theorem sh_lckD (d : Option D) (h : HI) : lckD (d.map (D.sh h0.length)) (shH h0 h) = (lckD d h).map fun q => (h0.length + q.1, shK h0.length q.2) := by
  cases d with
  | none => rfl
  | some d =>
    cases d <;> simp only [Option.map_some, D.sh, lckD, Option.map_none]
    rename_i m
    rw [shH_get]
    cases hm : h[m]? with
    | none => rfl
    | some o => cases o <;> rfl
theorem sh_unlD (n : Nat) (h : HI) : unlD (h0.length + n) (shH h0 h) = (unlD n h).map (shH h0) := by
  unfold unlD
  rw [shH_get]
  cases hm : h[n]? with
  | none => rfl
  | some o =>
    cases o with
    | frz kvs => exact congrArg some (shH_set h n (.dic _))
    | _ => rfl
mutual
def okE : ME → Bool
  | .cst d => noRef d
  | .glb d => noRef d
  | .tup es => okEs es
  | .lst es => okEs es
  | .bin _ a b => okE a && okE b
  | .neg a => okE a
  | .cmp _ a b => okE a && okE b
  | .and a b => okE a && okE b
  | .or a b => okE a && okE b
  | .not a => okE a
  | .ife c a b => okE c && okE a && okE b
  | .idx a i => okE a && okE i
  | .slc a lo hi => okE a && okE lo && okE hi
  | .call _ es => okEs es
  | .blt _ es => okEs es
  | .isi _ a => okE a
  | .sst a => okE a
  | .lck _ a => okE a
  | .mth _ o es => okE o && okEs es
  | .comp _ _ c => okC c
  | .x m => okX m
  | _ => true
def okX : MX → Bool
  | .chn _ _ a b c => okE a && okE b && okE c
  | .gix kvs a => noRefK kvs && okE a
  | .gin _ _ a => okE a
  | .drg a => okE a
  | .rev a => okE a
  | .dst a k v => okE a && okE k && okE v
  | .ssc _ c => okC c
  | .gn2 _ _ c => okC c
def okEs : MEs → Bool
  | .nil => true
  | .cons e es => okE e && okEs es
def okI : MI → Bool
  | .ex e => okE e
  | .rng es => okEs es
  | .zip a b => okE a && okE b
  | .enm a => okE a
  | .kys a => okE a
def okC : Cl → Bool
  | .one _ i c e v => okI i && okE c && okE e && okE v
  | .more _ i c _ r => okI i && okE c && okC r
end
section
variable {cl : Nat → List D → HI → Rz} (hcl : ∀ f ds h, cl f (sDs h0 ds) (shH h0 h) = (cl f ds h).map (shR h0))
abbrev shRs (h0 : HI) (r : List D × HI) : List D × HI := (sDs h0 r.1, shH h0 r.2)
theorem b_sh {α α' β β' : Type} {o : Option α} {o' : Option α'} {u : α → α'} {w : β → β'} {k : α → Option β} {k' : α' → Option β'} (h1 : o' = o.map u) (h2 : ∀ a, k' (u a) = (k a).map w) : o'.bind k' = (o.bind k).map w := by
  subst h1
  cases o with
  | none => rfl
  | some a => exact h2 a
include hcl
mutual
theorem fr_E : ∀ (m : ME), okE m = true → ∀ (σ : St) (h : HI), evE cl m (shS h0.length σ) (shH h0 h) = (evE cl m σ h).map (shR h0)
  | .var i, _, σ, h => by
    simp only [evE, shS, List.getElem?_map]
    cases σ[i]? with
    | none => rfl
    | some o => cases o <;> rfl
  | .cst d, hk, σ, h => by
    simp only [evE, Option.map_some, shR, sD]
    rw [noRef_sh hk]
  | .glb d, hk, σ, h => by
    simp only [evE, Option.map_some, shR, sD]
    rw [noRef_sh hk]
  | .tup es, hk, σ, h => b_sh (fr_Es es hk σ h) fun r => by
      simp only [shRs, sDs, shs_len]
      split <;> rfl
  | .lst es, hk, σ, h => b_sh (fr_Es es hk σ h) fun r => by
      simp only [shRs, sDs, shs_len]
      split
      · exact sh_new r.2 (.lst r.1)
      · rfl
  | .dnew, _, σ, h => sh_new h (.dic [])
  | .bin op a b, hk, σ, h => by
    have hk := Bool.and_eq_true_iff.mp hk
    exact b_sh (fr_E a hk.1 σ h) fun r => b_sh (fr_E b hk.2 σ r.2) fun q => sh_bin op r.1 q.1 q.2
  | .neg a, hk, σ, h => b_sh (fr_E a hk σ h) fun r => by
      obtain ⟨d, h1⟩ := r
      cases d <;> rfl
  | .cmp op a b, hk, σ, h => by
    have hk := Bool.and_eq_true_iff.mp hk
    exact b_sh (fr_E a hk.1 σ h) fun r => b_sh (fr_E b hk.2 σ r.2) fun q => by
      show (cmpB op (sD h0 r.1) (sD h0 q.1) (shH h0 q.2)).map _ = _
      rw [sh_cmp]
      cases cmpB op r.1 q.1 q.2 <;> rfl
  | .and a b, hk, σ, h => by
    have hk := Bool.and_eq_true_iff.mp hk
    exact b_sh (fr_E a hk.1 σ h) fun r => by
      show (match truth (sD h0 r.1) (shH h0 r.2) with | some true => evE cl b (shS h0.length σ) (shH h0 r.2) | some false => some (shR h0 r) | none => none) = _
      rw [sh_truth]
      cases truth r.1 r.2 with
      | none => rfl
      | some t =>
        cases t with
        | true => exact fr_E b hk.2 σ r.2
        | false => rfl
  | .or a b, hk, σ, h => by
    have hk := Bool.and_eq_true_iff.mp hk
    exact b_sh (fr_E a hk.1 σ h) fun r => by
      show (match truth (sD h0 r.1) (shH h0 r.2) with | some true => some (shR h0 r) | some false => evE cl b (shS h0.length σ) (shH h0 r.2) | none => none) = _
      rw [sh_truth]
      cases truth r.1 r.2 with
      | none => rfl
      | some t =>
        cases t with
        | false => exact fr_E b hk.2 σ r.2
        | true => rfl
  | .not a, hk, σ, h => b_sh (fr_E a hk σ h) fun r => by
      show (truth (sD h0 r.1) (shH h0 r.2)).map _ = _
      rw [sh_truth]
      cases truth r.1 r.2 <;> rfl
  | .ife c a b, hk, σ, h => by
    have hk := Bool.and_eq_true_iff.mp hk
    have hk1 := Bool.and_eq_true_iff.mp hk.1
    exact b_sh (fr_E c hk1.1 σ h) fun r => by
      show (match truth (sD h0 r.1) (shH h0 r.2) with | some true => evE cl a (shS h0.length σ) (shH h0 r.2) | some false => evE cl b (shS h0.length σ) (shH h0 r.2) | none => none) = _
      rw [sh_truth]
      cases truth r.1 r.2 with
      | none => rfl
      | some t =>
        cases t with
        | false => exact fr_E b hk.2 σ r.2
        | true => exact fr_E a hk1.2 σ r.2
  | .idx a i, hk, σ, h => by
    have hk := Bool.and_eq_true_iff.mp hk
    exact b_sh (fr_E a hk.1 σ h) fun r => b_sh (fr_E i hk.2 σ r.2) fun q => sh_idx r.1 q.1 q.2
  | .slc a lo hi, hk, σ, h => by
    have hk := Bool.and_eq_true_iff.mp hk
    have hk1 := Bool.and_eq_true_iff.mp hk.1
    exact b_sh (fr_E a hk1.1 σ h) fun r => b_sh (fr_E lo hk1.2 σ r.2) fun p => b_sh (fr_E hi hk.2 σ p.2) fun q => by
      show (match partOf (isOmit lo) (sD h0 p.1), partOf (isOmit hi) (sD h0 q.1) with | some l, some u => slcD (sD h0 r.1) l u (shH h0 q.2) | _, _ => none) = _
      rw [sh_part, sh_part]
      cases partOf (isOmit lo) p.1 with
      | none => rfl
      | some l =>
        cases partOf (isOmit hi) q.1 with
        | none => rfl
        | some u => exact sh_slc r.1 l u q.2
  | .omit, _, σ, h => rfl
  | .call f es, hk, σ, h => b_sh (fr_Es es hk σ h) fun r => hcl f r.1 r.2
  | .blt b es, hk, σ, h => b_sh (fr_Es es hk σ h) fun r => sh_blt b r.1 r.2
  | .isi t a, hk, σ, h => b_sh (fr_E a hk σ h) fun r => sh_blt (.isi t) [r.1] r.2
  | .sst a, hk, σ, h => b_sh (fr_E a hk σ h) fun r => sh_sst r.1 r.2
  | .lck i a, hk, σ, h => by
    have e : (shS h0.length σ).getD i none = (σ.getD i none).map (D.sh h0.length) := by
      simp only [shS, List.getD_eq_getElem?_getD, List.getElem?_map]
      cases σ[i]? <;> rfl
    show ((lckD ((shS h0.length σ).getD i none) (shH h0 h)).bind _) = _
    rw [e]
    exact b_sh (sh_lckD _ h) fun q => by
      show ((evE cl a (shS h0.length σ) ((shH h0 h).set (h0.length + q.1) (.frz (shK h0.length q.2)))).bind _) = _
      have e2 := shH_set (h0 := h0) h q.1 (.frz q.2)
      simp only [shB] at e2
      rw [e2]
      exact b_sh (fr_E a hk σ _) fun r => by
        show (unlD (h0.length + q.1) (shH h0 r.2)).map _ = _
        rw [sh_unlD]
        cases unlD q.1 r.2 <;> rfl
  | .mth m o es, hk, σ, h => by
    have hk := Bool.and_eq_true_iff.mp hk
    exact b_sh (fr_E o hk.1 σ h) fun r => by
      show (if recv m (sD h0 r.1) (shH h0 r.2) = true then (evEs cl es (shS h0.length σ) (shH h0 r.2)).bind _ else none) = _
      rw [sh_recv]
      split
      · exact b_sh (fr_Es es hk.2 σ r.2) fun q => sh_mth m r.1 q.1 q.2
      · rfl
  | .comp k own c, hk, σ, h => fr_C c hk k own σ h
  | .x m, hk, σ, h => fr_X m hk σ h
theorem fr_X : ∀ (m : MX), okX m = true → ∀ (σ : St) (h : HI), evX cl m (shS h0.length σ) (shH h0 h) = (evX cl m σ h).map (shR h0)
  | .chn o1 o2 a b c, hk, σ, h => by
    have hk := Bool.and_eq_true_iff.mp hk
    have hk1 := Bool.and_eq_true_iff.mp hk.1
    exact b_sh (fr_E a hk1.1 σ h) fun r => b_sh (fr_E b hk1.2 σ r.2) fun q => by
      show (cmpB o1 (sD h0 r.1) (sD h0 q.1) (shH h0 q.2)).bind _ = _
      rw [sh_cmp]
      cases cmpB o1 r.1 q.1 q.2 with
      | none => rfl
      | some t =>
        cases t with
        | false => rfl
        | true =>
          simp only [Option.bind_some, if_true]
          exact b_sh (fr_E c hk.2 σ q.2) fun u => by
            show (cmpB o2 (sD h0 q.1) (sD h0 u.1) (shH h0 u.2)).map _ = _
            rw [sh_cmp]
            cases cmpB o2 q.1 u.1 u.2 <;> rfl
  | .gix kvs a, hk, σ, h => by
    have hk := Bool.and_eq_true_iff.mp hk
    exact b_sh (fr_E a hk.2 σ h) fun r => sh_gix hk.1 r.1 r.2
  | .gin neg kvs a, hk, σ, h => b_sh (fr_E a hk σ h) fun r => sh_gin neg kvs r.1 r.2
  | .drg a, hk, σ, h => b_sh (fr_E a hk σ h) fun r => by
      obtain ⟨d, h1⟩ := r
      cases d with
      | int j =>
        show (if 0 ≤ j ∧ j < 65536 then hnew (shH h0 h1) _ else none) = _
        simp only
        split
        · refine sh_new' h1 ?_
          rw [shs_map, List.map_map]
          rfl
        · rfl
      | _ => rfl
  | .rev a, hk, σ, h => b_sh (fr_E a hk σ h) fun r => sh_rev r.1 r.2
  | .dst a k v, hk, σ, h => by
    have hk := Bool.and_eq_true_iff.mp hk
    have hk1 := Bool.and_eq_true_iff.mp hk.1
    have e0 := shH_app (h0 := h0) h (.dic [])
    simp only [shB, shK, List.map_nil] at e0
    simp only [evX, shH_len]
    rw [e0]
    exact b_sh (fr_E a hk1.1 σ _) fun r => by
      obtain ⟨d, h1⟩ := r
      cases d with
      | ref m =>
        have em : (h0.length + m = h0.length + h.length) = (m = h.length) := propext ⟨fun z => Nat.add_left_cancel z, fun z => by rw [z]⟩
        simp only [shR, sD, D.sh, shH_get, em, shH_len]
        split
        · rfl
        · cases g1 : h1[h.length]? with
          | none => rfl
          | some o1 =>
            cases g2 : h1[m]? with
            | none => cases o1 <;> (try rfl) <;> rename_i l <;> cases l <;> rfl
            | some o2 =>
              cases o1 with
              | dic l1 =>
                cases l1 with
                | cons _ _ => cases o2 <;> rfl
                | nil =>
                  cases o2 with
                  | dic kvs =>
                    simp only [Option.map_some, shB, shK_len]
                    have ek : shK h0.length ([] : List (D × D)) = [] := rfl
                    simp only [ek]
                    by_cases hl : kvs.length < 8000000
                    · rw [if_pos hl, if_pos (show (shK h0.length kvs).length < 8000000 by rw [shK_len]; exact hl)]
                      have e1 := shH_set (h0 := h0) h1 h.length (.dic kvs)
                      simp only [shB] at e1
                      have e2 := shH_app (h0 := h0) (h1.set h.length (.dic kvs)) (.dic [])
                      simp only [shB, ek] at e2
                      rw [e1, e2]
                      refine b_sh (fr_E k hk1.2 σ _) fun p => ?_
                      refine b_sh (fr_E v hk.2 σ p.2) fun q => ?_
                      · simp only [shR, sD, shH_get]
                        cases g3 : q.2[h.length]? with
                        | none => rfl
                        | some o3 =>
                          cases g4 : q.2[h1.length]? with
                          | none => cases o3 <;> rfl
                          | some o4 =>
                            cases o3 with
                            | dic kv1 =>
                              cases o4 with
                              | dic l4 =>
                                cases l4 with
                                | cons _ _ => rfl
                                | nil =>
                                  simp only [Option.map_some, shB, shK_len, sh_key, ek]
                                  split
                                  · have e3 := shH_set (h0 := h0) q.2 h1.length (.dic [(p.1, q.1)])
                                    have e4 := shH_set (h0 := h0) (q.2.set h1.length (.dic [(p.1, q.1)])) h.length (.dic (kPut kv1 p.1 q.1))
                                    simp only [shB] at e3 e4
                                    simp only [Option.map_some, shR, sD, D.sh]
                                    rw [← e4, ← e3, sh_put]
                                    rfl
                                  · rfl
                              | _ => rfl
                            | _ => cases o4 <;> rfl
                    · rw [if_neg hl, if_neg (show ¬ (shK h0.length kvs).length < 8000000 by rw [shK_len]; exact hl)]
                      rfl
                  | _ => rfl
              | _ => cases o2 <;> rfl
      | _ => rfl
  | .ssc own c, hk, σ, h => b_sh (fr_C c hk .sset own σ h) fun r => sh_ssc r.1 r.2
  | .gn2 k own c, hk, σ, h => fr_C c hk k own σ h
theorem fr_Es : ∀ (ms : MEs), okEs ms = true → ∀ (σ : St) (h : HI), evEs cl ms (shS h0.length σ) (shH h0 h) = (evEs cl ms σ h).map (shRs h0)
  | .nil, _, σ, h => rfl
  | .cons e es, hk, σ, h => by
    have hk := Bool.and_eq_true_iff.mp hk
    exact b_sh (fr_E e hk.1 σ h) fun r => b_sh (fr_Es es hk.2 σ r.2) fun q => rfl
theorem fr_I : ∀ (m : MI), okI m = true → ∀ (σ : St) (h : HI), evI cl m (shS h0.length σ) (shH h0 h) = (evI cl m σ h).map (shI h0)
  | .ex e, hk, σ, h => b_sh (fr_E e hk σ h) fun r => by
      show (itOf (sD h0 r.1) (shH h0 r.2)).map _ = _
      rw [sh_itOf]
      cases itOf r.1 r.2 <;> rfl
  | .rng es, hk, σ, h => b_sh (fr_Es es hk σ h) fun r => by
      show (rngIt (sDs h0 r.1)).map _ = _
      rw [sh_rngIt]
      cases rngIt r.1 <;> rfl
  | .zip a b, hk, σ, h => by
    have hk := Bool.and_eq_true_iff.mp hk
    exact b_sh (fr_E a hk.1 σ h) fun r => b_sh (fr_E b hk.2 σ r.2) fun q => by
      show (zipOf (sD h0 r.1) (sD h0 q.1) (shH h0 q.2)).map _ = _
      rw [sh_zipOf]
      cases zipOf r.1 q.1 q.2 <;> rfl
  | .enm a, hk, σ, h => b_sh (fr_E a hk σ h) fun r => by
      show (enmOf (sD h0 r.1) (shH h0 r.2)).map _ = _
      rw [sh_enmOf]
      cases enmOf r.1 r.2 <;> rfl
  | .kys a, hk, σ, h => b_sh (fr_E a hk σ h) fun r => by
      show (keysOf (sD h0 r.1) (shH h0 r.2)).map _ = _
      rw [sh_keysOf]
      cases keysOf r.1 r.2 <;> rfl
theorem fr_C : ∀ (c : Cl), okC c = true → ∀ (k : CK) (own : List Nat) (σ : St) (h : HI), evC cl k own c (shS h0.length σ) (shH h0 h) = (evC cl k own c σ h).map (shR h0)
  | .one t i c e v, hk, k, own, σ, h => by
    have hk1 := Bool.and_eq_true_iff.mp hk
    have hk2 := Bool.and_eq_true_iff.mp hk1.1
    have hk3 := Bool.and_eq_true_iff.mp hk2.1
    simp only [evC]
    refine b_sh (fr_I i hk3.1 σ h) fun r => ?_
    have ea := sh_acc0 (h0 := h0) k r.2
    simp only [shI, sh_len, shH_len, ea.1, ea.2]
    refine b_sh (sh_loop (f := Acc.sh h0.length) (g := D.sh h0.length) (fun i h => sh_nx h i r.1) (fun h => sh_fin h r.1) (fun d a h => ?_) r.1.len 0 (acc0 k r.2).1 (acc0 k r.2).2) fun z => ?_
    · rw [sh_wipe]
      refine b_sh (sh_bind1 _ t d _) fun σ' => ?_
      refine b_sh (fr_E c hk3.2 σ' h) fun q => ?_
      simp only [shR]
      rw [sh_truth]
      cases truth q.1 q.2 with
      | none => rfl
      | some b =>
        cases b with
        | false => rfl
        | true =>
          refine b_sh (fr_E e hk2.2 σ' q.2) fun x => ?_
          refine b_sh (fr_E v hk1.2 σ' x.2) fun y => ?_
          exact sh_emit k r.2.length x.1 y.1 a y.2
    · obtain ⟨z1, z2⟩ := z
      cases z1 with
      | inl a =>
        simp only [shSum]
        rw [sh_compEnd]
        cases compEnd k r.2.length a <;> rfl
      | inr d => rfl
  | .more t i c own1 l, hk, k, own, σ, h => by
    have hk1 := Bool.and_eq_true_iff.mp hk
    have hk2 := Bool.and_eq_true_iff.mp hk1.1
    simp only [evC]
    refine b_sh (fr_I i hk2.1 σ h) fun r => ?_
    have ea := sh_acc0 (h0 := h0) k r.2
    simp only [shI, sh_len, shH_len, ea.1, ea.2]
    refine b_sh (sh_loop (f := Acc.sh h0.length) (g := D.sh h0.length) (fun i h => sh_nx h i r.1) (fun h => sh_fin h r.1) (fun d a h => ?_) r.1.len 0 (acc0 k r.2).1 (acc0 k r.2).2) fun z => ?_
    · rw [sh_wipe]
      refine b_sh (sh_bind1 _ t d _) fun σ' => ?_
      refine b_sh (fr_E c hk2.2 σ' h) fun q => ?_
      simp only [shR]
      rw [sh_truth]
      cases truth q.1 q.2 with
      | none => rfl
      | some b =>
        cases b with
        | false => rfl
        | true => exact fr_D l hk1.2 k own1 r.2.length a σ' q.2
    · obtain ⟨z1, z2⟩ := z
      cases z1 with
      | inl a =>
        simp only [shSum]
        rw [sh_compEnd]
        cases compEnd k r.2.length a <;> rfl
      | inr d => rfl
theorem fr_D : ∀ (c : Cl), okC c = true → ∀ (k : CK) (own : List Nat) (n : Nat) (a : Acc) (σ : St) (h : HI), evD cl k own (h0.length + n) c (a.sh h0.length) (shS h0.length σ) (shH h0 h) = (evD cl k own n c a σ h).map fun r => (shSum (Acc.sh h0.length) (D.sh h0.length) r.1, shH h0 r.2)
  | .one t i c e v, hk, k, own, n, a, σ, h => by
    have hk1 := Bool.and_eq_true_iff.mp hk
    have hk2 := Bool.and_eq_true_iff.mp hk1.1
    have hk3 := Bool.and_eq_true_iff.mp hk2.1
    simp only [evD]
    refine b_sh (fr_I i hk3.1 σ h) fun r => ?_
    simp only [shI, sh_len]
    refine sh_loop (f := Acc.sh h0.length) (g := D.sh h0.length) (fun i h => sh_nx h i r.1) (fun h => sh_fin h r.1) (fun d a h => ?_) r.1.len 0 a r.2
    rw [sh_wipe]
    refine b_sh (sh_bind1 _ t d _) fun σ' => ?_
    refine b_sh (fr_E c hk3.2 σ' h) fun q => ?_
    simp only [shR]
    rw [sh_truth]
    cases truth q.1 q.2 with
    | none => rfl
    | some b =>
      cases b with
      | false => rfl
      | true =>
        refine b_sh (fr_E e hk2.2 σ' q.2) fun x => ?_
        refine b_sh (fr_E v hk1.2 σ' x.2) fun y => ?_
        exact sh_emit k n x.1 y.1 a y.2
  | .more t i c own1 l, hk, k, own, n, a, σ, h => by
    have hk1 := Bool.and_eq_true_iff.mp hk
    have hk2 := Bool.and_eq_true_iff.mp hk1.1
    simp only [evD]
    refine b_sh (fr_I i hk2.1 σ h) fun r => ?_
    simp only [shI, sh_len]
    refine sh_loop (f := Acc.sh h0.length) (g := D.sh h0.length) (fun i h => sh_nx h i r.1) (fun h => sh_fin h r.1) (fun d a h => ?_) r.1.len 0 a r.2
    rw [sh_wipe]
    refine b_sh (sh_bind1 _ t d _) fun σ' => ?_
    refine b_sh (fr_E c hk2.2 σ' h) fun q => ?_
    simp only [shR]
    rw [sh_truth]
    cases truth q.1 q.2 with
    | none => rfl
    | some b =>
      cases b with
      | false => rfl
      | true => exact fr_D l hk1.2 k own1 n a σ' q.2
end
end
mutual
def okS : MS → Bool
  | .asg _ e => okE e
  | .par _ _ a b => okE a && okE b
  | .sub o i e => okE o && okE i && okE e
  | .expr e => okE e
  | .ret e => okE e
  | .ite c a b => okE c && okSs a && okSs b
  | .fr _ i b => okI i && okSs b
  | .whl c b => okE c && okSs b
  | .aug _ _ e => okE e
  | _ => true
def okSs : MSs → Bool
  | .nil => true
  | .cons s r => okS s && okSs r
end
def Fl.sh (n : Nat) : Fl → Fl
  | .nx σ => .nx (shS n σ)
  | .brk σ => .brk (shS n σ)
  | .ct σ => .ct (shS n σ)
  | .rt d => .rt (d.sh n)
def shF (h0 : HI) (r : Fl × HI) : Fl × HI := (r.1.sh h0.length, shH h0 r.2)
section
variable {cl : Nat → List D → HI → Rz} (hcl : ∀ f ds h, cl f (sDs h0 ds) (shH h0 h) = (cl f ds h).map (shR h0)) {wf : Nat}
theorem shS_set (n : Nat) (σ : St) (i : Nat) (d : D) : (shS n σ).set i (some (d.sh n)) = shS n (σ.set i (some d)) := by
  unfold shS
  rw [List.map_set]
  rfl
theorem sh_while {test test' : St → HI → Option (Bool × HI)} {body body' : St → HI → Option (Fl × HI)} (ht : ∀ σ h, test' (shS h0.length σ) (shH h0 h) = (test σ h).map fun r => (r.1, shH h0 r.2)) (hb : ∀ σ h, body' (shS h0.length σ) (shH h0 h) = (body σ h).map (shF h0)) :
    ∀ (n : Nat) (σ : St) (h : HI), whileN test' body' n (shS h0.length σ) (shH h0 h) = (whileN test body n σ h).map (shF h0)
  | 0, σ, h => rfl
  | n + 1, σ, h => by
    simp only [whileN, ht]
    cases test σ h with
    | none => rfl
    | some r =>
      obtain ⟨b, h1⟩ := r
      cases b with
      | false => rfl
      | true =>
        simp only [Option.map_some, hb]
        cases body σ h1 with
        | none => rfl
        | some q =>
          obtain ⟨f, h2⟩ := q
          cases f with
          | nx σ' => exact sh_while ht hb n σ' h2
          | ct σ' => exact sh_while ht hb n σ' h2
          | brk σ' => rfl
          | rt d => rfl
include hcl
theorem fr_test (c : ME) (hk : okE c = true) (σ : St) (h : HI) : testE cl c (shS h0.length σ) (shH h0 h) = (testE cl c σ h).map fun r => (r.1, shH h0 r.2) := by
  unfold testE
  refine b_sh (fr_E hcl c hk σ h) fun r => ?_
  show (truth (sD h0 r.1) (shH h0 r.2)).map _ = _
  rw [sh_truth]
  cases truth r.1 r.2 <;> rfl
mutual
theorem fr_S : ∀ (s : MS), okS s = true → ∀ (σ : St) (h : HI), evS cl wf s (shS h0.length σ) (shH h0 h) = (evS cl wf s σ h).map (shF h0)
  | .asg t e, hk, σ, h => by
    simp only [evS]
    refine b_sh (fr_E hcl e hk σ h) fun r => ?_
    show (bind1 t (r.1.sh h0.length) (shS h0.length σ)).map _ = _
    rw [sh_bind1]
    cases bind1 t r.1 σ <;> rfl
  | .par i j a b, hk, σ, h => by
    have hk := Bool.and_eq_true_iff.mp hk
    simp only [evS]
    refine b_sh (fr_E hcl a hk.1 σ h) fun r => ?_
    refine b_sh (fr_E hcl b hk.2 σ r.2) fun q => ?_
    have e : (shS h0.length σ).length = σ.length := by simp [shS]
    rw [e]
    split
    · simp only [Option.map_some, shR, sD, shS_set]
      rfl
    · rfl
  | .sub o i e, hk, σ, h => by
    have hk := Bool.and_eq_true_iff.mp hk
    have hk1 := Bool.and_eq_true_iff.mp hk.1
    simp only [evS]
    refine b_sh (fr_E hcl e hk.2 σ h) fun r => ?_
    refine b_sh (fr_E hcl o hk1.1 σ r.2) fun p => ?_
    refine b_sh (fr_E hcl i hk1.2 σ p.2) fun q => ?_
    show (setIx (sD h0 p.1) (sD h0 q.1) (sD h0 r.1) (shH h0 q.2)).map _ = _
    rw [sh_setIx]
    cases setIx p.1 q.1 r.1 q.2 <;> rfl
  | .expr e, hk, σ, h => by
    simp only [evS]
    have := fr_E hcl e hk σ h
    rw [this]
    cases evE cl e σ h <;> rfl
  | .ret e, hk, σ, h => by
    simp only [evS]
    have := fr_E hcl e hk σ h
    rw [this]
    cases evE cl e σ h <;> rfl
  | .retN, _, σ, h => rfl
  | .ite c a b, hk, σ, h => by
    have hk := Bool.and_eq_true_iff.mp hk
    have hk1 := Bool.and_eq_true_iff.mp hk.1
    simp only [evS]
    refine b_sh (fr_test hcl c hk1.1 σ h) fun r => ?_
    obtain ⟨t, h1⟩ := r
    cases t with
    | true => exact fr_Ss a hk1.2 σ h1
    | false => exact fr_Ss b hk.2 σ h1
  | .fr t i b, hk, σ, h => by
    have hk := Bool.and_eq_true_iff.mp hk
    simp only [evS]
    refine b_sh (fr_I hcl i hk.1 σ h) fun r => ?_
    simp only [shI, sh_len]
    have e := sh_loop (h0 := h0) (f := shS h0.length) (g := Fl.sh h0.length) (nx := r.1.nx) (nx' := (It.sh h0.length r.1).nx) (fin := r.1.fin) (fin' := (It.sh h0.length r.1).fin) (body := fun d σ h => (bind1 t d σ).bind fun σ' => (evSs cl wf b σ' h).map fun q => (turnOf q.1, q.2)) (body' := fun d σ h => (bind1 t d σ).bind fun σ' => (evSs cl wf b σ' h).map fun q => (turnOf q.1, q.2))
      (fun i h => sh_nx h i r.1) (fun h => sh_fin h r.1) (fun d a h => by
        refine b_sh (sh_bind1 _ t d a) fun σ' => ?_
        rw [fr_Ss b hk.2 σ' h]
        cases evSs cl wf b σ' h with
        | none => rfl
        | some q =>
          obtain ⟨f, h1⟩ := q
          cases f <;> rfl) r.1.len 0 σ r.2
    rw [e]
    cases loopN r.1.nx r.1.fin _ r.1.len 0 σ r.2 with
    | none => rfl
    | some z =>
      obtain ⟨z1, z2⟩ := z
      cases z1 with
      | inl σ' => rfl
      | inr f => cases f <;> rfl
  | .whl c b, hk, σ, h => by
    have hk := Bool.and_eq_true_iff.mp hk
    simp only [evS]
    exact sh_while (fun σ h => fr_test hcl c hk.1 σ h) (fun σ h => fr_Ss b hk.2 σ h) wf σ h
  | .brk, _, σ, h => rfl
  | .cont, _, σ, h => rfl
  | .pass, _, σ, h => rfl
  | .aug i op e, hk, σ, h => by
    simp only [evS]
    have e1 : (shS h0.length σ)[i]? = (σ[i]?).map (Option.map (D.sh h0.length)) := by simp only [shS, List.getElem?_map]
    rw [e1]
    cases σ[i]? with
    | none => rfl
    | some o =>
      cases o with
      | none => rfl
      | some x =>
        simp only [Option.map_some]
        refine b_sh (fr_E hcl e hk σ h) fun r => ?_
        show (binD op (sD h0 x) (sD h0 r.1) (shH h0 r.2)).map _ = _
        rw [sh_bin]
        cases binD op x r.1 r.2 with
        | none => rfl
        | some q =>
          simp only [Option.map_some, shR, sD, shS_set]
          rfl
theorem fr_Ss : ∀ (s : MSs), okSs s = true → ∀ (σ : St) (h : HI), evSs cl wf s (shS h0.length σ) (shH h0 h) = (evSs cl wf s σ h).map (shF h0)
  | .nil, _, σ, h => rfl
  | .cons s r, hk, σ, h => by
    have hk := Bool.and_eq_true_iff.mp hk
    simp only [evSs]
    rw [fr_S s hk.1 σ h]
    cases evS cl wf s σ h with
    | none => rfl
    | some q =>
      obtain ⟨f, h1⟩ := q
      cases f with
      | nx σ' => exact fr_Ss r hk.2 σ' h1
      | _ => rfl
end
end
theorem fr_call {P : List Def} (hP : P.all (fun d => okSs d.body) = true) {wf : Nat} : ∀ (k f : Nat) (ds : List D) (h : HI), callI P wf k f (sDs h0 ds) (shH h0 h) = (callI P wf k f ds h).map (shR h0)
  | 0, f, ds, h => rfl
  | k + 1, f, ds, h => by
    simp only [callI]
    cases hf : P[f]? with
    | none => rfl
    | some d =>
      have hd := List.all_eq_true.mp hP d (List.mem_of_getElem? hf)
      have e : startD d.nn (sDs h0 ds) = shS h0.length (startD d.nn ds) := by
        unfold startD shS
        rw [sDs, shs_map, List.map_append, List.map_map, List.map_map, List.map_replicate, List.length_map]
        rfl
      simp only [sDs, shs_len]
      split
      · have e2 := fr_Ss (cl := callI P wf k) (wf := wf) (fun f ds h => fr_call hP k f ds h) d.body hd (startD d.nn ds) h
        simp only [sDs] at e
        rw [e, e2]
        cases evSs (callI P wf k) wf d.body (startD d.nn ds) h with
        | none => rfl
        | some q =>
          obtain ⟨f, h1⟩ := q
          cases f <;> rfl
      · rfl
theorem run_closed {P : List Def} (hP : P.all (fun d => okSs d.body) = true) {wf k f : Nat} {ds : List D} {v : D} {g : HI} (hd : D.flats deep ds = true) (e : callI P wf k f ds [] = some (v, g)) (h : HI) : callI P wf k f ds h = some (v.sh h.length, h ++ g.map (shB h.length)) := by
  have z := fr_call (h0 := h) hP (wf := wf) k f ds []
  have e1 : sDs h ds = ds := by
    have : (D.tup ds).sh h.length = .tup ds := flat_sh h.length (deep + 1) (.tup ds) hd
    have e2 : D.tup (D.shs h.length ds) = .tup ds := this
    exact D.tup.inj e2
  have e2 : shH h [] = h := by simp [shH]
  rw [e1, e2, e] at z
  exact z
end MP
namespace MP
open PySem (Str)
theorem loop_ex {α β : Type} {nx : Nat → HI → Option D} {fin : HI → Bool} {body : D → α → HI → Option ((α ⊕ β) × HI)} {len : Nat} (I : Nat → α → HI → Prop) (E : β → HI → Prop)
    (st : ∀ j a h, j < len → I j a h → ∃ d z h', nx j h = some d ∧ body d a h = some (z, h') ∧ match z with | .inl a' => I (j + 1) a' h' | .inr b => E b h') (fi : ∀ a h, I len a h → fin h = true) : ∀ (n j : Nat) (a : α) (h : HI), j + n = len → I j a h →
    ∃ z h', loopN nx fin body n j a h = some (z, h') ∧ match z with | .inl a' => I len a' h' | .inr b => E b h'
  | 0, j, a, h, hj, hI => by
    have hj : j = len := by omega
    subst hj
    exact ⟨.inl a, h, by simp only [loopN, fi a h hI, if_true], hI⟩
  | n + 1, j, a, h, hj, hI => by
    obtain ⟨d, z, h1, e1, e2, q⟩ := st j a h (by omega) hI
    cases z with
    | inl a1 =>
      obtain ⟨z', h', e4, e5⟩ := loop_ex I E st fi n (j + 1) a1 h1 (by omega) q
      exact ⟨z', h', by simp only [loopN, e1, e2]; exact e4, e5⟩
    | inr b => exact ⟨.inr b, h1, by simp only [loopN, e1, e2], q⟩
section
variable {cl : Nat → List D → HI → Rz} {wf : Nat} {σ : St} {h : HI} {Q : D → HI → Prop} {R : Fl → HI → Prop}
def ForT (I : Nat → St → HI → Prop) (R : Fl → HI → Prop) (j : Nat) : Fl → HI → Prop
  | .nx σ2, h2 => I (j + 1) σ2 h2
  | .ct σ2, h2 => I (j + 1) σ2 h2
  | .brk σ2, h2 => R (.nx σ2) h2
  | .rt d, h2 => R (.rt d) h2
theorem wS_forE {t : Tg} {i : MI} {b : MSs} (I : Nat → St → HI → Prop)
    (hi : wI cl i σ h fun it h1 => I 0 σ h1 ∧ (∀ j σ h, j < it.len → I j σ h → ∃ d, it.nx j h = some d ∧ wO (bind1 t d σ) fun σ1 => wB cl wf b σ1 h (ForT I R j)) ∧
      ∀ σ h, I it.len σ h → it.fin h = true ∧ R (.nx σ) h) : wS cl wf (.fr t i b) σ h R := by
  obtain ⟨⟨it, h1⟩, ei, q0⟩ := hi
  have q0 : I 0 σ h1 ∧ (∀ j σ h, j < it.len → I j σ h → ∃ d, it.nx j h = some d ∧ wO (bind1 t d σ) fun σ1 => wB cl wf b σ1 h (ForT I R j)) ∧
      ∀ σ h, I it.len σ h → it.fin h = true ∧ R (.nx σ) h := q0
  obtain ⟨h0, st, fi⟩ := q0
  obtain ⟨z, h', e4, e5⟩ := loop_ex (nx := it.nx) (fin := it.fin) (len := it.len) (body := fun d σ h => (bind1 t d σ).bind fun σ' => (evSs cl wf b σ' h).map fun q => (turnOf q.1, q.2)) I
    (fun f h => match f with | .brk σ2 => R (.nx σ2) h | .rt d => R (.rt d) h | _ => False) (by
      intro j a H hj hI
      obtain ⟨d, e1, σ1, e2, ⟨f, h2⟩, e3, q⟩ := st j a H hj hI
      refine ⟨d, turnOf f, h2, e1, by rw [e2, Option.bind_some, e3]; rfl, ?_⟩
      cases f with
      | nx σ2 => exact q
      | ct σ2 => exact q
      | brk σ2 => exact q
      | rt d => exact q) (fun a H hI => (fi a H hI).1) it.len 0 σ h1 (by omega) h0
  refine ⟨(afterFor z, h'), ?_, ?_⟩
  · simp only [evS, ei, Option.bind_some, e4, Option.map_some]
  · cases z with
    | inl a' => exact (fi a' h' e5).2
    | inr f =>
      cases f with
      | nx σ2 => exact e5.elim
      | ct σ2 => exact e5.elim
      | brk σ2 => exact e5
      | rt d => exact e5
theorem wE_gall {own : List Nat} {t : Tg} {i : MI} {c e : ME} (I : Nat → HI → Prop)
    (hi : wI cl i σ h fun it h1 => I 0 h1 ∧
      (∀ j H, j < it.len → I j H → ∃ d, it.nx j H = some d ∧ wO (bind1 t d (wipeD σ own)) fun σ1 => wE cl c σ1 H fun x H1 => wO (truth x H1) fun tt =>
        if tt = true then wE cl e σ1 H1 fun y H2 => ∃ b, y = .bl b ∧ if b = true then I (j + 1) H2 else Q (.bl false) H2 else I (j + 1) H1) ∧
      ∀ H, I it.len H → it.fin H = true ∧ Q (.bl true) H) : wE cl (.comp .gall own (.one t i c e .omit)) σ h Q := by
  obtain ⟨⟨it, h1⟩, ei, q0⟩ := hi
  have q0 : I 0 h1 ∧
      (∀ j H, j < it.len → I j H → ∃ d, it.nx j H = some d ∧ wO (bind1 t d (wipeD σ own)) fun σ1 => wE cl c σ1 H fun x H1 => wO (truth x H1) fun tt =>
        if tt = true then wE cl e σ1 H1 fun y H2 => ∃ b, y = .bl b ∧ if b = true then I (j + 1) H2 else Q (.bl false) H2 else I (j + 1) H1) ∧
      ∀ H, I it.len H → it.fin H = true ∧ Q (.bl true) H := q0
  obtain ⟨h0, st, fi⟩ := q0
  obtain ⟨z, h', e4, e5⟩ := loop_ex (len := it.len) (nx := it.nx) (fin := it.fin) (body := fun d a h => (bind1 t d (wipeD σ own)).bind fun σ' => (evE cl c σ' h).bind fun q => match truth q.1 q.2 with
        | some true => (evE cl e σ' q.2).bind fun x => (evE cl .omit σ' x.2).bind fun y => emit .gall h1.length x.1 y.1 a y.2
        | some false => some (.inl a, q.2)
        | none => none) (fun j (a : Acc) H => I j H) (fun d H => d = .bl false ∧ Q (.bl false) H) (by
      rintro j a H hj hI
      obtain ⟨d, f1, σ1, f2, ⟨x, H1⟩, f3, tt, f4, f5⟩ := st j H hj hI
      have f4 : truth x H1 = some tt := f4
      cases tt with
      | false =>
        refine ⟨d, .inl a, H1, f1, ?_, f5⟩
        simp only [f2, Option.bind_some, f3, f4]
      | true =>
        obtain ⟨⟨y, H2⟩, g1, b, rfl, g4⟩ := f5
        cases b with
        | true => exact ⟨d, .inl a, H2, f1, by simp only [f2, Option.bind_some, f3, f4, g1, evE, emit], g4⟩
        | false => exact ⟨d, .inr (.bl false), H2, f1, by simp only [f2, Option.bind_some, f3, f4, g1, evE, emit], rfl, g4⟩) (by
      rintro a H hI
      exact (fi H hI).1) it.len 0 (acc0 .gall h1).1 (acc0 .gall h1).2 (by omega) h0
  cases z with
  | inl a =>
    refine ⟨(.bl true, h'), ?_, (fi h' e5).2⟩
    rw [evE, evC, ei]
    exact (congrArg (fun o => Option.bind o _) e4).trans rfl
  | inr d =>
    refine ⟨(d, h'), ?_, ?_⟩
    · rw [evE, evC, ei]
      exact (congrArg (fun o => Option.bind o _) e4).trans rfl
    · rw [e5.1]
      exact e5.2
theorem wE_gany {own : List Nat} {t : Tg} {i : MI} {c e : ME} (I : Nat → HI → Prop)
    (hi : wI cl i σ h fun it h1 => I 0 h1 ∧
      (∀ j H, j < it.len → I j H → ∃ d, it.nx j H = some d ∧ wO (bind1 t d (wipeD σ own)) fun σ1 => wE cl c σ1 H fun x H1 => wO (truth x H1) fun tt =>
        if tt = true then wE cl e σ1 H1 fun y H2 => ∃ b, y = .bl b ∧ if b = true then Q (.bl true) H2 else I (j + 1) H2 else I (j + 1) H1) ∧
      ∀ H, I it.len H → it.fin H = true ∧ Q (.bl false) H) : wE cl (.comp .gany own (.one t i c e .omit)) σ h Q := by
  obtain ⟨⟨it, h1⟩, ei, q0⟩ := hi
  have q0 : I 0 h1 ∧
      (∀ j H, j < it.len → I j H → ∃ d, it.nx j H = some d ∧ wO (bind1 t d (wipeD σ own)) fun σ1 => wE cl c σ1 H fun x H1 => wO (truth x H1) fun tt =>
        if tt = true then wE cl e σ1 H1 fun y H2 => ∃ b, y = .bl b ∧ if b = true then Q (.bl true) H2 else I (j + 1) H2 else I (j + 1) H1) ∧
      ∀ H, I it.len H → it.fin H = true ∧ Q (.bl false) H := q0
  obtain ⟨h0, st, fi⟩ := q0
  obtain ⟨z, h', e4, e5⟩ := loop_ex (len := it.len) (nx := it.nx) (fin := it.fin) (body := fun d a h => (bind1 t d (wipeD σ own)).bind fun σ' => (evE cl c σ' h).bind fun q => match truth q.1 q.2 with
        | some true => (evE cl e σ' q.2).bind fun x => (evE cl .omit σ' x.2).bind fun y => emit .gany h1.length x.1 y.1 a y.2
        | some false => some (.inl a, q.2)
        | none => none) (fun j (a : Acc) H => I j H) (fun d H => d = .bl true ∧ Q (.bl true) H) (by
      rintro j a H hj hI
      obtain ⟨d, f1, σ1, f2, ⟨x, H1⟩, f3, tt, f4, f5⟩ := st j H hj hI
      have f4 : truth x H1 = some tt := f4
      cases tt with
      | false =>
        refine ⟨d, .inl a, H1, f1, ?_, f5⟩
        simp only [f2, Option.bind_some, f3, f4]
      | true =>
        obtain ⟨⟨y, H2⟩, g1, b, rfl, g4⟩ := f5
        cases b with
        | false => exact ⟨d, .inl a, H2, f1, by simp only [f2, Option.bind_some, f3, f4, g1, evE, emit], g4⟩
        | true => exact ⟨d, .inr (.bl true), H2, f1, by simp only [f2, Option.bind_some, f3, f4, g1, evE, emit], rfl, g4⟩) (by
      rintro a H hI
      exact (fi H hI).1) it.len 0 (acc0 .gany h1).1 (acc0 .gany h1).2 (by omega) h0
  cases z with
  | inl a =>
    refine ⟨(.bl false, h'), ?_, (fi h' e5).2⟩
    rw [evE, evC, ei]
    exact (congrArg (fun o => Option.bind o _) e4).trans rfl
  | inr d =>
    refine ⟨(d, h'), ?_, ?_⟩
    · rw [evE, evC, ei]
      exact (congrArg (fun o => Option.bind o _) e4).trans rfl
    · rw [e5.1]
      exact e5.2
theorem wE_gix {kvs : List (D × D)} {a : ME} : wE cl (.x (.gix kvs a)) σ h Q = wE cl a σ h fun x h1 => wO (gixD kvs x h1) fun r => Q r.1 r.2 := by
  unfold wE
  simp only [evE, evX, wO_bind]
theorem wE_gin {neg : Bool} {kvs : List (D × D)} {a : ME} : wE cl (.x (.gin neg kvs a)) σ h Q = wE cl a σ h fun x h1 => wO (ginD neg kvs x h1) fun r => Q r.1 r.2 := by
  unfold wE
  simp only [evE, evX, wO_bind]
theorem wE_rev {a : ME} : wE cl (.x (.rev a)) σ h Q = wE cl a σ h fun x h1 => wO (revD x h1) fun r => Q r.1 r.2 := by
  unfold wE
  simp only [evE, evX, wO_bind]
end
theorem run_cl {P : List Def} (hP : P.all (fun d => okSs d.body) = true) {wf k f : Nat} {ds : List D} {v : D} {g : HI} (hd : D.flats deep ds = true) (e : callI P wf k f ds [] = some (v, g)) {h : HI} {Q : D × HI → Prop}
    (q : Q (v.sh h.length, h ++ g.map (shB h.length))) : wO (callI P wf k f ds h) Q := ⟨_, run_closed hP hd e h, q⟩
theorem run_clf {P : List Def} (hP : P.all (fun d => okSs d.body) = true) {wf k f : Nat} {ds : List D} {v : D} {g : HI} (hd : D.flats deep ds = true) (hv : D.flat deep v = true) (e : callI P wf k f ds [] = some (v, g)) {h : HI} {Q : D × HI → Prop}
    (q : ∀ g, Q (v, h ++ g)) : wO (callI P wf k f ds h) Q := run_cl hP hd e (by rw [flat_sh _ deep v hv]; exact q _)
end MP
namespace MP
open PySem (Str)
@[simp] theorem flat_int {n : Nat} {i : Int} : D.flat n (.int i) = true := by cases n <;> rfl
@[simp] theorem flat_str {n : Nat} {s : Str} : D.flat n (.str s) = true := by cases n <;> rfl
@[simp] theorem flat_bl {n : Nat} {b : Bool} : D.flat n (.bl b) = true := by cases n <;> rfl
@[simp] theorem flat_non {n : Nat} : D.flat n .non = true := by cases n <;> rfl
def LA (h : HI) (n : Nat) (ds : List D) : Prop := h[n]? = some (.lst ds) ∨ h[n]? = some (.rol ds)
theorem LA.of {h : HI} {n : Nat} {ds : List D} (a : LA h n ds) : lstOf h (.ref n) = some ds := by
  rcases a with e | e <;> simp [lstOf, e]
theorem LA.len {h : HI} {n : Nat} {ds : List D} (a : LA h n ds) : bltD .len [.ref n] h = some (.int ds.length, h) := by
  rcases a with e | e <;> simp [bltD, e]
theorem LA.idx {h : HI} {n : Nat} {ds : List D} (a : LA h n ds) (i : Int) : idxD (.ref n) (.int i) h = (atD ds i).map fun d => (d, h) := by
  rcases a with e | e <;> simp [idxD, e]
theorem LA.ext {h h' : HI} {n : Nat} {ds : List D} (a : LA h n ds) (e : h'[n]? = h[n]?) : LA h' n ds := by
  unfold LA
  rw [e]
  exact a
theorem at_nat {ds : List D} {k : Nat} {d : D} (e : ds[k]? = some d) : atD ds (k : Int) = some d := by
  have hk : k < ds.length := (List.getElem?_eq_some_iff.mp e).1
  simp only [atD, ixAt]
  rw [if_pos (by omega), if_pos (by omega)]
  simpa using e
def bCell : MSs := (.cons (.ite (.cmp .lt (.var 1) (.blt .len (.cons (.var 0) .nil))) (.cons (.ret (.idx (.var 0) (.var 1))) .nil) .nil) (.cons (.ret (.cst (.int 0))) .nil))
theorem grow_get {h : HI} {n : Nat} {o : HB} (e : h[n]? = some o) (g : HI) : (h ++ g)[n]? = some o := by
  rw [List.getElem?_append_left, e]
  rcases Nat.lt_or_ge n h.length with z | z
  · exact z
  · rw [List.getElem?_eq_none z] at e; cases e
theorem LA.grow {h : HI} {n : Nat} {ds : List D} (a : LA h n ds) (g : HI) : LA (h ++ g) n ds := by
  rcases a with e | e
  · exact .inl (grow_get e g)
  · exact .inr (grow_get e g)
theorem get_last {h : HI} {o : HB} : (h ++ [o])[h.length]? = some o := by simp
theorem set_last {h : HI} {o o' : HB} : (h ++ [o]).set h.length o' = h ++ [o'] := by simp
section
variable {P : List Def} {wf j : Nat} {h : HI} {Q : D × HI → Prop}
theorem run_cell {ic s : Nat} (hP : P[ic]? = some ⟨2, 2, bCell⟩) {ns : List Int} {k : Nat} (hs : LA h s (ns.map .int)) (q : ∀ c : Int, Q (.int c, h)) : wO (callI P wf (j + 1) ic [.ref s, .int k] h) Q := by
  refine wC hP rfl ?_
  simp only [bCell, startD, List.map_cons, List.map_nil, List.length_cons, List.length_nil, List.replicate, List.cons_append, List.nil_append, ↓wE_var, ↓wE_cst, ↓wE_glb, ↓wE_tup, ↓wE_lst, ↓wE_dnew, ↓wE_bin, ↓wE_cmp, ↓wE_not, ↓wE_or, ↓wE_and, ↓wE_idx, ↓wE_slc, ↓wE_omit, ↓wE_call, ↓wE_blt, ↓wE_isi, ↓wE_mth, ↓wL_nil, ↓wL_cons, ↓wB_nil, ↓wB_cons, ↓wS_asg, ↓wS_sub, ↓wS_expr, ↓wS_ret, ↓wS_ite, ↓wI_ex, ↓wI_rng, ↓wI_zip, wV, wW, hs.len, wO_some, cmpB, truth]
  by_cases hk : k < ns.length
  · have e : (ns.map D.int)[k]? = some (.int ns[k]) := by rw [List.getElem?_map, List.getElem?_eq_getElem hk]; rfl
    have : decide ((k : Int) < ((ns.map D.int).length : Nat)) = true := by simp [hk]
    simp only [this, if_true, ↓wE_var, ↓wE_cst, ↓wE_glb, ↓wE_tup, ↓wE_lst, ↓wE_dnew, ↓wE_bin, ↓wE_cmp, ↓wE_not, ↓wE_or, ↓wE_and, ↓wE_idx, ↓wE_slc, ↓wE_omit, ↓wE_call, ↓wE_blt, ↓wE_isi, ↓wE_mth, ↓wL_nil, ↓wL_cons, ↓wB_nil, ↓wB_cons, ↓wS_asg, ↓wS_sub, ↓wS_expr, ↓wS_ret, ↓wS_ite, ↓wI_ex, ↓wI_rng, ↓wI_zip, wV, wW, hs.idx, at_nat e, Option.map_some, wO_some]
    exact q _
  · have : decide ((k : Int) < ((ns.map D.int).length : Nat)) = false := by simp [hk]
    simp only [this, Bool.false_eq_true, if_false, ↓wE_var, ↓wE_cst, ↓wE_glb, ↓wE_tup, ↓wE_lst, ↓wE_dnew, ↓wE_bin, ↓wE_cmp, ↓wE_not, ↓wE_or, ↓wE_and, ↓wE_idx, ↓wE_slc, ↓wE_omit, ↓wE_call, ↓wE_blt, ↓wE_isi, ↓wE_mth, ↓wL_nil, ↓wL_cons, ↓wB_nil, ↓wB_cons, ↓wS_asg, ↓wS_sub, ↓wS_expr, ↓wS_ret, ↓wS_ite, ↓wI_ex, ↓wI_rng, ↓wI_zip, wV, wW]
    exact q 0
end
def bDig2 : MSs := (.cons (.ite (.cmp .ge (.var 5) (.bin .pow (.cst (.int 10)) (.cst (.int 18)))) (.cons (.fr (.nm 6) (.rng (.cons (.cst (.int 60)) .nil)) (.cons (.ite (.cmp .gt (.var 5) (.cst (.int 0))) (.cons (.expr (.mth .append (.var 3) (.cons (.bin .mod (.blt .int (.cons (.var 5) .nil)) (.cst (.int 1000))) .nil))) (.cons (.asg (.nm 5) (.bin .fdv (.var 5) (.cst (.int 1000)))) .nil)) .nil) .nil)) .nil) (.cons (.asg (.nm 7) (.bin .mod (.blt .int (.cons (.bin .add (.bin .add (.bin .mul (.var 5) (.cst (.int 48271))) (.bin .mul (.var 4) (.cst (.int 69621)))) (.cst (.int 11))) .nil)) (.cst (.int 2147483647)))) (.cons (.fr (.nm 6) (.rng (.cons (.cst (.int 12)) .nil)) (.cons (.asg (.nm 7) (.bin .mod (.blt .int (.cons (.bin .add (.bin .add (.bin .mul (.var 7) (.cst (.int 16807))) (.bin .mul (.cst (.int 7)) (.var 6))) (.cst (.int 1))) .nil)) (.cst (.int 2147483647)))) (.cons (.expr (.mth .append (.var 3) (.cons (.bin .mod (.blt .int (.cons (.bin .fdv (.var 7) (.cst (.int 997))) .nil)) (.cst (.int 1000))) .nil))) .nil))) .nil))) .nil)
def bDigits (ic : Nat) : MSs := (.cons (.asg (.nm 3) (.lst .nil)) (.cons (.fr (.nm 4) (.rng (.cons (.var 1) (.cons (.var 2) .nil))) (.cons (.asg (.nm 5) (.call ic (.cons (.var 0) (.cons (.var 4) .nil)))) (.cons (.ite (.cmp .lt (.var 5) (.cst (.int 0))) (.cons (.asg (.nm 5) (.bin .sub (.cst (.int 1)) (.bin .mul (.cst (.int 2)) (.var 5)))) .nil) .nil) bDig2))) (.cons (.ret (.var 3)) .nil)))
theorem o_int {op : BOp} {i j : Int} {h : HI} {Q : D × HI → Prop} : wO (binD op (.int i) (.int j) h) Q = wO (intOp op i j) fun k => Q (.int k, h) := by
  simp only [binD, wO_map]
theorem i_add {i j : Int} : intOp .add i j = some (i + j) := rfl
theorem i_sub {i j : Int} : intOp .sub i j = some (i - j) := rfl
theorem m_r {i j : Int} (h : small64 j = true) : intOp .mul i j = some (i * j) := by simp [intOp, h]
theorem m_l {i j : Int} (h : small64 i = true) : intOp .mul i j = some (i * j) := by simp [intOp, h]
theorem m_48271 {i : Int} : intOp .mul i 48271 = some (i * 48271) := m_r (by decide)
theorem m_69621 {i : Int} : intOp .mul i 69621 = some (i * 69621) := m_r (by decide)
theorem m_16807 {i : Int} : intOp .mul i 16807 = some (i * 16807) := m_r (by decide)
theorem m_2 {i : Int} : intOp .mul 2 i = some (2 * i) := m_l (by decide)
theorem m_7 {i : Int} : intOp .mul 7 i = some (7 * i) := m_l (by decide)
theorem r_k {i j : Int} (h : j ≠ 0) : intOp .mod i j = some (i.fmod j) := by simp [intOp, h]
theorem r_1000 {i : Int} : intOp .mod i 1000 = some (i.fmod 1000) := r_k (by decide)
theorem r_m31 {i : Int} : intOp .mod i 2147483647 = some (i.fmod 2147483647) := r_k (by decide)
theorem r_26 {i : Int} : intOp .mod i 26 = some (i.fmod 26) := r_k (by decide)
theorem f_k {i j : Int} (h : j ≠ 0 ∧ j.natAbs < 1073741824) : intOp .fdv i j = some (i.fdiv j) := by simp [intOp, h]
theorem f_1000 {i : Int} : intOp .fdv i 1000 = some (i.fdiv 1000) := f_k (by decide)
theorem f_997 {i : Int} : intOp .fdv i 997 = some (i.fdiv 997) := f_k (by decide)
theorem f_26 {i : Int} : intOp .fdv i 26 = some (i.fdiv 26) := f_k (by decide)
theorem p_18 : intOp .pow 10 18 = some 1000000000000000000 := by decide
theorem c_lt {i j : Int} {h : HI} : cmpB .lt (.int i) (.int j) h = some (decide (i < j)) := rfl
theorem c_gt {i j : Int} {h : HI} : cmpB .gt (.int i) (.int j) h = some (decide (j < i)) := rfl
theorem c_ge {i j : Int} {h : HI} : cmpB .ge (.int i) (.int j) h = some (decide (j ≤ i)) := rfl
theorem c_str {x y : Str} {h : HI} : cmpB .eq (.str x) (.str y) h = some (x == y) := by simp [cmpB, D.eqv]
theorem t_bl {b : Bool} {h : HI} : truth (.bl b) h = some b := rfl
theorem b_int {i : Int} {h : HI} : bltD .int [.int i] h = some (.int i, h) := rfl
theorem rng2 {n : Nat} (hn : n ≤ 1000000) : rngIt [.int 0, .int n] = some (.seq ((List.range n).map fun k => .int (k : Nat))) := by
  simp only [rngIt]
  rw [if_pos (by omega)]
  simp
theorem rng1 {n : Nat} (hn : n ≤ 1000000) : rngIt [.int n] = some (.seq ((List.range n).map fun k => .int (k : Nat))) := by
  simp only [rngIt]
  rw [if_pos (by omega)]
  simp
theorem rng60 : rngIt [.int 60] = some (.seq ((List.range 60).map fun k => .int (k : Nat))) := rng1 (n := 60) (by omega)
theorem rng12 : rngIt [.int 12] = some (.seq ((List.range 12).map fun k => .int (k : Nat))) := rng1 (n := 12) (by omega)
theorem rng4 : rngIt [.int 4] = some (.seq ((List.range 4).map fun k => .int (k : Nat))) := rng1 (n := 4) (by omega)
theorem rng_nx {n j : Nat} {h : HI} (hj : j < (It.seq ((List.range n).map fun k => D.int (k : Nat))).len) : (It.seq ((List.range n).map fun k => D.int (k : Nat))).nx j h = some (.int (j : Nat)) := by
  simp only [It.len, List.length_map, List.length_range] at hj
  simp [It.nx, hj]
theorem app_last {h : HI} {ds : List D} {d : D} {Q : D × HI → Prop} (hl : ds.length < big) (q : Q (.non, h ++ [.lst (ds ++ [d])])) : wO (mthD .append (.ref h.length) [d] (h ++ [.lst ds])) Q := by
  simp only [mthD, get_last, hl, if_true, set_last, wO_some]
  exact q
theorem recv_last {h : HI} {ds : List D} : recv .append (.ref h.length) (h ++ [.lst ds]) = true := by simp only [recv, get_last]
section
variable {P : List Def} {wf j : Nat} {h : HI} {Q : D × HI → Prop}
theorem run_digits {ic id s last : Nat} (hC : P[ic]? = some ⟨2, 2, bCell⟩) (hP : P[id]? = some ⟨3, 8, bDigits ic⟩) {ns : List Int} (hl : last ≤ 1000) (hs : LA h s (ns.map .int))
    (q : ∀ ds : List Int, Q (.ref h.length, h ++ [.lst (ds.map .int)])) : wO (callI P wf (j + 2) id [.ref s, .int 0, .int last] h) Q := by
  refine wC hP rfl ?_
  simp only [bDigits, startD, List.map_cons, List.map_nil, List.length_cons, List.length_nil, List.replicate, List.cons_append, List.nil_append, ↓wE_var, ↓wE_cst, ↓wE_glb, ↓wE_tup, ↓wE_lst, ↓wE_dnew, ↓wE_bin, ↓wE_cmp, ↓wE_not, ↓wE_or, ↓wE_and, ↓wE_idx, ↓wE_slc, ↓wE_omit, ↓wE_call, ↓wE_blt, ↓wE_isi, ↓wE_mth, ↓wL_nil, ↓wL_cons, ↓wB_nil, ↓wB_cons, ↓wS_asg, ↓wS_sub, ↓wS_expr, ↓wS_ret, ↓wS_ite, ↓wI_ex, ↓wI_rng, ↓wI_zip, wV, wW]
  refine ⟨by decide, ?_⟩
  refine wS_for (fun i σ H => ∃ (a b c d : Option D) (ds : List Int), σ = [some (.ref s), some (.int 0), some (.int last), some (.ref h.length), a, b, c, d] ∧ H = h ++ [.lst (ds.map .int)] ∧ ds.length ≤ 60 * i) ?_
  simp only [↓wE_var, ↓wE_cst, ↓wE_glb, ↓wE_tup, ↓wE_lst, ↓wE_dnew, ↓wE_bin, ↓wE_cmp, ↓wE_not, ↓wE_or, ↓wE_and, ↓wE_idx, ↓wE_slc, ↓wE_omit, ↓wE_call, ↓wE_blt, ↓wE_isi, ↓wE_mth, ↓wL_nil, ↓wL_cons, ↓wB_nil, ↓wB_cons, ↓wS_asg, ↓wS_sub, ↓wS_expr, ↓wS_ret, ↓wS_ite, ↓wI_ex, ↓wI_rng, ↓wI_zip, wV, wW, rng2 (show last ≤ 1000000 by omega), wO_some]
  refine ⟨⟨none, none, none, none, [], rfl, rfl, by simp⟩, ?_, ?_⟩
  · rintro i σ H hi ⟨a, b, c, d, ds, rfl, rfl, hd⟩
    refine ⟨_, rng_nx hi, ?_⟩
    simp only [It.len, List.length_map, List.length_range] at hi
    rw [← wW_eq]
    try simp only [↓wE_var, ↓wE_cst, ↓wE_glb, ↓wE_tup, ↓wE_lst, ↓wE_dnew, ↓wE_bin, ↓wE_cmp, ↓wE_not, ↓wE_or, ↓wE_and, ↓wE_idx, ↓wE_slc, ↓wE_omit, ↓wE_call, ↓wE_blt, ↓wE_isi, ↓wE_mth, ↓wL_nil, ↓wL_cons, ↓wB_nil, ↓wB_cons, ↓wS_asg, ↓wS_sub, ↓wS_expr, ↓wS_ret, ↓wS_ite, ↓wI_ex, ↓wI_rng, ↓wI_zip, wV, wW]
    refine run_cell hC (hs.grow _) fun cell => ?_
    have rest : ∀ cell : Int, wB (callI P wf (j + 1)) wf bDig2
        [some (.ref s), some (.int 0), some (.int last), some (.ref h.length), some (.int (i : Nat)), some (.int cell), c, d] (h ++ [.lst (ds.map .int)]) (fun f h2 => match f with
          | .nx σ2 => ∃ (a b c d : Option D) (ds : List Int), σ2 = [some (.ref s), some (.int 0), some (.int last), some (.ref h.length), a, b, c, d] ∧ h2 = h ++ [.lst (ds.map .int)] ∧ ds.length ≤ 60 * (i + 1)
          | .ct σ2 => ∃ (a b c d : Option D) (ds : List Int), σ2 = [some (.ref s), some (.int 0), some (.int last), some (.ref h.length), a, b, c, d] ∧ h2 = h ++ [.lst (ds.map .int)] ∧ ds.length ≤ 60 * (i + 1)
          | _ => False) := by
      intro cell
      simp only [bDig2, ↓wE_var, ↓wE_cst, ↓wE_glb, ↓wE_tup, ↓wE_lst, ↓wE_dnew, ↓wE_bin, ↓wE_cmp, ↓wE_not, ↓wE_or, ↓wE_and, ↓wE_idx, ↓wE_slc, ↓wE_omit, ↓wE_call, ↓wE_blt, ↓wE_isi, ↓wE_mth, ↓wL_nil, ↓wL_cons, ↓wB_nil, ↓wB_cons, ↓wS_asg, ↓wS_sub, ↓wS_expr, ↓wS_ret, ↓wS_ite, ↓wI_ex, ↓wI_rng, ↓wI_zip, wV, wW, wO_some, o_int, i_add, i_sub, m_48271, m_69621, m_16807, m_2, m_7, r_1000, r_m31, r_26, f_1000, f_997, f_26, p_18, c_lt, c_gt, c_ge, c_str, t_bl, b_int]
      split
      · try simp only [↓wE_var, ↓wE_cst, ↓wE_glb, ↓wE_tup, ↓wE_lst, ↓wE_dnew, ↓wE_bin, ↓wE_cmp, ↓wE_not, ↓wE_or, ↓wE_and, ↓wE_idx, ↓wE_slc, ↓wE_omit, ↓wE_call, ↓wE_blt, ↓wE_isi, ↓wE_mth, ↓wL_nil, ↓wL_cons, ↓wB_nil, ↓wB_cons, ↓wS_asg, ↓wS_sub, ↓wS_expr, ↓wS_ret, ↓wS_ite, ↓wI_ex, ↓wI_rng, ↓wI_zip, wV, wW]
        refine wS_for (fun t σ H => ∃ (b c : Option D) (cell : Int) (es : List Int), σ = [some (.ref s), some (.int 0), some (.int last), some (.ref h.length), some (.int (i : Nat)), some (.int cell), c, d] ∧ H = h ++ [.lst (es.map .int)] ∧ es.length ≤ ds.length + t) ?_
        simp only [↓wE_var, ↓wE_cst, ↓wE_glb, ↓wE_tup, ↓wE_lst, ↓wE_dnew, ↓wE_bin, ↓wE_cmp, ↓wE_not, ↓wE_or, ↓wE_and, ↓wE_idx, ↓wE_slc, ↓wE_omit, ↓wE_call, ↓wE_blt, ↓wE_isi, ↓wE_mth, ↓wL_nil, ↓wL_cons, ↓wB_nil, ↓wB_cons, ↓wS_asg, ↓wS_sub, ↓wS_expr, ↓wS_ret, ↓wS_ite, ↓wI_ex, ↓wI_rng, ↓wI_zip, wV, wW, rng60, wO_some]
        refine ⟨⟨none, c, cell, ds, rfl, rfl, by omega⟩, ?_, ?_⟩
        · rintro t σ H ht ⟨b, c, cell, es, rfl, rfl, he⟩
          refine ⟨_, rng_nx ht, ?_⟩
          simp only [It.len, List.length_map, List.length_range] at ht
          rw [← wW_eq]
          try simp only [↓wE_var, ↓wE_cst, ↓wE_glb, ↓wE_tup, ↓wE_lst, ↓wE_dnew, ↓wE_bin, ↓wE_cmp, ↓wE_not, ↓wE_or, ↓wE_and, ↓wE_idx, ↓wE_slc, ↓wE_omit, ↓wE_call, ↓wE_blt, ↓wE_isi, ↓wE_mth, ↓wL_nil, ↓wL_cons, ↓wB_nil, ↓wB_cons, ↓wS_asg, ↓wS_sub, ↓wS_expr, ↓wS_ret, ↓wS_ite, ↓wI_ex, ↓wI_rng, ↓wI_zip, wV, wW, wO_some, o_int, i_add, i_sub, m_48271, m_69621, m_16807, m_2, m_7, r_1000, r_m31, r_26, f_1000, f_997, f_26, p_18, c_lt, c_gt, c_ge, c_str, t_bl, b_int]
          split
          · try simp only [↓wE_var, ↓wE_cst, ↓wE_glb, ↓wE_tup, ↓wE_lst, ↓wE_dnew, ↓wE_bin, ↓wE_cmp, ↓wE_not, ↓wE_or, ↓wE_and, ↓wE_idx, ↓wE_slc, ↓wE_omit, ↓wE_call, ↓wE_blt, ↓wE_isi, ↓wE_mth, ↓wL_nil, ↓wL_cons, ↓wB_nil, ↓wB_cons, ↓wS_asg, ↓wS_sub, ↓wS_expr, ↓wS_ret, ↓wS_ite, ↓wI_ex, ↓wI_rng, ↓wI_zip, wV, wW, wO_some, o_int, i_add, i_sub, m_48271, m_69621, m_16807, m_2, m_7, r_1000, r_m31, r_26, f_1000, f_997, f_26, p_18, c_lt, c_gt, c_ge, c_str, t_bl, b_int, recv_last, true_and]
            refine app_last (by simp [big]; omega) ?_
            try simp only [↓wE_var, ↓wE_cst, ↓wE_glb, ↓wE_tup, ↓wE_lst, ↓wE_dnew, ↓wE_bin, ↓wE_cmp, ↓wE_not, ↓wE_or, ↓wE_and, ↓wE_idx, ↓wE_slc, ↓wE_omit, ↓wE_call, ↓wE_blt, ↓wE_isi, ↓wE_mth, ↓wL_nil, ↓wL_cons, ↓wB_nil, ↓wB_cons, ↓wS_asg, ↓wS_sub, ↓wS_expr, ↓wS_ret, ↓wS_ite, ↓wI_ex, ↓wI_rng, ↓wI_zip, wV, wW, wO_some, o_int, i_add, i_sub, m_48271, m_69621, m_16807, m_2, m_7, r_1000, r_m31, r_26, f_1000, f_997, f_26, p_18, c_lt, c_gt, c_ge, c_str, t_bl, b_int]
            exact ⟨none, _, _, es ++ [_], rfl, by rw [List.map_append]; rfl, by simp; omega⟩
          · try simp only [↓wE_var, ↓wE_cst, ↓wE_glb, ↓wE_tup, ↓wE_lst, ↓wE_dnew, ↓wE_bin, ↓wE_cmp, ↓wE_not, ↓wE_or, ↓wE_and, ↓wE_idx, ↓wE_slc, ↓wE_omit, ↓wE_call, ↓wE_blt, ↓wE_isi, ↓wE_mth, ↓wL_nil, ↓wL_cons, ↓wB_nil, ↓wB_cons, ↓wS_asg, ↓wS_sub, ↓wS_expr, ↓wS_ret, ↓wS_ite, ↓wI_ex, ↓wI_rng, ↓wI_zip, wV, wW]
            exact ⟨none, _, _, es, rfl, rfl, by omega⟩
        · rintro σ H ⟨b, c, cell, es, rfl, rfl, he⟩
          refine ⟨rfl, ?_⟩
          try simp only [↓wE_var, ↓wE_cst, ↓wE_glb, ↓wE_tup, ↓wE_lst, ↓wE_dnew, ↓wE_bin, ↓wE_cmp, ↓wE_not, ↓wE_or, ↓wE_and, ↓wE_idx, ↓wE_slc, ↓wE_omit, ↓wE_call, ↓wE_blt, ↓wE_isi, ↓wE_mth, ↓wL_nil, ↓wL_cons, ↓wB_nil, ↓wB_cons, ↓wS_asg, ↓wS_sub, ↓wS_expr, ↓wS_ret, ↓wS_ite, ↓wI_ex, ↓wI_rng, ↓wI_zip, wV, wW]
          simp only [It.len, List.length_map, List.length_range] at he
          exact ⟨_, _, _, _, es, rfl, rfl, by omega⟩
      · try simp only [↓wE_var, ↓wE_cst, ↓wE_glb, ↓wE_tup, ↓wE_lst, ↓wE_dnew, ↓wE_bin, ↓wE_cmp, ↓wE_not, ↓wE_or, ↓wE_and, ↓wE_idx, ↓wE_slc, ↓wE_omit, ↓wE_call, ↓wE_blt, ↓wE_isi, ↓wE_mth, ↓wL_nil, ↓wL_cons, ↓wB_nil, ↓wB_cons, ↓wS_asg, ↓wS_sub, ↓wS_expr, ↓wS_ret, ↓wS_ite, ↓wI_ex, ↓wI_rng, ↓wI_zip, wV, wW, wO_some, o_int, i_add, i_sub, m_48271, m_69621, m_16807, m_2, m_7, r_1000, r_m31, r_26, f_1000, f_997, f_26, p_18, c_lt, c_gt, c_ge, c_str, t_bl, b_int]
        refine wS_for (fun t σ H => ∃ (c : Option D) (seed : Int) (es : List Int), σ = [some (.ref s), some (.int 0), some (.int last), some (.ref h.length), some (.int (i : Nat)), some (.int cell), c, some (.int seed)] ∧ H = h ++ [.lst (es.map .int)] ∧ es.length ≤ ds.length + t) ?_
        simp only [↓wE_var, ↓wE_cst, ↓wE_glb, ↓wE_tup, ↓wE_lst, ↓wE_dnew, ↓wE_bin, ↓wE_cmp, ↓wE_not, ↓wE_or, ↓wE_and, ↓wE_idx, ↓wE_slc, ↓wE_omit, ↓wE_call, ↓wE_blt, ↓wE_isi, ↓wE_mth, ↓wL_nil, ↓wL_cons, ↓wB_nil, ↓wB_cons, ↓wS_asg, ↓wS_sub, ↓wS_expr, ↓wS_ret, ↓wS_ite, ↓wI_ex, ↓wI_rng, ↓wI_zip, wV, wW, rng12, wO_some]
        refine ⟨⟨c, _, ds, rfl, rfl, by omega⟩, ?_, ?_⟩
        · rintro t σ H ht ⟨c, seed, es, rfl, rfl, he⟩
          refine ⟨_, rng_nx ht, ?_⟩
          simp only [It.len, List.length_map, List.length_range] at ht
          rw [← wW_eq]
          simp only [↓wE_var, ↓wE_cst, ↓wE_glb, ↓wE_tup, ↓wE_lst, ↓wE_dnew, ↓wE_bin, ↓wE_cmp, ↓wE_not, ↓wE_or, ↓wE_and, ↓wE_idx, ↓wE_slc, ↓wE_omit, ↓wE_call, ↓wE_blt, ↓wE_isi, ↓wE_mth, ↓wL_nil, ↓wL_cons, ↓wB_nil, ↓wB_cons, ↓wS_asg, ↓wS_sub, ↓wS_expr, ↓wS_ret, ↓wS_ite, ↓wI_ex, ↓wI_rng, ↓wI_zip, wV, wW, wO_some, o_int, i_add, i_sub, m_48271, m_69621, m_16807, m_2, m_7, r_1000, r_m31, r_26, f_1000, f_997, f_26, p_18, c_lt, c_gt, c_ge, c_str, t_bl, b_int, recv_last, true_and]
          refine app_last (by simp [big]; omega) ?_
          exact ⟨_, _, es ++ [_], rfl, by rw [List.map_append]; rfl, by simp; omega⟩
        · rintro σ H ⟨c, seed, es, rfl, rfl, he⟩
          refine ⟨rfl, ?_⟩
          try simp only [↓wE_var, ↓wE_cst, ↓wE_glb, ↓wE_tup, ↓wE_lst, ↓wE_dnew, ↓wE_bin, ↓wE_cmp, ↓wE_not, ↓wE_or, ↓wE_and, ↓wE_idx, ↓wE_slc, ↓wE_omit, ↓wE_call, ↓wE_blt, ↓wE_isi, ↓wE_mth, ↓wL_nil, ↓wL_cons, ↓wB_nil, ↓wB_cons, ↓wS_asg, ↓wS_sub, ↓wS_expr, ↓wS_ret, ↓wS_ite, ↓wI_ex, ↓wI_rng, ↓wI_zip, wV, wW]
          simp only [It.len, List.length_map, List.length_range] at he
          exact ⟨_, _, _, _, es, rfl, rfl, by omega⟩
    try simp only [↓wE_var, ↓wE_cst, ↓wE_glb, ↓wE_tup, ↓wE_lst, ↓wE_dnew, ↓wE_bin, ↓wE_cmp, ↓wE_not, ↓wE_or, ↓wE_and, ↓wE_idx, ↓wE_slc, ↓wE_omit, ↓wE_call, ↓wE_blt, ↓wE_isi, ↓wE_mth, ↓wL_nil, ↓wL_cons, ↓wB_nil, ↓wB_cons, ↓wS_asg, ↓wS_sub, ↓wS_expr, ↓wS_ret, ↓wS_ite, ↓wI_ex, ↓wI_rng, ↓wI_zip, wV, wW, wO_some, o_int, i_add, i_sub, m_48271, m_69621, m_16807, m_2, m_7, r_1000, r_m31, r_26, f_1000, f_997, f_26, p_18, c_lt, c_gt, c_ge, c_str, t_bl, b_int]
    split
    · try simp only [↓wE_var, ↓wE_cst, ↓wE_glb, ↓wE_tup, ↓wE_lst, ↓wE_dnew, ↓wE_bin, ↓wE_cmp, ↓wE_not, ↓wE_or, ↓wE_and, ↓wE_idx, ↓wE_slc, ↓wE_omit, ↓wE_call, ↓wE_blt, ↓wE_isi, ↓wE_mth, ↓wL_nil, ↓wL_cons, ↓wB_nil, ↓wB_cons, ↓wS_asg, ↓wS_sub, ↓wS_expr, ↓wS_ret, ↓wS_ite, ↓wI_ex, ↓wI_rng, ↓wI_zip, wV, wW, wO_some, o_int, i_add, i_sub, m_48271, m_69621, m_16807, m_2, m_7, r_1000, r_m31, r_26, f_1000, f_997, f_26, p_18, c_lt, c_gt, c_ge, c_str, t_bl, b_int]
      exact rest _
    · try simp only [↓wE_var, ↓wE_cst, ↓wE_glb, ↓wE_tup, ↓wE_lst, ↓wE_dnew, ↓wE_bin, ↓wE_cmp, ↓wE_not, ↓wE_or, ↓wE_and, ↓wE_idx, ↓wE_slc, ↓wE_omit, ↓wE_call, ↓wE_blt, ↓wE_isi, ↓wE_mth, ↓wL_nil, ↓wL_cons, ↓wB_nil, ↓wB_cons, ↓wS_asg, ↓wS_sub, ↓wS_expr, ↓wS_ret, ↓wS_ite, ↓wI_ex, ↓wI_rng, ↓wI_zip, wV, wW, wO_some, o_int, i_add, i_sub, m_48271, m_69621, m_16807, m_2, m_7, r_1000, r_m31, r_26, f_1000, f_997, f_26, p_18, c_lt, c_gt, c_ge, c_str, t_bl, b_int]
      exact rest _
  · rintro σ H ⟨a, b, c, d, ds, rfl, rfl, hd⟩
    refine ⟨rfl, ?_⟩
    try simp only [↓wE_var, ↓wE_cst, ↓wE_glb, ↓wE_tup, ↓wE_lst, ↓wE_dnew, ↓wE_bin, ↓wE_cmp, ↓wE_not, ↓wE_or, ↓wE_and, ↓wE_idx, ↓wE_slc, ↓wE_omit, ↓wE_call, ↓wE_blt, ↓wE_isi, ↓wE_mth, ↓wL_nil, ↓wL_cons, ↓wB_nil, ↓wB_cons, ↓wS_asg, ↓wS_sub, ↓wS_expr, ↓wS_ret, ↓wS_ite, ↓wI_ex, ↓wI_rng, ↓wI_zip, wV, wW]
    exact q ds
end
end MP
namespace MP
open PySem (Str)
inductive Fm where
  | ltr (s : Str) | neg (a : Fm) | imp (a b : Fm)
def Fm.d : Fm → D
  | .ltr s => .tup [.str "letter", .str s]
  | .neg a => .tup [.str "not", a.d]
  | .imp a b => .tup [.str "if", a.d, b.d]
def Fm.dep : Fm → Nat
  | .ltr _ => 1
  | .neg a => a.dep + 1
  | .imp a b => max a.dep b.dep + 1
def Fm.lvs : Fm → Nat
  | .ltr _ => 1
  | .neg a => a.lvs
  | .imp a b => a.lvs + b.lvs
def Fm.map (g : Str → Str) : Fm → Fm
  | .ltr s => .ltr (g s)
  | .neg a => .neg (a.map g)
  | .imp a b => .imp (a.map g) (b.map g)
theorem Fm.map_dep (g : Str → Str) : ∀ f : Fm, (f.map g).dep = f.dep
  | .ltr _ => rfl
  | .neg a => by simp only [Fm.map, Fm.dep, Fm.map_dep g a]
  | .imp a b => by simp only [Fm.map, Fm.dep, Fm.map_dep g a, Fm.map_dep g b]
theorem Fm.map_lvs (g : Str → Str) : ∀ f : Fm, (f.map g).lvs = f.lvs
  | .ltr _ => rfl
  | .neg a => by simp only [Fm.map, Fm.lvs, Fm.map_lvs g a]
  | .imp a b => by simp only [Fm.map, Fm.lvs, Fm.map_lvs g a, Fm.map_lvs g b]
def Fm.parts : Fm → List Fm
  | .ltr _ => []
  | .neg a => [a]
  | .imp a b => [a, b]
def Fm.hd : Fm → Str
  | .ltr _ => "letter"
  | .neg _ => "not"
  | .imp _ _ => "if"
def Fm.isL : Fm → Bool
  | .ltr _ => true
  | _ => false
theorem Fm.d_parts : ∀ {f : Fm}, f.isL = false → f.d = .tup (.str f.hd :: f.parts.map Fm.d)
  | .neg _, _ => rfl
  | .imp _ _, _ => rfl
theorem Fm.hd_ne : ∀ {f : Fm}, f.isL = false → (f.hd == ("letter" : Str)) = false
  | .neg _, _ => by show (("not" : Str) == ("letter" : Str)) = false; decide
  | .imp _ _, _ => by show (("if" : Str) == ("letter" : Str)) = false; decide
theorem Fm.part_dep : ∀ {f p : Fm}, p ∈ f.parts → p.dep + 1 ≤ f.dep
  | .neg a, p, h => by simp [Fm.parts] at h; subst h; simp [Fm.dep]
  | .imp a b, p, h => by
    simp [Fm.parts] at h
    rcases h with rfl | rfl <;> simp [Fm.dep] <;> omega
theorem Fm.parts_le : ∀ f : Fm, f.parts.length ≤ 2
  | .ltr _ => by simp [Fm.parts]
  | .neg _ => by simp [Fm.parts]
  | .imp _ _ => by simp [Fm.parts]
def putD (kvs : List (D × D)) : Fm → D
  | .ltr s => (kFind kvs (.str s)).getD (.tup [.str "letter", .str s])
  | .neg a => .tup [.str "not", putD kvs a]
  | .imp a b => .tup [.str "if", putD kvs a, putD kvs b]
theorem putD_parts {kvs : List (D × D)} : ∀ {f : Fm}, f.isL = false → putD kvs f = .tup (.str f.hd :: f.parts.map (putD kvs))
  | .neg _, _ => rfl
  | .imp _ _, _ => rfl
theorem ix0 {x : D} {r : List D} {h : HI} : idxD (.tup (x :: r)) (.int 0) h = some (x, h) := by
  simp [idxD, atD, ixAt]
theorem ix1 {x y : D} {r : List D} {h : HI} : idxD (.tup (x :: y :: r)) (.int 1) h = some (y, h) := by
  have : (1 : Int) < ((r.length : Nat) : Int) + 1 + 1 := by omega
  simp [idxD, atD, ixAt, this]
theorem sl1 {x : D} {r : List D} {h : HI} : slcD (.tup (x :: r)) (some 1) none h = some (.tup r, h) := by
  simp [slcD, cut, clip]
theorem it_tup {ds : List D} {h : HI} : itOf (.tup ds) h = some (.seq ds) := rfl
theorem po_o {d : D} : partOf true d = some none := rfl
theorem po_i {i : Int} : partOf false (.int i) = some (some i) := rfl
theorem om_o : isOmit .omit = true := rfl
theorem om_c {d : D} : isOmit (.cst d) = false := rfl
theorem om_v {i : Nat} : isOmit (.var i) = false := rfl
theorem cat_t {a b : List D} {h : HI} (hl : a.length + b.length ≤ big) : binD .add (.tup a) (.tup b) h = some (.tup (a ++ b), h) := by
  simp [binD, hl]
theorem ll : (("letter" : Str) == ("letter" : Str)) = true := by decide
theorem rg {h : HI} {t : Nat} {kvs : List (D × D)} (e : h[t]? = some (.dic kvs)) : recv .get (.ref t) h = true := by simp [recv, e]
theorem gt {h : HI} {t : Nat} {kvs : List (D × D)} {s : Str} {d : D} (e : h[t]? = some (.dic kvs)) : mthD .get (.ref t) [.str s, d] h = some ((kFind kvs (.str s)).getD d, h) := by simp [mthD, e, D.key]
section
variable {P : List Def} {wf : Nat} {h : HI}
def bPut (ip : Nat) : MSs := (.cons (.ite (.cmp .eq (.idx (.var 0) (.cst (.int 0))) (.cst (.str "letter"))) (.cons (.ret (.mth .get (.var 1) (.cons (.idx (.var 0) (.cst (.int 1))) (.cons (.var 0) .nil)))) .nil) .nil) (.cons (.ret (.bin .add (.tup (.cons (.idx (.var 0) (.cst (.int 0))) .nil)) (.comp .gtup [2] (.one (.nm 2) (.ex (.slc (.var 0) (.cst (.int 1)) .omit)) (.cst (.bl true)) (.call ip (.cons (.var 2) (.cons (.var 1) .nil))) .omit)))) .nil))
def bLput (ip : Nat) : MSs := (.cons (.ite (.cmp .eq (.idx (.var 0) (.cst (.int 0))) (.cst (.str "letter"))) (.cons (.ret (.mth .get (.var 1) (.cons (.idx (.var 0) (.cst (.int 1))) (.cons (.var 0) .nil)))) .nil) .nil) (.cons (.ret (.bin .add (.tup (.cons (.idx (.var 0) (.cst (.int 0))) .nil)) (.blt .tuple (.cons (.comp .lst [2] (.one (.nm 2) (.ex (.slc (.var 0) (.cst (.int 1)) .omit)) (.cst (.bl true)) (.call ip (.cons (.var 2) (.cons (.var 1) .nil))) .omit)) .nil)))) .nil))
theorem take_snoc {α β : Type} {g : α → β} {l : List α} {i : Nat} {x : α} (e : l[i]? = some x) : (l.take (i + 1)).map g = (l.take i).map g ++ [g x] := by
  rw [List.take_add_one, e]
  simp
theorem seq_nx {α : Type} {g : α → D} {l : List α} {i : Nat} {h : HI} (hi : i < l.length) : (It.seq (l.map g)).nx i h = some (g l[i]) := by simp [It.nx, hi]
theorem run_put {ip t : Nat} {kvs : List (D × D)} (hP : P[ip]? = some ⟨2, 3, bPut ip⟩) (ht : h[t]? = some (.dic kvs)) : ∀ (j : Nat) (f : Fm), f.dep ≤ j → ∀ {Q : D × HI → Prop}, Q (putD kvs f, h) → wO (callI P wf j ip [f.d, .ref t] h) Q
  | 0, f, hd, Q, q => by cases f <;> simp [Fm.dep] at hd
  | j + 1, f, hd, Q, q => by
    refine wC hP rfl ?_
    cases c : f.isL with
    | true =>
      cases f with
      | ltr s =>
        simp only [bPut, startD, List.map_cons, List.map_nil, List.length_cons, List.length_nil, List.replicate, List.cons_append, List.nil_append, Fm.d, ↓wE_var, ↓wE_cst, ↓wE_glb, ↓wE_tup, ↓wE_lst, ↓wE_dnew, ↓wE_bin, ↓wE_cmp, ↓wE_not, ↓wE_or, ↓wE_and, ↓wE_idx, ↓wE_slc, ↓wE_omit, ↓wE_call, ↓wE_blt, ↓wE_isi, ↓wE_mth, ↓wL_nil, ↓wL_cons, ↓wB_nil, ↓wB_cons, ↓wS_asg, ↓wS_sub, ↓wS_expr, ↓wS_ret, ↓wS_ite, ↓wI_ex, ↓wI_rng, ↓wI_zip, wV, wW, wO_some, o_int, i_add, i_sub, m_48271, m_69621, m_16807, m_2, m_7, r_1000, r_m31, r_26, f_1000, f_997, f_26, p_18, c_lt, c_gt, c_ge, c_str, t_bl, b_int, ix0, ix1, ll, if_true, rg ht, gt ht, true_and]
        exact q
      | _ => cases c
    | false =>
      rw [Fm.d_parts c]
      simp only [bPut, startD, List.map_cons, List.map_nil, List.length_cons, List.length_nil, List.replicate, List.cons_append, List.nil_append, ↓wE_var, ↓wE_cst, ↓wE_glb, ↓wE_tup, ↓wE_lst, ↓wE_dnew, ↓wE_bin, ↓wE_cmp, ↓wE_not, ↓wE_or, ↓wE_and, ↓wE_idx, ↓wE_slc, ↓wE_omit, ↓wE_call, ↓wE_blt, ↓wE_isi, ↓wE_mth, ↓wL_nil, ↓wL_cons, ↓wB_nil, ↓wB_cons, ↓wS_asg, ↓wS_sub, ↓wS_expr, ↓wS_ret, ↓wS_ite, ↓wI_ex, ↓wI_rng, ↓wI_zip, wV, wW, wO_some, o_int, i_add, i_sub, m_48271, m_69621, m_16807, m_2, m_7, r_1000, r_m31, r_26, f_1000, f_997, f_26, p_18, c_lt, c_gt, c_ge, c_str, t_bl, b_int, ix0, Fm.hd_ne c, Bool.false_eq_true, if_false]
      refine ⟨by decide, ?_⟩
      refine wE_gt (fun i acc H => h = H ∧ acc = (f.parts.take i).map (putD kvs)) ?_
      simp only [↓wE_var, ↓wE_cst, ↓wE_glb, ↓wE_tup, ↓wE_lst, ↓wE_dnew, ↓wE_bin, ↓wE_cmp, ↓wE_not, ↓wE_or, ↓wE_and, ↓wE_idx, ↓wE_slc, ↓wE_omit, ↓wE_call, ↓wE_blt, ↓wE_isi, ↓wE_mth, ↓wL_nil, ↓wL_cons, ↓wB_nil, ↓wB_cons, ↓wS_asg, ↓wS_sub, ↓wS_expr, ↓wS_ret, ↓wS_ite, ↓wI_ex, ↓wI_rng, ↓wI_zip, wV, wW, wO_some, o_int, i_add, i_sub, m_48271, m_69621, m_16807, m_2, m_7, r_1000, r_m31, r_26, f_1000, f_997, f_26, p_18, c_lt, c_gt, c_ge, c_str, t_bl, b_int, om_c, om_o, po_i, po_o, sl1, it_tup]
      refine ⟨by simp, ?_, ?_⟩
      · rintro i acc H hi ⟨rfl, rfl⟩
        simp only [It.len, List.length_map] at hi
        refine ⟨_, seq_nx hi, ?_⟩
        rw [← wW_eq]
        simp only [wipeD, List.set, ↓wE_var, ↓wE_cst, ↓wE_glb, ↓wE_tup, ↓wE_lst, ↓wE_dnew, ↓wE_bin, ↓wE_cmp, ↓wE_not, ↓wE_or, ↓wE_and, ↓wE_idx, ↓wE_slc, ↓wE_omit, ↓wE_call, ↓wE_blt, ↓wE_isi, ↓wE_mth, ↓wL_nil, ↓wL_cons, ↓wB_nil, ↓wB_cons, ↓wS_asg, ↓wS_sub, ↓wS_expr, ↓wS_ret, ↓wS_ite, ↓wI_ex, ↓wI_rng, ↓wI_zip, wV, wW, wO_some, o_int, i_add, i_sub, m_48271, m_69621, m_16807, m_2, m_7, r_1000, r_m31, r_26, f_1000, f_997, f_26, p_18, c_lt, c_gt, c_ge, c_str, t_bl, b_int, if_true]
        refine run_put hP ht j _ (by have := Fm.part_dep (List.getElem_mem hi); omega) ?_
        refine ⟨?_, rfl, (take_snoc (List.getElem?_eq_getElem hi)).symm⟩
        have := Fm.parts_le f
        simp only [List.length_map, List.length_take, big]
        omega
      · rintro acc H ⟨rfl, rfl⟩
        refine ⟨rfl, ?_⟩
        have hl : (f.parts.take (It.seq (f.parts.map Fm.d)).len) = f.parts := List.take_of_length_le (by simp [It.len])
        rw [hl, cat_t (by have := Fm.parts_le f; simp [big]; omega), wO_some]
        show Q _
        rw [putD_parts c] at q
        exact q
def Pre (h h' : HI) : Prop := ∀ (n : Nat) (o : HB), h[n]? = some o → h'[n]? = some o
theorem Pre.refl : Pre h h := fun _ _ e => e
theorem Pre.trans {h1 h2 h3 : HI} (a : Pre h1 h2) (b : Pre h2 h3) : Pre h1 h3 := fun n o e => b n o (a n o e)
theorem Pre.app (g : HI) : Pre h (h ++ g) := fun n o e => grow_get e g
theorem Pre.le {h' : HI} (a : Pre h h') : h.length ≤ h'.length := by
  rcases Nat.eq_zero_or_pos h.length with z | z
  · omega
  · have e : h[h.length - 1]? = some (h[h.length - 1]'(by omega)) := List.getElem?_eq_getElem _
    have := a _ _ e
    rcases Nat.lt_or_ge (h.length - 1) h'.length with q | q
    · omega
    · rw [List.getElem?_eq_none q] at this; cases this
theorem Pre.set {h' : HI} (a : Pre h h') {n : Nat} {o : HB} (hn : h.length ≤ n) : Pre h (h'.set n o) := fun m u e => by
  have hm : m < h.length := by
    rcases Nat.lt_or_ge m h.length with z | z
    · exact z
    · rw [List.getElem?_eq_none z] at e; cases e
  rw [List.getElem?_set_ne (by omega)]
  exact a m u e
theorem tp {h : HI} {n : Nat} {ds : List D} (e : h[n]? = some (.lst ds)) : bltD .tuple [.ref n] h = some (.tup ds, h) := by simp [bltD, e]
theorem run_lput {ip t : Nat} {kvs : List (D × D)} (hP : P[ip]? = some ⟨2, 3, bLput ip⟩) : ∀ (j : Nat) (f : Fm) {h : HI}, h[t]? = some (.dic kvs) → f.dep ≤ j → ∀ {Q : D × HI → Prop}, (∀ h', Pre h h' → Q (putD kvs f, h')) → wO (callI P wf j ip [f.d, .ref t] h) Q
  | 0, f, h, ht, hd, Q, q => by cases f <;> simp [Fm.dep] at hd
  | j + 1, f, h, ht, hd, Q, q => by
    refine wC hP rfl ?_
    cases c : f.isL with
    | true =>
      cases f with
      | ltr s =>
        simp only [bLput, startD, List.map_cons, List.map_nil, List.length_cons, List.length_nil, List.replicate, List.cons_append, List.nil_append, Fm.d, ↓wE_var, ↓wE_cst, ↓wE_glb, ↓wE_tup, ↓wE_lst, ↓wE_dnew, ↓wE_bin, ↓wE_cmp, ↓wE_not, ↓wE_or, ↓wE_and, ↓wE_idx, ↓wE_slc, ↓wE_omit, ↓wE_call, ↓wE_blt, ↓wE_isi, ↓wE_mth, ↓wL_nil, ↓wL_cons, ↓wB_nil, ↓wB_cons, ↓wS_asg, ↓wS_sub, ↓wS_expr, ↓wS_ret, ↓wS_ite, ↓wI_ex, ↓wI_rng, ↓wI_zip, wV, wW, wO_some, o_int, i_add, i_sub, m_48271, m_69621, m_16807, m_2, m_7, r_1000, r_m31, r_26, f_1000, f_997, f_26, p_18, c_lt, c_gt, c_ge, c_str, t_bl, b_int, ix0, ix1, ll, if_true, rg ht, gt ht, true_and]
        exact q _ Pre.refl
      | _ => cases c
    | false =>
      rw [Fm.d_parts c]
      simp only [bLput, startD, List.map_cons, List.map_nil, List.length_cons, List.length_nil, List.replicate, List.cons_append, List.nil_append, ↓wE_var, ↓wE_cst, ↓wE_glb, ↓wE_tup, ↓wE_lst, ↓wE_dnew, ↓wE_bin, ↓wE_cmp, ↓wE_not, ↓wE_or, ↓wE_and, ↓wE_idx, ↓wE_slc, ↓wE_omit, ↓wE_call, ↓wE_blt, ↓wE_isi, ↓wE_mth, ↓wL_nil, ↓wL_cons, ↓wB_nil, ↓wB_cons, ↓wS_asg, ↓wS_sub, ↓wS_expr, ↓wS_ret, ↓wS_ite, ↓wI_ex, ↓wI_rng, ↓wI_zip, wV, wW, wO_some, o_int, i_add, i_sub, m_48271, m_69621, m_16807, m_2, m_7, r_1000, r_m31, r_26, f_1000, f_997, f_26, p_18, c_lt, c_gt, c_ge, c_str, t_bl, b_int, ix0, Fm.hd_ne c, Bool.false_eq_true, if_false]
      refine ⟨by decide, ?_⟩
      refine wE_lc (fun n i acc H => Pre h H ∧ h.length ≤ n ∧ acc = (f.parts.take i).map (putD kvs)) ?_
      simp only [↓wE_var, ↓wE_cst, ↓wE_glb, ↓wE_tup, ↓wE_lst, ↓wE_dnew, ↓wE_bin, ↓wE_cmp, ↓wE_not, ↓wE_or, ↓wE_and, ↓wE_idx, ↓wE_slc, ↓wE_omit, ↓wE_call, ↓wE_blt, ↓wE_isi, ↓wE_mth, ↓wL_nil, ↓wL_cons, ↓wB_nil, ↓wB_cons, ↓wS_asg, ↓wS_sub, ↓wS_expr, ↓wS_ret, ↓wS_ite, ↓wI_ex, ↓wI_rng, ↓wI_zip, wV, wW, wO_some, o_int, i_add, i_sub, m_48271, m_69621, m_16807, m_2, m_7, r_1000, r_m31, r_26, f_1000, f_997, f_26, p_18, c_lt, c_gt, c_ge, c_str, t_bl, b_int, om_c, om_o, po_i, po_o, sl1, it_tup]
      refine ⟨⟨Pre.app _, by simp, by simp⟩, ?_, ?_⟩
      · rintro i acc H hi ⟨hp, hn, rfl⟩ e
        simp only [It.len, List.length_map] at hi
        refine ⟨_, seq_nx hi, ?_⟩
        rw [← wW_eq]
        simp only [wipeD, List.set, ↓wE_var, ↓wE_cst, ↓wE_glb, ↓wE_tup, ↓wE_lst, ↓wE_dnew, ↓wE_bin, ↓wE_cmp, ↓wE_not, ↓wE_or, ↓wE_and, ↓wE_idx, ↓wE_slc, ↓wE_omit, ↓wE_call, ↓wE_blt, ↓wE_isi, ↓wE_mth, ↓wL_nil, ↓wL_cons, ↓wB_nil, ↓wB_cons, ↓wS_asg, ↓wS_sub, ↓wS_expr, ↓wS_ret, ↓wS_ite, ↓wI_ex, ↓wI_rng, ↓wI_zip, wV, wW, wO_some, o_int, i_add, i_sub, m_48271, m_69621, m_16807, m_2, m_7, r_1000, r_m31, r_26, f_1000, f_997, f_26, p_18, c_lt, c_gt, c_ge, c_str, t_bl, b_int, if_true]
        refine run_lput hP j _ (hp _ _ ht) (by have := Fm.part_dep (List.getElem_mem hi); omega) fun h' hp' => ?_
        refine ⟨hp' _ _ e, ?_, (hp.trans hp').set (Nat.le_refl _), hn, (take_snoc (List.getElem?_eq_getElem hi)).symm⟩
        have := Fm.parts_le f
        simp only [List.length_map, List.length_take, big]
        omega
      · rintro acc H ⟨hp, hn, rfl⟩ e
        refine ⟨rfl, ?_⟩
        have hl : (f.parts.take (It.seq (f.parts.map Fm.d)).len) = f.parts := List.take_of_length_le (by simp [It.len])
        rw [hl] at e
        rw [tp e, wO_some]
        show wO (binD .add _ _ _) _
        rw [cat_t (by have := Fm.parts_le f; simp [big]; omega), wO_some]
        show Q _
        have := q H hp
        rw [putD_parts c] at this
        exact this
end
end MP
namespace MP
open PySem (Str)
section
variable {P : List Def} {wf : Nat}
def Fm.items : Fm → List D
  | .ltr s => [.str "letter", .str s]
  | .neg a => [.str "not", a.d]
  | .imp a b => [.str "if", a.d, b.d]
theorem Fm.d_items : ∀ f : Fm, f.d = .tup f.items
  | .ltr _ => rfl
  | .neg _ => rfl
  | .imp _ _ => rfl
theorem Fm.item : ∀ {f : Fm} {x : D}, x ∈ f.items → (∃ s, x = .str s) ∨ ∃ p : Fm, x = p.d ∧ p.dep + 1 ≤ f.dep
  | .ltr s, x, h => by
    simp [Fm.items] at h
    rcases h with rfl | rfl
    · exact .inl ⟨_, rfl⟩
    · exact .inl ⟨_, rfl⟩
  | .neg a, x, h => by
    simp [Fm.items] at h
    rcases h with rfl | rfl
    · exact .inl ⟨_, rfl⟩
    · exact .inr ⟨a, rfl, by simp [Fm.dep]⟩
  | .imp a b, x, h => by
    simp [Fm.items] at h
    rcases h with rfl | rfl | rfl
    · exact .inl ⟨_, rfl⟩
    · exact .inr ⟨a, rfl, by simp [Fm.dep]; omega⟩
    · exact .inr ⟨b, rfl, by simp [Fm.dep]; omega⟩
theorem Fm.items_le : ∀ f : Fm, f.items.length ≤ 3
  | .ltr _ => by simp [Fm.items]
  | .neg _ => by simp [Fm.items]
  | .imp _ _ => by simp [Fm.items]
def bSame (is : Nat) : MSs := (.cons (.ite (.isi .tup (.var 1)) (.cons (.ite (.or (.not (.isi .tup (.var 0))) (.cmp .ne (.blt .len (.cons (.var 0) .nil)) (.blt .len (.cons (.var 1) .nil)))) (.cons (.ret (.cst (.bl false))) .nil) .nil) (.cons (.fr (.nm 2) (.rng (.cons (.blt .len (.cons (.var 1) .nil)) .nil)) (.cons (.ite (.not (.call is (.cons (.idx (.var 0) (.var 2)) (.cons (.idx (.var 1) (.var 2)) .nil)))) (.cons (.ret (.cst (.bl false))) .nil) .nil) .nil)) (.cons (.ret (.cst (.bl true))) .nil))) .nil) (.cons (.ite (.cmp .isN (.var 1) (.cst .non)) (.cons (.ret (.cmp .isN (.var 0) (.cst .non))) .nil) .nil) (.cons (.ite (.isi .bool (.var 1)) (.cons (.ret (.and (.isi .bool (.var 0)) (.cmp .eq (.var 0) (.var 1)))) .nil) .nil) (.cons (.ite (.isi .int (.var 1)) (.cons (.ret (.and (.isi .int (.var 0)) (.and (.not (.isi .bool (.var 0))) (.cmp .eq (.var 0) (.var 1))))) .nil) .nil) (.cons (.ret (.and (.isi .str (.var 0)) (.cmp .eq (.var 0) (.var 1)))) .nil)))))
theorem h_st {s : Str} {h : HI} : hasTy .tup (.str s) h = some false := rfl
theorem h_sb {s : Str} {h : HI} : hasTy .bool (.str s) h = some false := rfl
theorem h_si {s : Str} {h : HI} : hasTy .int (.str s) h = some false := rfl
theorem h_ss {s : Str} {h : HI} : hasTy .str (.str s) h = some true := rfl
theorem h_tt {ds : List D} {h : HI} : hasTy .tup (.tup ds) h = some true := rfl
theorem n_str {s : Str} {h : HI} : cmpB .isN (.str s) .non h = some false := rfl
theorem l_tup {ds : List D} {h : HI} : bltD .len [.tup ds] h = some (.int ds.length, h) := rfl
theorem ne_int {i : Int} {h : HI} : cmpB .ne (.int i) (.int i) h = some false := by simp [cmpB, D.eqv]
theorem run_same {is : Nat} {h : HI} (hP : P[is]? = some ⟨2, 3, bSame is⟩) : ∀ (j : Nat), (∀ (s : Str) {Q : D × HI → Prop}, 1 ≤ j → Q (.bl true, h) → wO (callI P wf j is [.str s, .str s] h) Q) ∧
    ∀ (f : Fm) {Q : D × HI → Prop}, f.dep + 1 ≤ j → Q (.bl true, h) → wO (callI P wf j is [f.d, f.d] h) Q
  | 0 => ⟨fun s Q hj _ => by omega, fun f Q hj _ => by omega⟩
  | j + 1 => by
    have ih := run_same (h := h) hP j
    refine ⟨fun s Q _ q => ?_, fun f Q hj q => ?_⟩
    · refine wC hP rfl ?_
      simp only [bSame, startD, List.map_cons, List.map_nil, List.length_cons, List.length_nil, List.replicate, List.cons_append, List.nil_append, ↓wE_var, ↓wE_cst, ↓wE_glb, ↓wE_tup, ↓wE_lst, ↓wE_dnew, ↓wE_bin, ↓wE_cmp, ↓wE_not, ↓wE_or, ↓wE_and, ↓wE_idx, ↓wE_slc, ↓wE_omit, ↓wE_call, ↓wE_blt, ↓wE_isi, ↓wE_mth, ↓wL_nil, ↓wL_cons, ↓wB_nil, ↓wB_cons, ↓wS_asg, ↓wS_sub, ↓wS_expr, ↓wS_ret, ↓wS_ite, ↓wI_ex, ↓wI_rng, ↓wI_zip, wV, wW, wO_some, o_int, i_add, i_sub, m_48271, m_69621, m_16807, m_2, m_7, r_1000, r_m31, r_26, f_1000, f_997, f_26, p_18, c_lt, c_gt, c_ge, c_str, t_bl, b_int, h_st, h_sb, h_si, h_ss, n_str, Bool.false_eq_true, if_false, if_true, beq_self_eq_true]
      exact q
    · refine wC hP rfl ?_
      rw [Fm.d_items]
      simp only [bSame, startD, List.map_cons, List.map_nil, List.length_cons, List.length_nil, List.replicate, List.cons_append, List.nil_append, ↓wE_var, ↓wE_cst, ↓wE_glb, ↓wE_tup, ↓wE_lst, ↓wE_dnew, ↓wE_bin, ↓wE_cmp, ↓wE_not, ↓wE_or, ↓wE_and, ↓wE_idx, ↓wE_slc, ↓wE_omit, ↓wE_call, ↓wE_blt, ↓wE_isi, ↓wE_mth, ↓wL_nil, ↓wL_cons, ↓wB_nil, ↓wB_cons, ↓wS_asg, ↓wS_sub, ↓wS_expr, ↓wS_ret, ↓wS_ite, ↓wI_ex, ↓wI_rng, ↓wI_zip, wV, wW, wO_some, o_int, i_add, i_sub, m_48271, m_69621, m_16807, m_2, m_7, r_1000, r_m31, r_26, f_1000, f_997, f_26, p_18, c_lt, c_gt, c_ge, c_str, t_bl, b_int, h_tt, if_true, Bool.not_true, Bool.false_eq_true, if_false, l_tup, ne_int]
      refine wS_for (fun i σ H => (∃ k, σ = [some (.tup f.items), some (.tup f.items), k]) ∧ h = H) ?_
      have := Fm.items_le f
      simp only [↓wE_var, ↓wE_cst, ↓wE_glb, ↓wE_tup, ↓wE_lst, ↓wE_dnew, ↓wE_bin, ↓wE_cmp, ↓wE_not, ↓wE_or, ↓wE_and, ↓wE_idx, ↓wE_slc, ↓wE_omit, ↓wE_call, ↓wE_blt, ↓wE_isi, ↓wE_mth, ↓wL_nil, ↓wL_cons, ↓wB_nil, ↓wB_cons, ↓wS_asg, ↓wS_sub, ↓wS_expr, ↓wS_ret, ↓wS_ite, ↓wI_ex, ↓wI_rng, ↓wI_zip, wV, wW, wO_some, o_int, i_add, i_sub, m_48271, m_69621, m_16807, m_2, m_7, r_1000, r_m31, r_26, f_1000, f_997, f_26, p_18, c_lt, c_gt, c_ge, c_str, t_bl, b_int, l_tup, rng1 (show f.items.length ≤ 1000000 by omega)]
      refine ⟨⟨⟨none, rfl⟩, by simp⟩, ?_, ?_⟩
      · rintro i σ H hi ⟨⟨k, rfl⟩, rfl⟩
        refine ⟨_, rng_nx hi, ?_⟩
        simp only [It.len, List.length_map, List.length_range] at hi
        rw [← wW_eq]
        have e : atD f.items (i : Nat) = some f.items[i] := at_nat (List.getElem?_eq_getElem hi)
        have ex : idxD (.tup f.items) (.int (i : Nat)) h = some (f.items[i], h) := by simp [idxD, e]
        simp only [↓wE_var, ↓wE_cst, ↓wE_glb, ↓wE_tup, ↓wE_lst, ↓wE_dnew, ↓wE_bin, ↓wE_cmp, ↓wE_not, ↓wE_or, ↓wE_and, ↓wE_idx, ↓wE_slc, ↓wE_omit, ↓wE_call, ↓wE_blt, ↓wE_isi, ↓wE_mth, ↓wL_nil, ↓wL_cons, ↓wB_nil, ↓wB_cons, ↓wS_asg, ↓wS_sub, ↓wS_expr, ↓wS_ret, ↓wS_ite, ↓wI_ex, ↓wI_rng, ↓wI_zip, wV, wW, wO_some, o_int, i_add, i_sub, m_48271, m_69621, m_16807, m_2, m_7, r_1000, r_m31, r_26, f_1000, f_997, f_26, p_18, c_lt, c_gt, c_ge, c_str, t_bl, b_int, ex]
        have fin : wO (callI P wf j is [f.items[i], f.items[i]] h) (fun r => r = (.bl true, h)) := by
          rcases Fm.item (List.getElem_mem hi) with ⟨s, es⟩ | ⟨p, ep, hp⟩
          · rw [es]
            exact ih.1 s (by cases f <;> simp [Fm.dep] at hj <;> omega) rfl
          · rw [ep]
            exact ih.2 p (by omega) rfl
        refine wO_imp fin ?_
        rintro _ rfl
        simp only [↓wE_var, ↓wE_cst, ↓wE_glb, ↓wE_tup, ↓wE_lst, ↓wE_dnew, ↓wE_bin, ↓wE_cmp, ↓wE_not, ↓wE_or, ↓wE_and, ↓wE_idx, ↓wE_slc, ↓wE_omit, ↓wE_call, ↓wE_blt, ↓wE_isi, ↓wE_mth, ↓wL_nil, ↓wL_cons, ↓wB_nil, ↓wB_cons, ↓wS_asg, ↓wS_sub, ↓wS_expr, ↓wS_ret, ↓wS_ite, ↓wI_ex, ↓wI_rng, ↓wI_zip, wV, wW, wO_some, o_int, i_add, i_sub, m_48271, m_69621, m_16807, m_2, m_7, r_1000, r_m31, r_26, f_1000, f_997, f_26, p_18, c_lt, c_gt, c_ge, c_str, t_bl, b_int, Bool.not_true, Bool.false_eq_true, if_false]
        exact ⟨⟨_, rfl⟩, trivial⟩
      · rintro σ H ⟨⟨k, rfl⟩, rfl⟩
        refine ⟨rfl, ?_⟩
        try simp only [↓wE_var, ↓wE_cst, ↓wE_glb, ↓wE_tup, ↓wE_lst, ↓wE_dnew, ↓wE_bin, ↓wE_cmp, ↓wE_not, ↓wE_or, ↓wE_and, ↓wE_idx, ↓wE_slc, ↓wE_omit, ↓wE_call, ↓wE_blt, ↓wE_isi, ↓wE_mth, ↓wL_nil, ↓wL_cons, ↓wB_nil, ↓wB_cons, ↓wS_asg, ↓wS_sub, ↓wS_expr, ↓wS_ret, ↓wS_ite, ↓wI_ex, ↓wI_rng, ↓wI_zip, wV, wW]
        exact q
def BoxOk (h : HI) (b : Nat) : Prop := ∃ (dr : Nat) (ds : List Int) (c : Nat), h[b]? = some (.lst [.ref dr, .int c]) ∧ h[dr]? = some (.lst (ds.map .int))
def Kp (b : Nat) (h h' : HI) : Prop := ∀ (n : Nat) (o : HB), n ≠ b → h[n]? = some o → h'[n]? = some o
theorem Kp.refl {b : Nat} {h : HI} : Kp b h h := fun _ _ _ e => e
theorem Kp.trans {b : Nat} {h h1 h2 : HI} (x : Kp b h h1) (y : Kp b h1 h2) : Kp b h h2 := fun n o hn e => y n o hn (x n o hn e)
theorem Pre.kp {b : Nat} {h h' : HI} (p : Pre h h') : Kp b h h' := fun n o _ e => p n o e
theorem BoxOk.pre {b : Nat} {h h' : HI} (x : BoxOk h b) (p : Pre h h') : BoxOk h' b := by
  obtain ⟨dr, ds, c, e1, e2⟩ := x
  exact ⟨dr, ds, c, p _ _ e1, p _ _ e2⟩
def bDraw : MSs := (.cons (.asg (.nm 2) (.idx (.var 0) (.cst (.int 1)))) (.cons (.sub (.var 0) (.cst (.int 1)) (.bin .add (.var 2) (.cst (.int 1)))) (.cons (.ite (.cmp .lt (.var 2) (.blt .len (.cons (.idx (.var 0) (.cst (.int 0))) .nil))) (.cons (.ret (.bin .mod (.blt .int (.cons (.idx (.idx (.var 0) (.cst (.int 0))) (.var 2)) .nil)) (.var 1))) .nil) .nil) (.cons (.ret (.cst (.int 0))) .nil))))
theorem b_0 {x y : D} {b : Nat} {h : HI} (e : h[b]? = some (.lst [x, y])) : idxD (.ref b) (.int 0) h = some (x, h) := by simp [idxD, e, atD, ixAt]
theorem b_1 {x y : D} {b : Nat} {h : HI} (e : h[b]? = some (.lst [x, y])) : idxD (.ref b) (.int 1) h = some (y, h) := by simp [idxD, e, atD, ixAt]
theorem s_1 {x y v : D} {b : Nat} {h : HI} (e : h[b]? = some (.lst [x, y])) : setIx (.ref b) (.int 1) v h = some (h.set b (.lst [x, v])) := by simp [setIx, e, ixAt]
theorem run_draw {iw b j : Nat} {h : HI} {m : Int} {Q : D × HI → Prop} (hP : P[iw]? = some ⟨2, 3, bDraw⟩) (hb : BoxOk h b) (hm : 0 < m) (q : ∀ (v : Int) (h' : HI), 0 ≤ v → v < m → BoxOk h' b → Kp b h h' → Q (.int v, h')) :
    wO (callI P wf (j + 1) iw [.ref b, .int m] h) Q := by
  obtain ⟨dr, ds, c, e1, e2⟩ := hb
  have hlt : b < h.length := by
    rcases Nat.lt_or_ge b h.length with z | z
    · exact z
    · rw [List.getElem?_eq_none z] at e1; cases e1
  have nd : b ≠ dr := fun z => by
    rw [← z, e1] at e2
    cases ds with
    | nil => cases e2
    | cons x r => simp at e2
  have g1 : (h.set b (.lst [.ref dr, .int ((c : Int) + 1)]))[b]? = some (.lst [.ref dr, .int ((c : Int) + 1)]) := List.getElem?_set_self hlt
  have g2 : (h.set b (.lst [.ref dr, .int ((c : Int) + 1)]))[dr]? = some (.lst (ds.map .int)) := by rw [List.getElem?_set_ne nd]; exact e2
  have kp : Kp b h (h.set b (.lst [.ref dr, .int ((c : Int) + 1)])) := fun n o hn e => by rw [List.getElem?_set_ne (Ne.symm hn)]; exact e
  have bo : BoxOk (h.set b (.lst [.ref dr, .int ((c : Int) + 1)])) b := ⟨dr, ds, c + 1, g1, g2⟩
  have la : LA (h.set b (.lst [.ref dr, .int ((c : Int) + 1)])) dr (ds.map .int) := .inl g2
  refine wC hP rfl ?_
  simp only [bDraw, startD, List.map_cons, List.map_nil, List.length_cons, List.length_nil, List.replicate, List.cons_append, List.nil_append, ↓wE_var, ↓wE_cst, ↓wE_glb, ↓wE_tup, ↓wE_lst, ↓wE_dnew, ↓wE_bin, ↓wE_cmp, ↓wE_not, ↓wE_or, ↓wE_and, ↓wE_idx, ↓wE_slc, ↓wE_omit, ↓wE_call, ↓wE_blt, ↓wE_isi, ↓wE_mth, ↓wL_nil, ↓wL_cons, ↓wB_nil, ↓wB_cons, ↓wS_asg, ↓wS_sub, ↓wS_expr, ↓wS_ret, ↓wS_ite, ↓wI_ex, ↓wI_rng, ↓wI_zip, wV, wW, wO_some, o_int, i_add, i_sub, m_48271, m_69621, m_16807, m_2, m_7, r_1000, r_m31, r_26, f_1000, f_997, f_26, p_18, c_lt, c_gt, c_ge, c_str, t_bl, b_int, b_1 e1, s_1 e1, b_0 g1, la.len]
  by_cases hk : c < ds.length
  · have e : (ds.map D.int)[c]? = some (.int ds[c]) := by rw [List.getElem?_map, List.getElem?_eq_getElem hk]; rfl
    have : decide ((c : Int) < ((ds.map D.int).length : Nat)) = true := by simp [hk]
    simp only [this, if_true, la.idx, at_nat e, Option.map_some, wO_some, o_int, i_add, i_sub, m_48271, m_69621, m_16807, m_2, m_7, r_1000, r_m31, r_26, f_1000, f_997, f_26, p_18, c_lt, c_gt, c_ge, c_str, t_bl, b_int, r_k (show m ≠ 0 by omega)]
    exact q _ _ (Int.fmod_nonneg_of_pos _ hm) (Int.fmod_lt_of_pos _ hm) bo kp
  · have : decide ((c : Int) < ((ds.map D.int).length : Nat)) = false := by simp [hk]
    simp only [this, Bool.false_eq_true, if_false, ↓wE_var, ↓wE_cst, ↓wE_glb, ↓wE_tup, ↓wE_lst, ↓wE_dnew, ↓wE_bin, ↓wE_cmp, ↓wE_not, ↓wE_or, ↓wE_and, ↓wE_idx, ↓wE_slc, ↓wE_omit, ↓wE_call, ↓wE_blt, ↓wE_isi, ↓wE_mth, ↓wL_nil, ↓wL_cons, ↓wB_nil, ↓wB_cons, ↓wS_asg, ↓wS_sub, ↓wS_expr, ↓wS_ret, ↓wS_ite, ↓wI_ex, ↓wI_rng, ↓wI_zip, wV, wW]
    exact q 0 _ (Int.le_refl _) hm bo kp
def bBox (id : Nat) : MSs := (.cons (.ret (.lst (.cons (.call id (.cons (.var 0) (.cons (.var 1) (.cons (.var 2) .nil)))) (.cons (.cst (.int 0)) .nil)))) .nil)
theorem run_box {ic id ib s j : Nat} {h : HI} {Q : D × HI → Prop} (hC : P[ic]? = some ⟨2, 2, bCell⟩) (hD : P[id]? = some ⟨3, 8, bDigits ic⟩) (hP : P[ib]? = some ⟨3, 3, bBox id⟩) {ns : List Int} (hs : LA h s (ns.map .int))
    (q : ∀ b h', Pre h h' → BoxOk h' b → Q (.ref b, h')) : wO (callI P wf (j + 3) ib [.ref s, .int 0, .int 63] h) Q := by
  refine wC hP rfl ?_
  simp only [bBox, startD, List.map_cons, List.map_nil, List.length_cons, List.length_nil, List.replicate, List.cons_append, List.nil_append, ↓wE_var, ↓wE_cst, ↓wE_glb, ↓wE_tup, ↓wE_lst, ↓wE_dnew, ↓wE_bin, ↓wE_cmp, ↓wE_not, ↓wE_or, ↓wE_and, ↓wE_idx, ↓wE_slc, ↓wE_omit, ↓wE_call, ↓wE_blt, ↓wE_isi, ↓wE_mth, ↓wL_nil, ↓wL_cons, ↓wB_nil, ↓wB_cons, ↓wS_asg, ↓wS_sub, ↓wS_expr, ↓wS_ret, ↓wS_ite, ↓wI_ex, ↓wI_rng, ↓wI_zip, wV, wW]
  refine run_digits (last := 63) hC hD (by omega) hs fun ds => ?_
  simp only [↓wE_var, ↓wE_cst, ↓wE_glb, ↓wE_tup, ↓wE_lst, ↓wE_dnew, ↓wE_bin, ↓wE_cmp, ↓wE_not, ↓wE_or, ↓wE_and, ↓wE_idx, ↓wE_slc, ↓wE_omit, ↓wE_call, ↓wE_blt, ↓wE_isi, ↓wE_mth, ↓wL_nil, ↓wL_cons, ↓wB_nil, ↓wB_cons, ↓wS_asg, ↓wS_sub, ↓wS_expr, ↓wS_ret, ↓wS_ite, ↓wI_ex, ↓wI_rng, ↓wI_zip, wV, wW]
  refine ⟨by simp [big], ?_⟩
  refine q _ _ ((Pre.app _).trans (Pre.app _)) ⟨h.length, ds, 0, ?_, ?_⟩
  · simp
  · exact grow_get get_last _
def bAny (iw ia : Nat) : MSs := (.cons (.asg (.nm 3) (.call iw (.cons (.var 0) (.cons (.cst (.int 8)) .nil)))) (.cons (.ite (.or (.cmp .lt (.var 1) (.cst (.int 2))) (.cmp .lt (.var 3) (.cst (.int 2)))) (.cons (.ret (.tup (.cons (.cst (.str "letter")) (.cons (.idx (.cst (.str "abcdefgh")) (.call iw (.cons (.var 0) (.cons (.var 2) .nil)))) .nil)))) .nil) .nil) (.cons (.ite (.or (.cmp .lt (.var 1) (.cst (.int 3))) (.cmp .lt (.var 3) (.cst (.int 4)))) (.cons (.ret (.tup (.cons (.cst (.str "not")) (.cons (.call ia (.cons (.var 0) (.cons (.bin .sub (.var 1) (.cst (.int 1))) (.cons (.var 2) .nil)))) .nil)))) .nil) .nil) (.cons (.asg (.nm 4) (.bin .add (.cst (.int 1)) (.call iw (.cons (.var 0) (.cons (.bin .sub (.var 1) (.cst (.int 2))) .nil))))) (.cons (.asg (.nm 5) (.call ia (.cons (.var 0) (.cons (.var 4) (.cons (.var 2) .nil))))) (.cons (.ret (.tup (.cons (.cst (.str "if")) (.cons (.var 5) (.cons (.call ia (.cons (.var 0) (.cons (.bin .sub (.bin .sub (.var 1) (.cst (.int 1))) (.var 4)) (.cons (.var 2) .nil)))) .nil))))) .nil))))))
theorem idx_s {z : Str} {v : Int} {h : HI} (hz : z.cps.size ≤ big) (h0 : 0 ≤ v) (h1 : v < z.cps.size) : ∃ s, idxD (.str z) (.int v) h = some (.str s, h) := by
  have hv : v.toNat < z.cps.size := by omega
  refine ⟨⟨#[z.cps[v.toNat]]⟩, ?_⟩
  simp [idxD, hz, ixAt, h0, h1, hv]
theorem run_any {iw ia b : Nat} {m : Int} (hW : P[iw]? = some ⟨2, 3, bDraw⟩) (hP : P[ia]? = some ⟨3, 6, bAny iw ia⟩) (m0 : 0 < m) (m8 : m ≤ 8) : ∀ (j : Nat) (r : Int) {h : HI} {Q : D × HI → Prop}, 1 ≤ r → r.toNat + 1 ≤ j → BoxOk h b →
    (∀ (f : Fm) h', f.lvs ≤ r.toNat → f.dep ≤ r.toNat → BoxOk h' b → Kp b h h' → Q (f.d, h')) → wO (callI P wf j ia [.ref b, .int r, .int m] h) Q
  | 0, r, h, Q, hr, hj, hb, q => by omega
  | j + 1, r, h, Q, hr, hj, hb, q => by
    obtain ⟨k, rfl⟩ : ∃ k, j = k + 1 := ⟨j - 1, by omega⟩
    refine wC hP rfl ?_
    simp only [bAny, startD, List.map_cons, List.map_nil, List.length_cons, List.length_nil, List.replicate, List.cons_append, List.nil_append, ↓wE_var, ↓wE_cst, ↓wE_glb, ↓wE_tup, ↓wE_lst, ↓wE_dnew, ↓wE_bin, ↓wE_cmp, ↓wE_not, ↓wE_or, ↓wE_and, ↓wE_idx, ↓wE_slc, ↓wE_omit, ↓wE_call, ↓wE_blt, ↓wE_isi, ↓wE_mth, ↓wL_nil, ↓wL_cons, ↓wB_nil, ↓wB_cons, ↓wS_asg, ↓wS_sub, ↓wS_expr, ↓wS_ret, ↓wS_ite, ↓wI_ex, ↓wI_rng, ↓wI_zip, wV, wW]
    refine run_draw hW hb (by omega) fun kind h1 k0 k1 b1 kp1 => ?_
    simp only [↓wE_var, ↓wE_cst, ↓wE_glb, ↓wE_tup, ↓wE_lst, ↓wE_dnew, ↓wE_bin, ↓wE_cmp, ↓wE_not, ↓wE_or, ↓wE_and, ↓wE_idx, ↓wE_slc, ↓wE_omit, ↓wE_call, ↓wE_blt, ↓wE_isi, ↓wE_mth, ↓wL_nil, ↓wL_cons, ↓wB_nil, ↓wB_cons, ↓wS_asg, ↓wS_sub, ↓wS_expr, ↓wS_ret, ↓wS_ite, ↓wI_ex, ↓wI_rng, ↓wI_zip, wV, wW, wO_some, o_int, i_add, i_sub, m_48271, m_69621, m_16807, m_2, m_7, r_1000, r_m31, r_26, f_1000, f_997, f_26, p_18, c_lt, c_gt, c_ge, c_str, t_bl, b_int]
    have leaf : wO (callI P wf (k + 1) iw [.ref b, .int m] h1) fun r_1 => wO (idxD (.str "abcdefgh") r_1.1 r_1.2) fun r_2 => Q (.tup [.str "letter", r_2.1], r_2.2) := by
      refine run_draw hW b1 m0 fun v h2 v0 v1 b2 kp2 => ?_
      have hz : ((("abcdefgh" : Str).cps.size : Nat) : Int) = 8 := by decide
      obtain ⟨s, e⟩ := idx_s (z := "abcdefgh") (v := v) (h := h2) (by decide) v0 (by rw [hz]; omega)
      show wO (idxD (.str "abcdefgh") (.int v) h2) _
      rw [e, wO_some]
      exact q (.ltr s) h2 (by simp [Fm.lvs]; omega) (by simp [Fm.dep]; omega) b2 (kp1.trans kp2)
    by_cases c1 : r < 2
    · simp only [decide_eq_true c1, if_true]
      exact wO_imp leaf fun _ z => wO_imp z fun _ z => ⟨by decide, z⟩
    by_cases c2 : kind < 2
    · simp only [decide_eq_false c1, decide_eq_true c2, Bool.false_eq_true, if_false, if_true]
      exact wO_imp leaf fun _ z => wO_imp z fun _ z => ⟨by decide, z⟩
    have neg : wO (callI P wf (k + 1) ia [.ref b, .int (r - 1), .int m] h1) fun r_1 => Q (.tup [.str "not", r_1.1], r_1.2) := by
      refine run_any hW hP m0 m8 (k + 1) (r - 1) (by omega) (by omega) b1 fun f h2 l1 l2 b2 kp2 => ?_
      exact q (.neg f) h2 (by simp only [Fm.lvs]; omega) (by simp only [Fm.dep]; omega) b2 (kp1.trans kp2)
    by_cases c3 : r < 3
    · simp only [decide_eq_false c1, decide_eq_false c2, decide_eq_true c3, Bool.false_eq_true, if_false, if_true]
      exact wO_imp neg fun _ z => ⟨by decide, z⟩
    by_cases c4 : kind < 4
    · simp only [decide_eq_false c1, decide_eq_false c2, decide_eq_false c3, decide_eq_true c4, Bool.false_eq_true, if_false, if_true]
      exact wO_imp neg fun _ z => ⟨by decide, z⟩
    simp only [decide_eq_false c1, decide_eq_false c2, decide_eq_false c3, decide_eq_false c4, Bool.false_eq_true, if_false]
    refine run_draw hW b1 (by omega) fun v h2 v0 v1 b2 kp2 => ?_
    simp only [wO_some, o_int, i_add, i_sub, m_48271, m_69621, m_16807, m_2, m_7, r_1000, r_m31, r_26, f_1000, f_997, f_26, p_18, c_lt, c_gt, c_ge, c_str, t_bl, b_int]
    refine run_any hW hP m0 m8 (k + 1) (1 + v) (by omega) (by omega) b2 fun f h3 l1 l2 b3 kp3 => ?_
    try simp only [wO_some, o_int, i_add, i_sub, m_48271, m_69621, m_16807, m_2, m_7, r_1000, r_m31, r_26, f_1000, f_997, f_26, p_18, c_lt, c_gt, c_ge, c_str, t_bl, b_int]
    refine run_any hW hP m0 m8 (k + 1) (r - 1 - (1 + v)) (by omega) (by omega) b3 fun g h4 l3 l4 b4 kp4 => ?_
    exact ⟨by decide, q (.imp f g) h4 (by simp only [Fm.lvs]; omega) (by simp only [Fm.dep]; omega) b4 (kp1.trans (kp2.trans (kp3.trans kp4)))⟩
end
end MP
namespace K63
open PySem MP
def g_AXIOMS : List (D × D) := [((.int 1), (.tup [(.str "if"), (.tup [(.str "letter"), (.str "a")]), (.tup [(.str "if"), (.tup [(.str "letter"), (.str "b")]), (.tup [(.str "letter"), (.str "a")])])])), ((.int 2), (.tup [(.str "if"), (.tup [(.str "if"), (.tup [(.str "letter"), (.str "c")]), (.tup [(.str "if"), (.tup [(.str "letter"), (.str "b")]), (.tup [(.str "letter"), (.str "a")])])]), (.tup [(.str "if"), (.tup [(.str "if"), (.tup [(.str "letter"), (.str "c")]), (.tup [(.str "letter"), (.str "b")])]), (.tup [(.str "if"), (.tup [(.str "letter"), (.str "c")]), (.tup [(.str "letter"), (.str "a")])])])])), ((.int 3), (.tup [(.str "if"), (.tup [(.str "if"), (.tup [(.str "letter"), (.str "d")]), (.tup [(.str "if"), (.tup [(.str "letter"), (.str "b")]), (.tup [(.str "letter"), (.str "a")])])]), (.tup [(.str "if"), (.tup [(.str "letter"), (.str "b")]), (.tup [(.str "if"), (.tup [(.str "letter"), (.str "d")]), (.tup [(.str "letter"), (.str "a")])])])])), ((.int 4), (.tup [(.str "if"), (.tup [(.str "if"), (.tup [(.str "letter"), (.str "b")]), (.tup [(.str "letter"), (.str "a")])]), (.tup [(.str "if"), (.tup [(.str "not"), (.tup [(.str "letter"), (.str "a")])]), (.tup [(.str "not"), (.tup [(.str "letter"), (.str "b")])])])])), ((.int 5), (.tup [(.str "if"), (.tup [(.str "not"), (.tup [(.str "not"), (.tup [(.str "letter"), (.str "a")])])]), (.tup [(.str "letter"), (.str "a")])])), ((.int 6), (.tup [(.str "if"), (.tup [(.str "letter"), (.str "a")]), (.tup [(.str "not"), (.tup [(.str "not"), (.tup [(.str "letter"), (.str "a")])])])]))]
def b0 : MSs := (.cons (.ite (.cmp .eq (.idx (.var 0) (.cst (.int 0))) (.cst (.str "letter"))) (.cons (.ret (.tup (.cons (.idx (.var 0) (.cst (.int 1))) .nil))) .nil) .nil) (.cons (.ret (.blt .tuple (.cons (.x (.ssc [1, 2] (.more (.nm 1) (.ex (.slc (.var 0) (.cst (.int 1)) .omit)) (.cst (.bl true)) [2] (.one (.nm 2) (.ex (.call 0 (.cons (.var 1) .nil))) (.cst (.bl true)) (.var 2) .omit)))) .nil))) .nil))
def b1 : MSs := (.cons (.ret (.x (.gix g_AXIOMS (.var 0)))) .nil)
def b2 : MSs := (.cons (.ret (.and (.isi .int (.var 0)) (.and (.not (.isi .bool (.var 0))) (.cmp .ge (.var 0) (.cst (.int 0)))))) .nil)
def b3 : MSs := (.cons (.ite (.cmp .eq (.idx (.var 1) (.cst (.int 0))) (.cst (.str "letter"))) (.cons (.ret (.idx (.var 2) (.idx (.var 1) (.cst (.int 1))))) .nil) .nil) (.cons (.ite (.cmp .eq (.idx (.var 1) (.cst (.int 0))) (.cst (.str "not"))) (.cons (.ret (.idx (.idx (.var 0) (.cst (.int 3))) (.call 3 (.cons (.var 0) (.cons (.idx (.var 1) (.cst (.int 1))) (.cons (.var 2) .nil)))))) .nil) .nil) (.cons (.ret (.idx (.idx (.idx (.var 0) (.cst (.int 4))) (.call 3 (.cons (.var 0) (.cons (.idx (.var 1) (.cst (.int 1))) (.cons (.var 2) .nil))))) (.call 3 (.cons (.var 0) (.cons (.idx (.var 1) (.cst (.int 2))) (.cons (.var 2) .nil)))))) .nil)))
def b4 : MSs := (.cons (.asg (.nm 2) (.lst (.cons .dnew .nil))) (.cons (.fr (.nm 3) (.ex (.var 0)) (.cons (.asg (.nm 2) (.comp .lst [4, 5] (.more (.nm 4) (.ex (.var 2)) (.cst (.bl true)) [5] (.one (.nm 5) (.rng (.cons (.var 1) .nil)) (.cst (.bl true)) (.x (.dst (.var 4) (.var 3) (.var 5))) .omit)))) .nil)) (.cons (.ret (.var 2)) .nil)))
def b5 : MSs := (.cons (.ret (.comp .gall [2] (.one (.nm 2) (.ex (.call 4 (.cons (.call 0 (.cons (.var 1) .nil)) (.cons (.idx (.var 0) (.cst (.int 1))) .nil)))) (.cst (.bl true)) (.cmp .inn (.call 3 (.cons (.var 0) (.cons (.var 1) (.cons (.var 2) .nil)))) (.idx (.var 0) (.cst (.int 2)))) .omit))) .nil)
def b6 : MSs := (.cons (.asg (.tp (.cons (.nm 1) (.cons (.nm 2) (.cons (.nm 3) (.cons (.nm 1) (.cons (.nm 4) .nil)))))) (.var 0)) (.cons (.ret (.x (.gn2 .gall [5, 6] (.more (.nm 5) (.ex (.var 3)) (.cst (.bl true)) [6] (.one (.nm 6) (.rng (.cons (.var 2) .nil)) (.cst (.bl true)) (.or (.cmp .inn (.var 6) (.var 3)) (.cmp .nin (.idx (.idx (.var 4) (.var 5)) (.var 6)) (.var 3))) .omit))))) .nil))
def b7 : MSs := (.cons (.ret (.and (.isi .tup (.var 0)) (.and (.cmp .eq (.blt .len (.cons (.var 0) .nil)) (.var 1)) (.comp .gall [2] (.one (.nm 2) (.ex (.var 0)) (.cst (.bl true)) (.and (.call 2 (.cons (.var 2) .nil)) (.cmp .lt (.var 2) (.var 1))) .omit))))) .nil)
def b8 : MSs := (.cons (.ite (.or (.not (.isi .tup (.var 0))) (.or (.cmp .ne (.blt .len (.cons (.var 0) .nil)) (.cst (.int 5))) (.cmp .ne (.idx (.var 0) (.cst (.int 0))) (.cst (.str "table"))))) (.cons (.ret (.cst (.bl false))) .nil) .nil) (.cons (.asg (.tp (.cons (.nm 1) (.cons (.nm 2) (.cons (.nm 3) (.cons (.nm 4) (.cons (.nm 5) .nil)))))) (.var 0)) (.cons (.ite (.or (.not (.call 2 (.cons (.var 2) .nil))) (.or (.not (.x (.chn .le .le (.cst (.int 1)) (.var 2) (.glb (.int 4))))) (.not (.isi .tup (.var 3))))) (.cons (.ret (.cst (.bl false))) .nil) .nil) (.cons (.ite (.not (.comp .gall [6] (.one (.nm 6) (.ex (.var 3)) (.cst (.bl true)) (.and (.call 2 (.cons (.var 6) .nil)) (.cmp .lt (.var 6) (.var 2))) .omit))) (.cons (.ret (.cst (.bl false))) .nil) .nil) (.cons (.ite (.comp .gany [6, 7] (.one (.tp (.cons (.nm 6) (.cons (.nm 7) .nil))) (.zip (.var 3) (.slc (.var 3) (.cst (.int 1)) .omit)) (.cst (.bl true)) (.cmp .ge (.var 6) (.var 7)) .omit)) (.cons (.ret (.cst (.bl false))) .nil) .nil) (.cons (.ret (.and (.call 7 (.cons (.var 4) (.cons (.var 2) .nil))) (.and (.isi .tup (.var 5)) (.and (.cmp .eq (.blt .len (.cons (.var 5) .nil)) (.var 2)) (.comp .gall [8] (.one (.nm 8) (.ex (.var 5)) (.cst (.bl true)) (.call 7 (.cons (.var 8) (.cons (.var 2) .nil))) .omit)))))) .nil))))))
def b9 : MSs := (.cons (.ite (.or (.not (.call 8 (.cons (.var 0) .nil))) (.not (.call 6 (.cons (.var 0) .nil)))) (.cons (.ret (.cst (.bl false))) .nil) .nil) (.cons (.ret (.and (.comp .gall [3] (.one (.nm 3) (.ex (.var 1)) (.cst (.bl true)) (.call 5 (.cons (.var 0) (.cons (.call 1 (.cons (.var 3) .nil)) .nil))) .omit)) (.not (.call 5 (.cons (.var 0) (.cons (.var 2) .nil)))))) .nil))
def b10 : MSs := (.cons (.asg (.nm 2) (.lst (.cons (.tup .nil) .nil))) (.cons (.fr (.nm 3) (.rng (.cons (.var 1) .nil)) (.cons (.asg (.nm 2) (.comp .lst [4, 5] (.more (.nm 4) (.ex (.var 2)) (.cst (.bl true)) [5] (.one (.nm 5) (.rng (.cons (.var 0) .nil)) (.cst (.bl true)) (.bin .add (.var 4) (.tup (.cons (.var 5) .nil))) .omit)))) .nil)) (.cons (.ret (.var 2)) .nil)))
def b11 : MSs := (.cons (.fr (.tp (.cons (.nm 2) (.cons (.nm 3) .nil))) (.ex (.tup (.cons (.tup (.cons (.cst (.int 1)) (.cons (.tup (.cons (.tup .nil) (.cons (.tup (.cons (.cst (.int 0)) .nil)) .nil))) .nil))) (.cons (.tup (.cons (.cst (.int 2)) (.cons (.tup (.cons (.tup .nil) (.cons (.tup (.cons (.cst (.int 0)) .nil)) (.cons (.tup (.cons (.cst (.int 0)) (.cons (.cst (.int 1)) .nil))) (.cons (.tup (.cons (.cst (.int 1)) .nil)) .nil))))) .nil))) .nil)))) (.cons (.fr (.nm 4) (.ex (.var 3)) (.cons (.fr (.nm 5) (.ex (.call 10 (.cons (.var 2) (.cons (.var 2) .nil)))) (.cons (.fr (.nm 6) (.ex (.call 10 (.cons (.var 2) (.cons (.bin .mul (.var 2) (.var 2)) .nil)))) (.cons (.asg (.nm 7) (.comp .gtup [9] (.one (.nm 9) (.rng (.cons (.var 2) .nil)) (.cst (.bl true)) (.slc (.var 6) (.bin .mul (.var 2) (.var 9)) (.bin .add (.bin .mul (.var 2) (.var 9)) (.var 2))) .omit))) (.cons (.asg (.nm 8) (.tup (.cons (.cst (.str "table")) (.cons (.var 2) (.cons (.var 4) (.cons (.var 5) (.cons (.var 7) .nil))))))) (.cons (.ite (.call 9 (.cons (.var 8) (.cons (.var 0) (.cons (.var 1) .nil)))) (.cons (.ret (.var 8)) .nil) .nil) .nil)))) .nil)) .nil)) .nil)) (.cons (.ret (.cst .non)) .nil))
def b12 : MSs := (.cons (.ite (.cmp .lt (.var 1) (.blt .len (.cons (.var 0) .nil))) (.cons (.ret (.idx (.var 0) (.var 1))) .nil) .nil) (.cons (.ret (.cst (.int 0))) .nil))
def b13 : MSs := (.cons (.asg (.nm 3) (.lst .nil)) (.cons (.fr (.nm 4) (.rng (.cons (.var 1) (.cons (.var 2) .nil))) (.cons (.asg (.nm 5) (.call 12 (.cons (.var 0) (.cons (.var 4) .nil)))) (.cons (.ite (.cmp .lt (.var 5) (.cst (.int 0))) (.cons (.asg (.nm 5) (.bin .sub (.cst (.int 1)) (.bin .mul (.cst (.int 2)) (.var 5)))) .nil) .nil) (.cons (.ite (.cmp .ge (.var 5) (.bin .pow (.cst (.int 10)) (.cst (.int 18)))) (.cons (.fr (.nm 6) (.rng (.cons (.cst (.int 60)) .nil)) (.cons (.ite (.cmp .gt (.var 5) (.cst (.int 0))) (.cons (.expr (.mth .append (.var 3) (.cons (.bin .mod (.blt .int (.cons (.var 5) .nil)) (.cst (.int 1000))) .nil))) (.cons (.asg (.nm 5) (.bin .fdv (.var 5) (.cst (.int 1000)))) .nil)) .nil) .nil)) .nil) (.cons (.asg (.nm 7) (.bin .mod (.blt .int (.cons (.bin .add (.bin .add (.bin .mul (.var 5) (.cst (.int 48271))) (.bin .mul (.var 4) (.cst (.int 69621)))) (.cst (.int 11))) .nil)) (.cst (.int 2147483647)))) (.cons (.fr (.nm 6) (.rng (.cons (.cst (.int 12)) .nil)) (.cons (.asg (.nm 7) (.bin .mod (.blt .int (.cons (.bin .add (.bin .add (.bin .mul (.var 7) (.cst (.int 16807))) (.bin .mul (.cst (.int 7)) (.var 6))) (.cst (.int 1))) .nil)) (.cst (.int 2147483647)))) (.cons (.expr (.mth .append (.var 3) (.cons (.bin .mod (.blt .int (.cons (.bin .fdv (.var 7) (.cst (.int 997))) .nil)) (.cst (.int 1000))) .nil))) .nil))) .nil))) .nil)))) (.cons (.ret (.var 3)) .nil)))
def b14 : MSs := (.cons (.ret (.lst (.cons (.call 13 (.cons (.var 0) (.cons (.var 1) (.cons (.var 2) .nil)))) (.cons (.cst (.int 0)) .nil)))) .nil)
def b15 : MSs := (.cons (.asg (.nm 2) (.idx (.var 0) (.cst (.int 1)))) (.cons (.sub (.var 0) (.cst (.int 1)) (.bin .add (.var 2) (.cst (.int 1)))) (.cons (.ite (.cmp .lt (.var 2) (.blt .len (.cons (.idx (.var 0) (.cst (.int 0))) .nil))) (.cons (.ret (.bin .mod (.blt .int (.cons (.idx (.idx (.var 0) (.cst (.int 0))) (.var 2)) .nil)) (.var 1))) .nil) .nil) (.cons (.ret (.cst (.int 0))) .nil))))
def b16 : MSs := (.cons (.asg (.nm 1) (.idx (.var 0) (.bin .sub (.blt .len (.cons (.var 0) .nil)) (.cst (.int 1))))) (.cons (.fr (.nm 2) (.rng (.cons (.cst (.int 1)) (.cons (.blt .len (.cons (.var 0) .nil)) .nil))) (.cons (.asg (.nm 1) (.tup (.cons (.cst (.str "if")) (.cons (.idx (.var 0) (.bin .sub (.bin .sub (.blt .len (.cons (.var 0) .nil)) (.cst (.int 1))) (.var 2))) (.cons (.var 1) .nil))))) .nil)) (.cons (.ret (.var 1)) .nil)))
def b17 : MSs := (.cons (.asg (.nm 1) (.tup (.cons (.cst (.str "letter")) (.cons (.cst (.str "a")) .nil)))) (.cons (.asg (.nm 2) (.tup (.cons (.cst (.str "letter")) (.cons (.cst (.str "b")) .nil)))) (.cons (.asg (.nm 3) (.tup (.cons (.cst (.str "letter")) (.cons (.cst (.str "c")) .nil)))) (.cons (.asg (.nm 4) (.tup (.cons (.cst (.str "letter")) (.cons (.cst (.str "d")) .nil)))) (.cons (.asg (.nm 5) (.lst (.cons (.call 16 (.cons (.lst (.cons (.var 1) (.cons (.var 2) (.cons (.var 1) .nil)))) .nil)) (.cons (.call 16 (.cons (.lst (.cons (.call 16 (.cons (.lst (.cons (.var 3) (.cons (.var 2) (.cons (.var 1) .nil)))) .nil)) (.cons (.call 16 (.cons (.lst (.cons (.var 3) (.cons (.var 2) .nil))) .nil)) (.cons (.var 3) (.cons (.var 1) .nil))))) .nil)) .nil)))) (.cons (.expr (.mth .append (.var 5) (.cons (.call 16 (.cons (.lst (.cons (.call 16 (.cons (.lst (.cons (.var 4) (.cons (.var 2) (.cons (.var 1) .nil)))) .nil)) (.cons (.var 2) (.cons (.var 4) (.cons (.var 1) .nil))))) .nil)) .nil))) (.cons (.expr (.mth .append (.var 5) (.cons (.call 16 (.cons (.lst (.cons (.call 16 (.cons (.lst (.cons (.var 2) (.cons (.var 1) .nil))) .nil)) (.cons (.tup (.cons (.cst (.str "not")) (.cons (.var 1) .nil))) (.cons (.tup (.cons (.cst (.str "not")) (.cons (.var 2) .nil))) .nil)))) .nil)) .nil))) (.cons (.ret (.idx (.bin .add (.var 5) (.lst (.cons (.call 16 (.cons (.lst (.cons (.tup (.cons (.cst (.str "not")) (.cons (.tup (.cons (.cst (.str "not")) (.cons (.var 1) .nil))) .nil))) (.cons (.var 1) .nil))) .nil)) (.cons (.call 16 (.cons (.lst (.cons (.var 1) (.cons (.tup (.cons (.cst (.str "not")) (.cons (.tup (.cons (.cst (.str "not")) (.cons (.var 1) .nil))) .nil))) .nil))) .nil)) .nil)))) (.bin .sub (.var 0) (.cst (.int 1))))) .nil))))))))
def b18 : MSs := (.cons (.asg (.nm 3) (.call 15 (.cons (.var 0) (.cons (.cst (.int 8)) .nil)))) (.cons (.ite (.or (.cmp .lt (.var 1) (.cst (.int 2))) (.cmp .lt (.var 3) (.cst (.int 2)))) (.cons (.ret (.tup (.cons (.cst (.str "letter")) (.cons (.idx (.cst (.str "abcdefgh")) (.call 15 (.cons (.var 0) (.cons (.var 2) .nil)))) .nil)))) .nil) .nil) (.cons (.ite (.or (.cmp .lt (.var 1) (.cst (.int 3))) (.cmp .lt (.var 3) (.cst (.int 4)))) (.cons (.ret (.tup (.cons (.cst (.str "not")) (.cons (.call 18 (.cons (.var 0) (.cons (.bin .sub (.var 1) (.cst (.int 1))) (.cons (.var 2) .nil)))) .nil)))) .nil) .nil) (.cons (.asg (.nm 4) (.bin .add (.cst (.int 1)) (.call 15 (.cons (.var 0) (.cons (.bin .sub (.var 1) (.cst (.int 2))) .nil))))) (.cons (.asg (.nm 5) (.call 18 (.cons (.var 0) (.cons (.var 4) (.cons (.var 2) .nil))))) (.cons (.ret (.tup (.cons (.cst (.str "if")) (.cons (.var 5) (.cons (.call 18 (.cons (.var 0) (.cons (.bin .sub (.bin .sub (.var 1) (.cst (.int 1))) (.var 4)) (.cons (.var 2) .nil)))) .nil))))) .nil))))))
def b19 : MSs := (.cons (.ite (.not (.isi .tup (.var 0))) (.cons (.ret (.cst (.bl false))) .nil) .nil) (.cons (.fr (.nm 2) (.rng (.cons (.blt .len (.cons (.var 0) .nil)) .nil)) (.cons (.ite (.or (.not (.isi .int (.idx (.var 0) (.var 2)))) (.or (.isi .bool (.idx (.var 0) (.var 2))) (.not (.x (.chn .le .lt (.cst (.int 0)) (.idx (.var 0) (.var 2)) (.var 1)))))) (.cons (.ret (.cst (.bl false))) .nil) .nil) (.cons (.ite (.and (.cmp .gt (.var 2) (.cst (.int 0))) (.cmp .le (.idx (.var 0) (.var 2)) (.idx (.var 0) (.bin .sub (.var 2) (.cst (.int 1)))))) (.cons (.ret (.cst (.bl false))) .nil) .nil) .nil))) (.cons (.ret (.cst (.bl true))) .nil)))
def b20 : MSs := (.cons (.ite (.or (.not (.isi .tup (.var 0))) (.cmp .ne (.blt .len (.cons (.var 0) .nil)) (.var 1))) (.cons (.ret (.cst (.bl false))) .nil) .nil) (.cons (.fr (.nm 2) (.ex (.var 0)) (.cons (.ite (.or (.not (.isi .int (.var 2))) (.or (.isi .bool (.var 2)) (.not (.x (.chn .le .lt (.cst (.int 0)) (.var 2) (.var 1)))))) (.cons (.ret (.cst (.bl false))) .nil) .nil) .nil)) (.cons (.ret (.cst (.bl true))) .nil)))
def b21 : MSs := (.cons (.ite (.or (.not (.isi .tup (.var 0))) (.or (.cmp .ne (.blt .len (.cons (.var 0) .nil)) (.cst (.int 5))) (.cmp .ne (.idx (.var 0) (.cst (.int 0))) (.cst (.str "table"))))) (.cons (.ret (.cst (.bl false))) .nil) .nil) (.cons (.asg (.nm 1) (.idx (.var 0) (.cst (.int 1)))) (.cons (.ite (.or (.not (.isi .int (.var 1))) (.or (.isi .bool (.var 1)) (.or (.not (.x (.chn .le .le (.cst (.int 1)) (.var 1) (.cst (.int 4))))) (.not (.call 19 (.cons (.idx (.var 0) (.cst (.int 2))) (.cons (.var 1) .nil))))))) (.cons (.ret (.cst (.bl false))) .nil) .nil) (.cons (.ite (.or (.not (.call 20 (.cons (.idx (.var 0) (.cst (.int 3))) (.cons (.var 1) .nil)))) (.or (.not (.isi .tup (.idx (.var 0) (.cst (.int 4))))) (.cmp .ne (.blt .len (.cons (.idx (.var 0) (.cst (.int 4))) .nil)) (.var 1)))) (.cons (.ret (.cst (.bl false))) .nil) .nil) (.cons (.ret (.cmp .eq (.blt .len (.cons (.comp .lst [2] (.one (.nm 2) (.ex (.idx (.var 0) (.cst (.int 4)))) (.not (.call 20 (.cons (.var 2) (.cons (.var 1) .nil)))) (.var 2) .omit)) .nil)) (.cst (.int 0)))) .nil)))))
def b22 : MSs := (.cons (.fr (.nm 1) (.rng (.cons (.idx (.var 0) (.cst (.int 1))) .nil)) (.cons (.fr (.nm 2) (.rng (.cons (.idx (.var 0) (.cst (.int 1))) .nil)) (.cons (.ite (.and (.cmp .inn (.var 1) (.idx (.var 0) (.cst (.int 2)))) (.and (.cmp .inn (.idx (.idx (.idx (.var 0) (.cst (.int 4))) (.var 1)) (.var 2)) (.idx (.var 0) (.cst (.int 2)))) (.cmp .nin (.var 2) (.idx (.var 0) (.cst (.int 2)))))) (.cons (.ret (.cst (.bl false))) .nil) .nil) .nil)) .nil)) (.cons (.ret (.cst (.bl true))) .nil))
def b23 : MSs := (.cons (.asg (.nm 2) (.lst (.cons .dnew .nil))) (.cons (.fr (.nm 3) (.ex (.var 0)) (.cons (.asg (.nm 4) (.lst .nil)) (.cons (.fr (.nm 5) (.ex (.var 2)) (.cons (.fr (.nm 6) (.rng (.cons (.var 1) .nil)) (.cons (.asg (.nm 7) (.blt .dict (.cons (.var 5) .nil))) (.cons (.sub (.var 7) (.var 3) (.var 6)) (.cons (.expr (.mth .append (.var 4) (.cons (.var 7) .nil))) .nil)))) .nil)) (.cons (.asg (.nm 2) (.var 4)) .nil)))) (.cons (.ret (.var 2)) .nil)))
def b24 : MSs := (.cons (.asg (.nm 1) (.lst (.cons (.var 0) .nil))) (.cons (.fr (.nm 2) (.ex (.slc (.var 0) (.cst (.int 1)) .omit)) (.cons (.ite (.cmp .ne (.idx (.var 0) (.cst (.int 0))) (.cst (.str "letter"))) (.cons (.asg (.nm 1) (.bin .add (.var 1) (.call 24 (.cons (.var 2) .nil)))) .nil) .nil) .nil)) (.cons (.ret (.var 1)) .nil)))
def b25 : MSs := (.cons (.ret (.sst (.comp .lst [1] (.one (.nm 1) (.ex (.call 24 (.cons (.var 0) .nil))) (.cmp .eq (.idx (.var 1) (.cst (.int 0))) (.cst (.str "letter"))) (.idx (.var 1) (.cst (.int 1))) .omit)))) .nil)
def b26 : MSs := (.cons (.ite (.cmp .eq (.idx (.var 1) (.cst (.int 0))) (.cst (.str "letter"))) (.cons (.ret (.idx (.var 2) (.idx (.var 1) (.cst (.int 1))))) .nil) .nil) (.cons (.ite (.cmp .eq (.idx (.var 1) (.cst (.int 0))) (.cst (.str "not"))) (.cons (.ret (.idx (.idx (.var 0) (.cst (.int 3))) (.call 26 (.cons (.var 0) (.cons (.idx (.var 1) (.cst (.int 1))) (.cons (.var 2) .nil)))))) .nil) .nil) (.cons (.ret (.idx (.idx (.idx (.var 0) (.cst (.int 4))) (.call 26 (.cons (.var 0) (.cons (.idx (.var 1) (.cst (.int 1))) (.cons (.var 2) .nil))))) (.call 26 (.cons (.var 0) (.cons (.idx (.var 1) (.cst (.int 2))) (.cons (.var 2) .nil)))))) .nil)))
def b27 : MSs := (.cons (.fr (.nm 2) (.ex (.call 23 (.cons (.call 25 (.cons (.var 1) .nil)) (.cons (.idx (.var 0) (.cst (.int 1))) .nil)))) (.cons (.ite (.cmp .nin (.call 26 (.cons (.var 0) (.cons (.var 1) (.cons (.var 2) .nil)))) (.idx (.var 0) (.cst (.int 2)))) (.cons (.ret (.cst (.bl false))) .nil) .nil) .nil)) (.cons (.ret (.cst (.bl true))) .nil))
def b28 : MSs := (.cons (.ite (.or (.not (.call 21 (.cons (.var 0) .nil))) (.not (.call 22 (.cons (.var 0) .nil)))) (.cons (.ret (.cst (.bl false))) .nil) .nil) (.cons (.fr (.nm 3) (.ex (.var 1)) (.cons (.ite (.not (.call 27 (.cons (.var 0) (.cons (.call 17 (.cons (.var 3) .nil)) .nil)))) (.cons (.ret (.cst (.bl false))) .nil) .nil) .nil)) (.cons (.ret (.not (.call 27 (.cons (.var 0) (.cons (.var 2) .nil))))) .nil)))
def b29 : MSs := (.cons (.ite (.isi .tup (.var 1)) (.cons (.ite (.or (.not (.isi .tup (.var 0))) (.cmp .ne (.blt .len (.cons (.var 0) .nil)) (.blt .len (.cons (.var 1) .nil)))) (.cons (.ret (.cst (.bl false))) .nil) .nil) (.cons (.fr (.nm 2) (.rng (.cons (.blt .len (.cons (.var 1) .nil)) .nil)) (.cons (.ite (.not (.call 29 (.cons (.idx (.var 0) (.var 2)) (.cons (.idx (.var 1) (.var 2)) .nil)))) (.cons (.ret (.cst (.bl false))) .nil) .nil) .nil)) (.cons (.ret (.cst (.bl true))) .nil))) .nil) (.cons (.ite (.cmp .isN (.var 1) (.cst .non)) (.cons (.ret (.cmp .isN (.var 0) (.cst .non))) .nil) .nil) (.cons (.ite (.isi .bool (.var 1)) (.cons (.ret (.and (.isi .bool (.var 0)) (.cmp .eq (.var 0) (.var 1)))) .nil) .nil) (.cons (.ite (.isi .int (.var 1)) (.cons (.ret (.and (.isi .int (.var 0)) (.and (.not (.isi .bool (.var 0))) (.cmp .eq (.var 0) (.var 1))))) .nil) .nil) (.cons (.ret (.and (.isi .str (.var 0)) (.cmp .eq (.var 0) (.var 1)))) .nil)))))
def b30 : MSs := (.cons (.asg (.nm 1) (.lst (.cons (.tup .nil) .nil))) (.cons (.fr (.nm 2) (.rng (.cons (.var 0) .nil)) (.cons (.asg (.nm 1) (.bin .add (.var 1) (.comp .lst [3] (.one (.nm 3) (.ex (.var 1)) (.cst (.bl true)) (.bin .add (.var 3) (.tup (.cons (.var 2) .nil))) .omit)))) .nil)) (.cons (.asg (.nm 4) (.lst (.cons (.tup .nil) .nil))) (.cons (.fr (.nm 2) (.rng (.cons (.var 0) .nil)) (.cons (.asg (.nm 4) (.call 31 (.cons (.var 4) (.cons (.x (.drg (.var 0))) .nil)))) .nil)) (.cons (.asg (.nm 5) (.lst (.cons (.tup .nil) .nil))) (.cons (.fr (.nm 2) (.rng (.cons (.var 0) .nil)) (.cons (.asg (.nm 5) (.call 31 (.cons (.var 5) (.cons (.var 4) .nil)))) .nil)) (.cons (.asg (.nm 6) (.lst .nil)) (.cons (.fr (.nm 7) (.ex (.blt .srt (.cons (.var 1) .nil))) (.cons (.fr (.nm 8) (.ex (.var 4)) (.cons (.asg (.nm 6) (.bin .add (.var 6) (.comp .lst [9] (.one (.nm 9) (.ex (.var 5)) (.cst (.bl true)) (.tup (.cons (.cst (.str "table")) (.cons (.var 0) (.cons (.var 7) (.cons (.var 8) (.cons (.var 9) .nil)))))) .omit)))) .nil)) .nil)) (.cons (.ret (.var 6)) .nil)))))))))
def b31 : MSs := (.cons (.asg (.nm 2) (.lst .nil)) (.cons (.fr (.nm 3) (.ex (.var 0)) (.cons (.asg (.nm 2) (.bin .add (.var 2) (.comp .lst [4] (.one (.nm 4) (.ex (.var 1)) (.cst (.bl true)) (.bin .add (.var 3) (.tup (.cons (.var 4) .nil))) .omit)))) .nil)) (.cons (.ret (.var 2)) .nil)))
def b32 : MSs := (.cons (.asg (.nm 1) (.call 14 (.cons (.var 0) (.cons (.cst (.int 0)) (.cons (.cst (.int 63)) .nil))))) (.cons (.asg (.nm 2) (.blt .tuple (.cons (.comp .lst [3] (.one (.nm 3) (.rng (.cons (.cst (.int 1)) (.cons (.cst (.int 7)) .nil))) (.cmp .eq (.call 15 (.cons (.var 1) (.cons (.cst (.int 2)) .nil))) (.cst (.int 0))) (.var 3) .omit)) .nil))) (.cons (.asg (.nm 4) (.call 17 (.cons (.bin .add (.cst (.int 1)) (.call 15 (.cons (.var 1) (.cons (.cst (.int 6)) .nil)))) .nil))) (.cons (.ite (.cmp .eq (.call 15 (.cons (.var 1) (.cons (.cst (.int 2)) .nil))) (.cst (.int 0))) (.cons (.asg (.nm 4) (.call 18 (.cons (.var 1) (.cons (.cst (.int 6)) (.cons (.cst (.int 2)) .nil))))) .nil) .nil) (.cons (.asg (.nm 5) (.cst .non)) (.cons (.fr (.nm 6) (.ex (.bin .add (.x (.rev (.call 30 (.cons (.cst (.int 2)) .nil)))) (.x (.rev (.call 30 (.cons (.cst (.int 1)) .nil)))))) (.cons (.ite (.call 28 (.cons (.var 6) (.cons (.var 2) (.cons (.var 4) .nil)))) (.cons (.asg (.nm 5) (.var 6)) .nil) .nil) .nil)) (.cons (.ret (.call 29 (.cons (.call 11 (.cons (.var 2) (.cons (.var 4) .nil))) (.cons (.var 5) .nil)))) .nil)))))))
def P : List Def := [⟨1, 3, b0⟩, ⟨1, 1, b1⟩, ⟨1, 1, b2⟩, ⟨3, 3, b3⟩, ⟨2, 6, b4⟩, ⟨2, 3, b5⟩, ⟨1, 7, b6⟩, ⟨2, 3, b7⟩, ⟨1, 9, b8⟩, ⟨3, 4, b9⟩, ⟨2, 6, b10⟩, ⟨2, 10, b11⟩, ⟨2, 2, b12⟩, ⟨3, 8, b13⟩, ⟨3, 3, b14⟩, ⟨2, 3, b15⟩, ⟨1, 3, b16⟩, ⟨1, 6, b17⟩, ⟨3, 6, b18⟩, ⟨2, 3, b19⟩, ⟨2, 3, b20⟩, ⟨1, 3, b21⟩, ⟨1, 3, b22⟩, ⟨2, 8, b23⟩, ⟨1, 3, b24⟩, ⟨1, 2, b25⟩, ⟨3, 3, b26⟩, ⟨2, 3, b27⟩, ⟨3, 4, b28⟩, ⟨2, 3, b29⟩, ⟨1, 10, b30⟩, ⟨2, 5, b31⟩, ⟨1, 7, b32⟩]
end K63
namespace K63
open PySem MP
structure Tb where
  m : Nat
  des : List Nat
  nots : List Nat
  ifs : List (List Nat)
def nD (n : Nat) : D := .int n
def rowD (l : List Nat) : D := .tup (l.map nD)
def Tb.d (T : Tb) : D := .tup [.str "table", nD T.m, rowD T.des, rowD T.nots, .tup (T.ifs.map rowD)]
def rowOk (m : Nat) (l : List Nat) : Bool := l.length == m && l.all fun x => decide (x < m)
def Tb.ok (T : Tb) : Bool := rowOk T.m T.nots && T.ifs.length == T.m && T.ifs.all (rowOk T.m) && decide (T.m ≤ 2) && decide (1 ≤ T.m)
def Tb.kr (T : Tb) : Bool := (List.range T.m).all fun x => (List.range T.m).all fun y => !(T.des.contains x && T.des.contains ((T.ifs.getD x []).getD y 0) && !T.des.contains y)
def vF (T : Tb) (ev : List (D × D)) : Fm → Nat
  | .ltr s => match kFind ev (.str s) with | some (.int k) => k.toNat | _ => 0
  | .neg a => T.nots.getD (vF T ev a) 0
  | .imp a b => (T.ifs.getD (vF T ev a) []).getD (vF T ev b) 0
def envB (m : Nat) (ev : List (D × D)) : Fm → Bool
  | .ltr s => match kFind ev (.str s) with | some (.int k) => decide (0 ≤ k ∧ k < m) | _ => false
  | .neg a => envB m ev a
  | .imp a b => envB m ev a && envB m ev b
def has (s : Str) : Fm → Bool
  | .ltr t => t == s
  | .neg a => has s a
  | .imp a b => has s a || has s b
def namesOf (f : Fm) : List Str := (["a", "b", "c", "d"] : List Str).filter fun s => has s f
def waysP (m : Nat) (ns : List Str) : List (List (D × D)) := ns.foldl (fun ws s => ws.flatMap fun w => (List.range m).map fun k => kPut w (.str s) (nD k)) [[]]
def keptP (T : Tb) (f : Fm) : Bool := (waysP T.m (namesOf f)).all fun w => T.des.contains (vF T w f)
def sz : Fm → Nat
  | .ltr _ => 1
  | .neg a => sz a + 1
  | .imp a b => sz a + sz b + 1
def ab : Fm → Bool
  | .ltr s => s == "a" || s == "b"
  | .neg a => ab a
  | .imp a b => ab a && ab b
def fmL : Nat → List Fm
  | 0 => []
  | n + 1 => [.ltr "a", .ltr "b"] ++ (fmL n).map .neg ++ (fmL n).flatMap fun a => ((fmL n).filter fun b => decide (sz a + sz b ≤ n)).map fun b => .imp a b
theorem sz_pos : ∀ f, 1 ≤ sz f
  | .ltr _ => by simp [sz]
  | .neg a => by simp [sz]
  | .imp a b => by simp [sz]
theorem fmL_mem : ∀ (n : Nat) (f : Fm), sz f ≤ n → ab f = true → f ∈ fmL n
  | 0, f, h, _ => by have := sz_pos f; omega
  | n + 1, .ltr s, h, q => by
    simp only [ab, Bool.or_eq_true, beq_iff_eq] at q
    simp only [fmL, List.mem_append]
    rcases q with rfl | rfl <;> exact .inl (.inl (by simp))
  | n + 1, .neg a, h, q => by
    simp only [fmL, List.mem_append]
    exact .inl (.inr (List.mem_map.mpr ⟨a, fmL_mem n a (by simp only [sz] at h; omega) q, rfl⟩))
  | n + 1, .imp a b, h, q => by
    simp only [ab, Bool.and_eq_true] at q
    simp only [sz] at h
    have := sz_pos a
    have := sz_pos b
    simp only [fmL, List.mem_append]
    exact .inr (List.mem_flatMap.mpr ⟨a, fmL_mem n a (by omega) q.1, List.mem_map.mpr ⟨b, List.mem_filter.mpr ⟨fmL_mem n b (by omega) q.2, by simp; omega⟩, rfl⟩⟩)
def lA : Fm := .ltr "a"
def lB : Fm := .ltr "b"
def lC : Fm := .ltr "c"
def lD : Fm := .ltr "d"
def axF : Nat → Fm
  | 1 => .imp lA (.imp lB lA)
  | 2 => .imp (.imp lC (.imp lB lA)) (.imp (.imp lC lB) (.imp lC lA))
  | 3 => .imp (.imp lD (.imp lB lA)) (.imp lB (.imp lD lA))
  | 4 => .imp (.imp lB lA) (.imp (.neg lA) (.neg lB))
  | 5 => .imp (.neg (.neg lA)) lA
  | _ => .imp lA (.neg (.neg lA))
def AXS : List Nat := [1, 2, 3, 4, 5, 6]
def FL : List Fm := fmL 6 ++ AXS.map axF
def NS : List (List Str) := [["a"], ["b"], ["a", "b"], ["a", "b", "c"], ["a", "b", "d"]]
def desL : Nat → List (List Nat)
  | 1 => [[], [0]]
  | _ => [[], [0], [0, 1], [1]]
def rowsL (m : Nat) : Nat → List (List Nat)
  | 0 => [[]]
  | k + 1 => (rowsL m k).flatMap fun r => (List.range m).map fun x => r ++ [x]
def cutL (m : Nat) (r : List Nat) : List (List Nat) := (List.range m).map fun k => (r.drop (m * k)).take m
def tbL (m : Nat) : List Tb := (desL m).flatMap fun ds => (rowsL m m).flatMap fun ns => (rowsL m (m * m)).map fun r => ⟨m, ds, ns, cutL m r⟩
def TL : List Tb := tbL 1 ++ tbL 2
def isV (r : Rz) (v : D) : Bool := match r with | some (x, _) => decide (x = v) | none => false
theorem isV_to {r : Rz} {v : D} (h : isV r v = true) : ∃ g, r = some (v, g) := by
  cases r with
  | none => simp [isV] at h
  | some p =>
    obtain ⟨x, g⟩ := p
    simp [isV] at h
    exact ⟨g, by rw [h]⟩
def isLast (r : Rz) (vs : List D) : Bool := match r with | some (.ref n, g) => decide (n + 1 = g.length) && isLst g[n]? vs | _ => false
theorem isLast_to {r : Rz} {vs : List D} (h : isLast r vs = true) : ∃ g : HI, r = some (.ref g.length, g ++ [.lst vs]) := by
  unfold isLast at h
  split at h
  · rename_i n g
    rw [Bool.and_eq_true] at h
    have h1 := of_decide_eq_true h.1
    have h2 := isLst_to h.2
    refine ⟨g.take n, ?_⟩
    have hl : (g.take n).length = n := by simp; omega
    rw [hl]
    have : g.take n ++ [.lst vs] = g := by
      have e : g.take (n + 1) = g := List.take_of_length_le (by omega)
      rw [List.take_add_one, h2] at e
      exact e
    rw [this]
  · cases h
def dics (g : HI) : List D → Option (List (List (D × D)))
  | [] => some []
  | .ref n :: r => match g[n]? with
    | some (.dic kvs) => (dics g r).map fun t => kvs :: t
    | _ => none
  | _ :: _ => none
def isW (r : Rz) (ws : List (List (D × D))) : Bool := match r with
  | some (.ref n, g) => match g[n]? with
    | some (.lst ds) => decide (dics g ds = some ws)
    | _ => false
  | _ => false
def WaysAt (h : HI) (n : Nat) (ws : List (List (D × D))) : Prop := ∃ ds, h[n]? = some (.lst ds) ∧ ds.length = ws.length ∧ ∀ (j : Nat) (w : List (D × D)), ws[j]? = some w → ∃ m, ds[j]? = some (D.ref m) ∧ h[m]? = some (HB.dic w)
def flatK (w : List (D × D)) : Bool := w.all fun p => D.flat 1 p.1 && D.flat 1 p.2
theorem shK_flat (n : Nat) : ∀ {w : List (D × D)}, flatK w = true → shK n w = w
  | [], _ => rfl
  | (k, v) :: r, h => by
    simp only [flatK, List.all_cons, Bool.and_eq_true] at h
    have := shK_flat n (w := r) h.2
    simp only [shK, List.map_cons] at this ⊢
    rw [this, flat_sh n 1 k h.1.1, flat_sh n 1 v h.1.2]
theorem dics_at {h g : HI} : ∀ {ds : List D} {ws : List (List (D × D))}, dics g ds = some ws → (∀ w ∈ ws, flatK w = true) → (ds.map (D.sh h.length)).length = ws.length ∧ ∀ (j : Nat) (w : List (D × D)), ws[j]? = some w → ∃ m, (ds.map (D.sh h.length))[j]? = some (D.ref m) ∧ (h ++ g.map (shB h.length))[m]? = some (HB.dic w)
  | [], ws, e, _ => by
    simp [dics] at e
    subst e
    exact ⟨rfl, fun j w e => by simp at e⟩
  | d :: r, ws, e, hf => by
    cases d with
    | ref n =>
      simp only [dics] at e
      split at e
      · rename_i kvs hk
        obtain ⟨t, e1, rfl⟩ := Option.map_eq_some_iff.mp e
        obtain ⟨i1, i2⟩ := dics_at (h := h) e1 fun w hw => hf w (List.mem_cons_of_mem _ hw)
        refine ⟨by simp only [List.map_cons, List.length_cons, i1], fun j w ej => ?_⟩
        cases j with
        | zero =>
          simp only [List.getElem?_cons_zero, Option.some.injEq] at ej
          subst ej
          refine ⟨h.length + n, by simp [D.sh], ?_⟩
          rw [List.getElem?_append_right (by omega), List.getElem?_map, Nat.add_sub_cancel_left, hk]
          simp only [Option.map_some, shB]
          rw [shK_flat _ (hf _ List.mem_cons_self)]
        | succ j =>
          simp only [List.getElem?_cons_succ] at ej
          obtain ⟨m, k1, k2⟩ := i2 j w ej
          exact ⟨m, by simpa using k1, k2⟩
      · cases e
    | _ => simp [dics] at e
theorem isW_to {r : Rz} {ws : List (List (D × D))} (h : isW r ws = true) (hf : ws.all flatK = true) : ∃ n g, r = some (.ref n, g) ∧ ∀ h0 : HI, WaysAt (h0 ++ g.map (shB h0.length)) (h0.length + n) ws := by
  unfold isW at h
  split at h
  · rename_i n g
    refine ⟨n, g, rfl, fun h0 => ?_⟩
    split at h
    · rename_i ds hd
      obtain ⟨k1, k2⟩ := dics_at (h := h0) (of_decide_eq_true h) fun w hw => List.all_eq_true.mp hf w hw
      refine ⟨ds.map (D.sh h0.length), ?_, k1, k2⟩
      rw [List.getElem?_append_right (by omega), List.getElem?_map, Nat.add_sub_cancel_left, hd]
      simp only [Option.map_some, shB]
      rw [shs_map]
    · cases h
  · cases h
def isT (r : Rz) (vs : List D) : Bool := match r with | some (.ref n, g) => isLst g[n]? vs | _ => false
theorem isT_to {r : Rz} {vs : List D} (h : isT r vs = true) : ∃ n g, r = some (.ref n, g) ∧ g[n]? = some (.lst vs) := by
  unfold isT at h
  split at h
  · rename_i n g
    exact ⟨n, g, rfl, isLst_to h⟩
  · cases h
def chkF (f : Fm) : Bool := isV (callI P 5000 105 0 [f.d] []) (.tup ((namesOf f).map .str)) && isLast (callI P 5000 106 25 [f.d] []) ((namesOf f).map .str) && (waysP 1 (namesOf f)).all (envB 1 · f) && (waysP 2 (namesOf f)).all (envB 2 · f) && decide (f.dep ≤ 20) && NS.contains (namesOf f) && D.flat deep f.d
def chkN (m : Nat) (ns : List Str) : Bool := isW (callI P 5000 105 4 [.tup (ns.map .str), .int m] []) (waysP m ns) && isW (callI P 5000 106 23 [.ref 0, .int m] [.lst (ns.map .str)]) (waysP m ns) && (waysP m ns).all flatK && D.flat deep (.tup (ns.map .str))
def chkT (T : Tb) : Bool := isV (callI P 5000 106 8 [T.d] []) (.bl true) && isV (callI P 5000 107 21 [T.d] []) (.bl true) && isV (callI P 5000 106 6 [T.d] []) (.bl T.kr) && isV (callI P 5000 107 22 [T.d] []) (.bl T.kr) && isV (callI P 5000 108 29 [T.d, T.d] []) (.bl true) && T.ok && D.flat deep T.d
def chkA (k : Nat) : Bool := isV (callI P 5000 106 1 [.int k] []) (axF k).d && isV (callI P 5000 107 17 [.int k] []) (axF k).d && isV (callI P 5000 108 17 [.int k] []) (axF k).d
end K63
namespace K63
open PySem MP
theorem okP : P.all (fun d => okSs d.body) = true := by decide +kernel
theorem chkN_all : NS.all (fun ns => chkN 1 ns && chkN 2 ns) = true := by decide +kernel
theorem chkA_all : AXS.all chkA = true := by decide +kernel
def ckT (i : Nat) : Bool := ((TL.drop (16 * i)).take 16).all chkT
theorem ckT_0 : ckT 0 = true := by decide +kernel
theorem ckT_1 : ckT 1 = true := by decide +kernel
theorem ckT_2 : ckT 2 = true := by decide +kernel
theorem ckT_3 : ckT 3 = true := by decide +kernel
theorem ckT_4 : ckT 4 = true := by decide +kernel
theorem ckT_5 : ckT 5 = true := by decide +kernel
theorem ckT_6 : ckT 6 = true := by decide +kernel
theorem ckT_7 : ckT 7 = true := by decide +kernel
theorem ckT_8 : ckT 8 = true := by decide +kernel
theorem ckT_9 : ckT 9 = true := by decide +kernel
theorem ckT_10 : ckT 10 = true := by decide +kernel
theorem ckT_11 : ckT 11 = true := by decide +kernel
theorem ckT_12 : ckT 12 = true := by decide +kernel
theorem ckT_13 : ckT 13 = true := by decide +kernel
theorem ckT_14 : ckT 14 = true := by decide +kernel
theorem ckT_15 : ckT 15 = true := by decide +kernel
theorem ckT_16 : ckT 16 = true := by decide +kernel
theorem all_of {α : Type} {p : α → Bool} : ∀ (n : Nat) (l : List α), l.length ≤ 16 * n → (∀ i, i < n → ((l.drop (16 * i)).take 16).all p = true) → l.all p = true
  | 0, l, hl, _ => by
    have : l = [] := List.eq_nil_of_length_eq_zero (by omega)
    rw [this]
    rfl
  | n + 1, l, hl, h => by
    have h0 := h 0 (by omega)
    rw [Nat.mul_zero, List.drop_zero] at h0
    have h1 := all_of n (l.drop 16) (by rw [List.length_drop]; omega) fun i hi => by
      have := h (i + 1) (by omega)
      rw [List.drop_drop, show 16 + 16 * i = 16 * (i + 1) by omega]
      exact this
    rw [← List.take_append_drop 16 l, List.all_append, h0, h1]
    rfl
def ckF (i : Nat) : Bool := ((FL.drop (16 * i)).take 16).all chkF
theorem ckF_0 : ckF 0 = true := by decide +kernel
theorem ckF_1 : ckF 1 = true := by decide +kernel
theorem ckF_2 : ckF 2 = true := by decide +kernel
theorem ckF_3 : ckF 3 = true := by decide +kernel
theorem ckF_4 : ckF 4 = true := by decide +kernel
theorem ckF_5 : ckF 5 = true := by decide +kernel
theorem ckF_6 : ckF 6 = true := by decide +kernel
theorem ckF_7 : ckF 7 = true := by decide +kernel
theorem ckF_8 : ckF 8 = true := by decide +kernel
theorem ckF_9 : ckF 9 = true := by decide +kernel
theorem ckF_10 : ckF 10 = true := by decide +kernel
theorem ckF_11 : ckF 11 = true := by decide +kernel
theorem ckF_12 : ckF 12 = true := by decide +kernel
theorem FL_194 : FL.length = 194 := by decide +kernel
theorem chkF_all : FL.all chkF = true := by
  refine all_of 13 FL (by rw [FL_194]; decide) fun i hi => ?_
  match i, hi with
  | 0, _ => exact ckF_0
  | 1, _ => exact ckF_1
  | 2, _ => exact ckF_2
  | 3, _ => exact ckF_3
  | 4, _ => exact ckF_4
  | 5, _ => exact ckF_5
  | 6, _ => exact ckF_6
  | 7, _ => exact ckF_7
  | 8, _ => exact ckF_8
  | 9, _ => exact ckF_9
  | 10, _ => exact ckF_10
  | 11, _ => exact ckF_11
  | 12, _ => exact ckF_12
  | n + 13, h => omega
theorem TL_258 : TL.length = 258 := by decide +kernel
theorem chkT_all : TL.all chkT = true := by
  refine all_of 17 TL (by rw [TL_258]; decide) fun i hi => ?_
  match i, hi with
  | 0, _ => exact ckT_0
  | 1, _ => exact ckT_1
  | 2, _ => exact ckT_2
  | 3, _ => exact ckT_3
  | 4, _ => exact ckT_4
  | 5, _ => exact ckT_5
  | 6, _ => exact ckT_6
  | 7, _ => exact ckT_7
  | 8, _ => exact ckT_8
  | 9, _ => exact ckT_9
  | 10, _ => exact ckT_10
  | 11, _ => exact ckT_11
  | 12, _ => exact ckT_12
  | 13, _ => exact ckT_13
  | 14, _ => exact ckT_14
  | 15, _ => exact ckT_15
  | 16, _ => exact ckT_16
  | n + 17, h => omega
theorem tb1 : isT (callI P 5000 108 30 [.int 1] []) ((tbL 1).map Tb.d) = true := by decide +kernel
theorem tb2 : isT (callI P 5000 108 30 [.int 2] []) ((tbL 2).map Tb.d) = true := by decide +kernel
theorem rw11 : isT (callI P 5000 107 10 [.int 1, .int 1] []) ((rowsL 1 1).map rowD) = true := by decide +kernel
theorem rw22 : isT (callI P 5000 107 10 [.int 2, .int 2] []) ((rowsL 2 2).map rowD) = true := by decide +kernel
theorem rw24 : isT (callI P 5000 107 10 [.int 2, .int 4] []) ((rowsL 2 4).map rowD) = true := by decide +kernel
theorem sameN : isV (callI P 5000 108 29 [.non, .non] []) (.bl true) = true := by decide +kernel
end K63
namespace K63
open PySem MP
theorem at_row {l : List Nat} {k : Nat} {h : HI} (hk : k < l.length) : idxD (rowD l) (.int (k : Nat)) h = some (.int ((l.getD k 0 : Nat) : Int), h) := by
  have e : (l.map nD)[k]? = some (nD (l.getD k 0)) := by
    rw [List.getElem?_map, List.getElem?_eq_getElem hk, List.getD_eq_getElem?_getD, List.getElem?_eq_getElem hk]
    rfl
  simp only [rowD, idxD, at_nat e, Option.map_some, nD]
theorem at_rows {l : List (List Nat)} {k : Nat} {h : HI} (hk : k < l.length) : idxD (.tup (l.map rowD)) (.int (k : Nat)) h = some (rowD (l.getD k []), h) := by
  have e : (l.map rowD)[k]? = some (rowD (l.getD k [])) := by
    rw [List.getElem?_map, List.getElem?_eq_getElem hk, List.getD_eq_getElem?_getD, List.getElem?_eq_getElem hk]
    rfl
  simp only [idxD, at_nat e, Option.map_some]
theorem tix {ds : List D} {k : Nat} {d : D} {h : HI} (e : ds[k]? = some d) : idxD (.tup ds) (.int (k : Nat)) h = some (d, h) := by
  simp only [idxD, at_nat e, Option.map_some]
theorem T1 {T : Tb} {h : HI} : idxD T.d (.int 1) h = some (nD T.m, h) := tix (k := 1) rfl
theorem T2 {T : Tb} {h : HI} : idxD T.d (.int 2) h = some (rowD T.des, h) := tix (k := 2) rfl
theorem T3 {T : Tb} {h : HI} : idxD T.d (.int 3) h = some (rowD T.nots, h) := tix (k := 3) rfl
theorem T4 {T : Tb} {h : HI} : idxD T.d (.int 4) h = some (.tup (T.ifs.map rowD), h) := tix (k := 4) rfl
theorem nl : (("not" : Str) == ("letter" : Str)) = false := by decide
theorem il : (("if" : Str) == ("letter" : Str)) = false := by decide
theorem inn : (("if" : Str) == ("not" : Str)) = false := by decide
theorem nn : (("not" : Str) == ("not" : Str)) = true := by decide
theorem F0 {x y : D} {r : List D} {h : HI} : idxD (.tup (x :: r)) (.int 0) h = some (x, h) := ix0
theorem ix2 {x y z : D} {r : List D} {h : HI} : idxD (.tup (x :: y :: z :: r)) (.int 2) h = some (z, h) := tix (k := 2) rfl
structure Ok (T : Tb) : Prop where
  nots : T.nots.length = T.m
  nlt : ∀ k, k < T.m → T.nots.getD k 0 < T.m
  ifs : T.ifs.length = T.m
  ifl : ∀ k, k < T.m → (T.ifs.getD k []).length = T.m
  ilt : ∀ k j, k < T.m → j < T.m → (T.ifs.getD k []).getD j 0 < T.m
theorem row_lt {m : Nat} {l : List Nat} (h : rowOk m l = true) : l.length = m ∧ ∀ k, k < m → l.getD k 0 < m := by
  simp only [rowOk, Bool.and_eq_true, beq_iff_eq, List.all_eq_true, decide_eq_true_eq] at h
  refine ⟨h.1, fun k hk => ?_⟩
  rw [List.getD_eq_getElem?_getD, List.getElem?_eq_getElem (by omega)]
  exact h.2 _ (List.getElem_mem _)
theorem Ok.of {T : Tb} (h : T.ok = true) : Ok T ∧ T.m ≤ 2 ∧ 1 ≤ T.m := by
  simp only [Tb.ok, Bool.and_eq_true, beq_iff_eq, List.all_eq_true, decide_eq_true_eq] at h
  obtain ⟨⟨⟨⟨h1, h2⟩, h3⟩, h4⟩, h5⟩ := h
  have key : ∀ k, k < T.m → rowOk T.m (T.ifs.getD k []) = true := fun k hk => by
    rw [List.getD_eq_getElem?_getD, List.getElem?_eq_getElem (by omega)]
    exact h3 _ (List.getElem_mem _)
  exact ⟨⟨(row_lt h1).1, (row_lt h1).2, h2, fun k hk => (row_lt (key k hk)).1, fun k j hk hj => (row_lt (key k hk)).2 j hj⟩, h4, h5⟩
section
variable {wf : Nat}
def bVal (iv : Nat) : MSs := (.cons (.ite (.cmp .eq (.idx (.var 1) (.cst (.int 0))) (.cst (.str "letter"))) (.cons (.ret (.idx (.var 2) (.idx (.var 1) (.cst (.int 1))))) .nil) .nil) (.cons (.ite (.cmp .eq (.idx (.var 1) (.cst (.int 0))) (.cst (.str "not"))) (.cons (.ret (.idx (.idx (.var 0) (.cst (.int 3))) (.call iv (.cons (.var 0) (.cons (.idx (.var 1) (.cst (.int 1))) (.cons (.var 2) .nil)))))) .nil) .nil) (.cons (.ret (.idx (.idx (.idx (.var 0) (.cst (.int 4))) (.call iv (.cons (.var 0) (.cons (.idx (.var 1) (.cst (.int 1))) (.cons (.var 2) .nil))))) (.call iv (.cons (.var 0) (.cons (.idx (.var 1) (.cst (.int 2))) (.cons (.var 2) .nil)))))) .nil)))
theorem run_value {P : List Def} {iv n : Nat} {h : HI} {T : Tb} {ev : List (D × D)} (hP : P[iv]? = some ⟨3, 3, bVal iv⟩) (ok : Ok T) (hn : h[n]? = some (.dic ev)) : ∀ (j : Nat) (f : Fm), f.dep ≤ j → envB T.m ev f = true → vF T ev f < T.m ∧ ∀ {Q : D × HI → Prop}, Q (.int ((vF T ev f : Nat) : Int), h) → wO (callI P wf j iv [T.d, f.d, .ref n] h) Q
  | 0, f, hd, _ => by cases f <;> simp [Fm.dep] at hd
  | j + 1, .ltr s, hd, he => by
    simp only [envB] at he
    split at he
    · rename_i k hk
      have he := of_decide_eq_true he
      have ev1 : vF T ev (.ltr s) = k.toNat := by simp only [vF, hk]
      refine ⟨by rw [ev1]; omega, fun {Q} q => ?_⟩
      rw [ev1] at q
      have e : ((k.toNat : Nat) : Int) = k := by omega
      rw [e] at q
      refine wC hP rfl ?_
      have ei : idxD (.ref n) (.str s) h = some (.int k, h) := by simp [idxD, hn, D.key, hk]
      simp only [bVal, startD, List.map_cons, List.map_nil, List.length_cons, List.length_nil, List.replicate, List.cons_append, List.nil_append, Fm.d, ↓wE_var, ↓wE_cst, ↓wE_glb, ↓wE_tup, ↓wE_lst, ↓wE_dnew, ↓wE_bin, ↓wE_cmp, ↓wE_not, ↓wE_or, ↓wE_and, ↓wE_idx, ↓wE_slc, ↓wE_omit, ↓wE_call, ↓wE_blt, ↓wE_isi, ↓wE_mth, ↓wL_nil, ↓wL_cons, ↓wB_nil, ↓wB_cons, ↓wS_asg, ↓wS_sub, ↓wS_expr, ↓wS_ret, ↓wS_ite, ↓wI_ex, ↓wI_rng, ↓wI_zip, wV, wW, wO_some, o_int, i_add, i_sub, m_48271, m_69621, m_16807, m_2, m_7, r_1000, r_m31, r_26, f_1000, f_997, f_26, p_18, c_lt, c_gt, c_ge, c_str, t_bl, b_int, ix0, ix1, ll, if_true, ei]
      exact q
    · cases he
  | j + 1, .neg a, hd, he => by
    simp only [envB] at he
    simp only [Fm.dep] at hd
    obtain ⟨i1, i2⟩ := run_value hP ok hn j a (by omega) he
    refine ⟨by simp only [vF]; exact ok.nlt _ i1, fun {Q} q => ?_⟩
    refine wC hP rfl ?_
    simp only [bVal, startD, List.map_cons, List.map_nil, List.length_cons, List.length_nil, List.replicate, List.cons_append, List.nil_append, Fm.d, ↓wE_var, ↓wE_cst, ↓wE_glb, ↓wE_tup, ↓wE_lst, ↓wE_dnew, ↓wE_bin, ↓wE_cmp, ↓wE_not, ↓wE_or, ↓wE_and, ↓wE_idx, ↓wE_slc, ↓wE_omit, ↓wE_call, ↓wE_blt, ↓wE_isi, ↓wE_mth, ↓wL_nil, ↓wL_cons, ↓wB_nil, ↓wB_cons, ↓wS_asg, ↓wS_sub, ↓wS_expr, ↓wS_ret, ↓wS_ite, ↓wI_ex, ↓wI_rng, ↓wI_zip, wV, wW, wO_some, o_int, i_add, i_sub, m_48271, m_69621, m_16807, m_2, m_7, r_1000, r_m31, r_26, f_1000, f_997, f_26, p_18, c_lt, c_gt, c_ge, c_str, t_bl, b_int, ix0, ix1, nl, nn, Bool.false_eq_true, if_true, if_false, T3]
    refine i2 ?_
    simp only [at_row (l := T.nots) (k := vF T ev a) (by rw [ok.nots]; exact i1), wO_some]
    exact q
  | j + 1, .imp a b, hd, he => by
    simp only [envB, Bool.and_eq_true] at he
    simp only [Fm.dep] at hd
    obtain ⟨i1, i2⟩ := run_value hP ok hn j a (by omega) he.1
    obtain ⟨j1, j2⟩ := run_value hP ok hn j b (by omega) he.2
    refine ⟨by simp only [vF]; exact ok.ilt _ _ i1 j1, fun {Q} q => ?_⟩
    refine wC hP rfl ?_
    simp only [bVal, startD, List.map_cons, List.map_nil, List.length_cons, List.length_nil, List.replicate, List.cons_append, List.nil_append, Fm.d, ↓wE_var, ↓wE_cst, ↓wE_glb, ↓wE_tup, ↓wE_lst, ↓wE_dnew, ↓wE_bin, ↓wE_cmp, ↓wE_not, ↓wE_or, ↓wE_and, ↓wE_idx, ↓wE_slc, ↓wE_omit, ↓wE_call, ↓wE_blt, ↓wE_isi, ↓wE_mth, ↓wL_nil, ↓wL_cons, ↓wB_nil, ↓wB_cons, ↓wS_asg, ↓wS_sub, ↓wS_expr, ↓wS_ret, ↓wS_ite, ↓wI_ex, ↓wI_rng, ↓wI_zip, wV, wW, wO_some, o_int, i_add, i_sub, m_48271, m_69621, m_16807, m_2, m_7, r_1000, r_m31, r_26, f_1000, f_997, f_26, p_18, c_lt, c_gt, c_ge, c_str, t_bl, b_int, ix0, ix1, ix2, il, inn, Bool.false_eq_true, if_true, if_false, T4]
    refine i2 ?_
    simp only [at_rows (l := T.ifs) (k := vF T ev a) (by rw [ok.ifs]; exact i1), wO_some]
    refine j2 ?_
    simp only [at_row (l := T.ifs.getD (vF T ev a) []) (k := vF T ev b) (by rw [ok.ifl _ i1]; exact j1), wO_some]
    exact q
theorem any_row {l : List Nat} {k : Nat} : anyEq (.int (k : Nat)) (l.map nD) = l.contains k := by
  induction l with
  | nil => rfl
  | cons x r ih =>
    simp only [anyEq, List.map_cons, List.any_cons] at ih ⊢
    rw [ih, List.contains_cons]
    congr 1
    simp only [D.eqv, nD]
    rw [Bool.eq_iff_iff, beq_iff_eq, beq_iff_eq]
    omega
theorem flats_row {l : List Nat} : D.flats deep (l.map nD) = true := by
  induction l with
  | nil => rfl
  | cons x r ih => simp only [List.map_cons, D.flats, ih, nD, flat_int, Bool.and_self]
theorem in_row {l : List Nat} {k : Nat} {h : HI} : cmpB .inn (.int (k : Nat)) (rowD l) h = some (l.contains k) := by
  rw [← any_row]
  simp [cmpB, inD, rowD, flats_row]
theorem nin_row {l : List Nat} {k : Nat} {h : HI} : cmpB .nin (.int (k : Nat)) (rowD l) h = some (!l.contains k) := by
  rw [← any_row]
  simp [cmpB, inD, rowD, flats_row]
end
end K63
namespace K63
open PySem MP
theorem factF {f : Fm} (hf : f ∈ FL) : (∃ g, callI P 5000 105 0 [f.d] [] = some (.tup ((namesOf f).map .str), g)) ∧ (∃ g : HI, callI P 5000 106 25 [f.d] [] = some (.ref g.length, g ++ [.lst ((namesOf f).map .str)])) ∧
    (∀ m, 1 ≤ m → m ≤ 2 → ∀ w ∈ waysP m (namesOf f), envB m w f = true) ∧ f.dep ≤ 20 ∧ namesOf f ∈ NS ∧ D.flats deep [f.d] = true := by
  have z := List.all_eq_true.mp chkF_all f hf
  simp only [chkF, Bool.and_eq_true, List.all_eq_true, decide_eq_true_eq, List.contains_iff_mem] at z
  obtain ⟨⟨⟨⟨⟨⟨z1, z2⟩, z3⟩, z4⟩, z5⟩, z6⟩, z7⟩ := z
  refine ⟨isV_to z1, isLast_to z2, fun m h1 h2 => ?_, z5, z6, by simp [D.flats, z7]⟩
  rcases (show m = 1 ∨ m = 2 by omega) with rfl | rfl
  · exact z3
  · exact z4
theorem factN {ns : List Str} (hn : ns ∈ NS) {m : Nat} (h1 : 1 ≤ m) (h2 : m ≤ 2) : chkN m ns = true := by
  have z := List.all_eq_true.mp chkN_all ns hn
  simp only [Bool.and_eq_true] at z
  rcases (show m = 1 ∨ m = 2 by omega) with rfl | rfl
  · exact z.1
  · exact z.2
theorem letters_at {f : Fm} (hf : f ∈ FL) (h : HI) : ∃ h1, Pre h h1 ∧ callI P 5000 105 0 [f.d] h = some (.tup ((namesOf f).map .str), h1) := by
  obtain ⟨⟨g, e⟩, _, _, _, hn, hd⟩ := factF hf
  have z := factN hn (m := 1) (by omega) (by omega)
  simp only [chkN, Bool.and_eq_true] at z
  have := run_closed okP hd e h
  rw [flat_sh _ deep _ z.2] at this
  exact ⟨_, Pre.app _, this⟩
theorem ways_at {ns : List Str} (hn : ns ∈ NS) {m : Nat} (h1 : 1 ≤ m) (h2 : m ≤ 2) (h : HI) : ∃ r h1, Pre h h1 ∧ callI P 5000 105 4 [.tup (ns.map .str), .int (m : Nat)] h = some (.ref r, h1) ∧ WaysAt h1 r (waysP m ns) := by
  have z := factN hn h1 h2
  simp only [chkN, Bool.and_eq_true] at z
  obtain ⟨⟨⟨z1, z2⟩, z3⟩, z4⟩ := z
  obtain ⟨r, g, e, w⟩ := isW_to z1 z3
  have := run_closed okP (by simp [D.flats, z4]) e h
  exact ⟨_, _, Pre.app _, this, w h⟩
theorem names_at {f : Fm} (hf : f ∈ FL) (h : HI) : ∃ h0 : HI, Pre h h0 ∧ callI P 5000 106 25 [f.d] h = some (.ref h0.length, h0 ++ [.lst ((namesOf f).map .str)]) := by
  obtain ⟨_, ⟨g, e⟩, _, _, hn, hd⟩ := factF hf
  have z := factN hn (m := 1) (by omega) (by omega)
  simp only [chkN, Bool.and_eq_true] at z
  have := run_closed okP hd e h
  have e2 : D.shs h.length ((namesOf f).map D.str) = (namesOf f).map D.str := by
    have := flat_sh h.length deep _ z.2
    simpa [D.sh] using this
  refine ⟨h ++ g.map (shB h.length), ?_, ?_⟩
  · exact Pre.app _
  · rw [this]
    simp [D.sh, shB, e2]
theorem lways_at {ns : List Str} (hn : ns ∈ NS) {m : Nat} (h1 : 1 ≤ m) (h2 : m ≤ 2) (h0 : HI) : ∃ r h1, Pre h0 h1 ∧ callI P 5000 106 23 [.ref h0.length, .int (m : Nat)] (h0 ++ [.lst (ns.map .str)]) = some (.ref r, h1) ∧ WaysAt h1 r (waysP m ns) := by
  have z := factN hn h1 h2
  simp only [chkN, Bool.and_eq_true] at z
  obtain ⟨⟨⟨z1, z2⟩, z3⟩, z4⟩ := z
  obtain ⟨r, g, e, w⟩ := isW_to z2 z3
  have := fr_call (h0 := h0) okP (wf := 5000) 106 23 [.ref 0, .int (m : Nat)] [.lst (ns.map .str)]
  have e2 : D.shs h0.length (ns.map D.str) = ns.map D.str := by
    have := flat_sh h0.length deep _ z4
    simpa [D.sh] using this
  have e3 : callI P 5000 106 23 [D.ref 0, .int (m : Nat)] [.lst (ns.map .str)] = some (.ref r, g) := e
  rw [e3] at this
  simp only [sDs, D.shs, D.sh, shH, List.map_cons, List.map_nil, shB, e2, Nat.add_zero, Option.map_some, shR] at this
  exact ⟨_, _, Pre.app _, this, w h0⟩
section
variable {T : Tb} {f : Fm} {h : HI} {Q : D × HI → Prop}
theorem way_nx {h1 : HI} {r : Nat} {ws : List (List (D × D))} (w : WaysAt h1 r ws) : itOf (.ref r) h1 = some (.live r ws.length) ∧ (∀ j, j < ws.length → ∃ m, (It.live r ws.length).nx j h1 = some (.ref m) ∧ h1[m]? = some (.dic (ws.getD j []))) ∧ (It.live r ws.length).fin h1 = true := by
  obtain ⟨ds, e1, e2, e3⟩ := w
  refine ⟨by simp [itOf, lstOf, e1, e2], fun j hj => ?_, by simp [It.fin, lstOf, e1, e2]⟩
  obtain ⟨m, k1, k2⟩ := e3 j _ (List.getElem?_eq_getElem hj)
  refine ⟨m, by simp only [It.nx, lstOf, e1, Option.bind_some, k1], ?_⟩
  rw [k2, List.getD_eq_getElem?_getD, List.getElem?_eq_getElem hj]
  rfl
theorem all_step {α : Type} {p : α → Bool} {l : List α} {j : Nat} (hj : j < l.length) (d : α) (h : (l.take j).all p = true) : (p (l.getD j d) = true → (l.take (j + 1)).all p = true) ∧ (p (l.getD j d) = false → l.all p = false) := by
  have e : l.getD j d = l[j] := by rw [List.getD_eq_getElem?_getD, List.getElem?_eq_getElem hj]; rfl
  rw [e]
  refine ⟨fun q => ?_, fun q => ?_⟩
  · rw [List.take_add_one, List.getElem?_eq_getElem hj, List.all_append, h]
    simp [q]
  · rw [List.all_eq_false]
    exact ⟨_, List.getElem_mem hj, by simp [q]⟩
theorem run_is_kept (ok : T.ok = true) (hf : f ∈ FL) (q : ∀ h', Pre h h' → Q (.bl (keptP T f), h')) : wO (callI P 5000 106 5 [T.d, f.d] h) Q := by
  obtain ⟨ok, m2, m1⟩ := Ok.of ok
  obtain ⟨_, _, env, dep, hn, _⟩ := factF hf
  refine wC (d := ⟨2, 3, b5⟩) rfl rfl ?_
  obtain ⟨h1, p1, e1⟩ := letters_at hf h
  obtain ⟨r, h2, p2, e2, w⟩ := ways_at hn m1 m2 h1
  obtain ⟨w1, w2, w3⟩ := way_nx w
  simp only [b5, startD, List.map_cons, List.map_nil, List.length_cons, List.length_nil, List.replicate, List.cons_append, List.nil_append, ↓wE_var, ↓wE_cst, ↓wE_glb, ↓wE_tup, ↓wE_lst, ↓wE_dnew, ↓wE_bin, ↓wE_cmp, ↓wE_not, ↓wE_or, ↓wE_and, ↓wE_idx, ↓wE_slc, ↓wE_omit, ↓wE_call, ↓wE_blt, ↓wE_isi, ↓wE_mth, ↓wL_nil, ↓wL_cons, ↓wB_nil, ↓wB_cons, ↓wS_asg, ↓wS_sub, ↓wS_expr, ↓wS_ret, ↓wS_ite, ↓wI_ex, ↓wI_rng, ↓wI_zip, wV, wW]
  refine wE_gall (fun j H => H = h2 ∧ ((waysP T.m (namesOf f)).take j).all (fun w => T.des.contains (vF T w f)) = true) ?_
  simp only [↓wE_var, ↓wE_cst, ↓wE_glb, ↓wE_tup, ↓wE_lst, ↓wE_dnew, ↓wE_bin, ↓wE_cmp, ↓wE_not, ↓wE_or, ↓wE_and, ↓wE_idx, ↓wE_slc, ↓wE_omit, ↓wE_call, ↓wE_blt, ↓wE_isi, ↓wE_mth, ↓wL_nil, ↓wL_cons, ↓wB_nil, ↓wB_cons, ↓wS_asg, ↓wS_sub, ↓wS_expr, ↓wS_ret, ↓wS_ite, ↓wI_ex, ↓wI_rng, ↓wI_zip, wV, wW, e1, wO_some, T1]
  simp only [nD, e2, wO_some, w1]
  refine ⟨⟨trivial, by simp⟩, ?_, ?_⟩
  · rintro j H hj ⟨rfl, ha⟩
    have hj : j < (waysP T.m (namesOf f)).length := hj
    obtain ⟨n, k1, k2⟩ := w2 j hj
    refine ⟨_, k1, ?_⟩
    rw [← wW_eq]
    simp only [wipeD, List.set, ↓wE_var, ↓wE_cst, ↓wE_glb, ↓wE_tup, ↓wE_lst, ↓wE_dnew, ↓wE_bin, ↓wE_cmp, ↓wE_not, ↓wE_or, ↓wE_and, ↓wE_idx, ↓wE_slc, ↓wE_omit, ↓wE_call, ↓wE_blt, ↓wE_isi, ↓wE_mth, ↓wL_nil, ↓wL_cons, ↓wB_nil, ↓wB_cons, ↓wS_asg, ↓wS_sub, ↓wS_expr, ↓wS_ret, ↓wS_ite, ↓wI_ex, ↓wI_rng, ↓wI_zip, wV, wW, t_bl, wO_some, if_true]
    have he : envB T.m ((waysP T.m (namesOf f)).getD j []) f = true := env T.m m1 m2 _ (by
      rw [List.getD_eq_getElem?_getD, List.getElem?_eq_getElem hj]
      exact List.getElem_mem hj)
    refine (run_value (P := P) (iv := 3) rfl ok k2 105 f (by omega) he).2 ?_
    simp only [T2, wO_some, in_row]
    obtain ⟨s1, s2⟩ := all_step hj [] ha
    cases c : T.des.contains (vF T ((waysP T.m (namesOf f)).getD j []) f) with
    | true => exact ⟨true, rfl, by rw [if_pos rfl]; exact ⟨trivial, s1 c⟩⟩
    | false =>
      refine ⟨false, rfl, ?_⟩
      have this : keptP T f = false := s2 c
      have q2 := q _ (p1.trans p2)
      rw [this] at q2
      exact q2
  · rintro H ⟨rfl, ha⟩
    refine ⟨w3, ?_⟩
    have ha : ((waysP T.m (namesOf f)).take (waysP T.m (namesOf f)).length).all (fun w => T.des.contains (vF T w f)) = true := ha
    rw [List.take_length] at ha
    have : keptP T f = true := ha
    rw [← this]
    exact q _ (p1.trans p2)
theorem run_kept (ok : T.ok = true) (hf : f ∈ FL) (q : ∀ h', Pre h h' → Q (.bl (keptP T f), h')) : wO (callI P 5000 107 27 [T.d, f.d] h) Q := by
  obtain ⟨ok, m2, m1⟩ := Ok.of ok
  obtain ⟨_, _, env, dep, hn, _⟩ := factF hf
  refine wC (d := ⟨2, 3, b27⟩) rfl rfl ?_
  obtain ⟨h1, p1, e1⟩ := names_at hf h
  obtain ⟨r, h2, p2, e2, w⟩ := lways_at hn m1 m2 h1
  have p3 : Pre h h2 := p1.trans p2
  obtain ⟨w1, w2, w3⟩ := way_nx w
  simp only [b27, startD, List.map_cons, List.map_nil, List.length_cons, List.length_nil, List.replicate, List.cons_append, List.nil_append, ↓wE_var, ↓wE_cst, ↓wE_glb, ↓wE_tup, ↓wE_lst, ↓wE_dnew, ↓wE_bin, ↓wE_cmp, ↓wE_not, ↓wE_or, ↓wE_and, ↓wE_idx, ↓wE_slc, ↓wE_omit, ↓wE_call, ↓wE_blt, ↓wE_isi, ↓wE_mth, ↓wL_nil, ↓wL_cons, ↓wB_nil, ↓wB_cons, ↓wS_asg, ↓wS_sub, ↓wS_expr, ↓wS_ret, ↓wS_ite, ↓wI_ex, ↓wI_rng, ↓wI_zip, wV, wW]
  refine wS_forE (fun j σ H => (∃ x, σ = [some T.d, some f.d, x]) ∧ H = h2 ∧ ((waysP T.m (namesOf f)).take j).all (fun w => T.des.contains (vF T w f)) = true) ?_
  simp only [↓wE_var, ↓wE_cst, ↓wE_glb, ↓wE_tup, ↓wE_lst, ↓wE_dnew, ↓wE_bin, ↓wE_cmp, ↓wE_not, ↓wE_or, ↓wE_and, ↓wE_idx, ↓wE_slc, ↓wE_omit, ↓wE_call, ↓wE_blt, ↓wE_isi, ↓wE_mth, ↓wL_nil, ↓wL_cons, ↓wB_nil, ↓wB_cons, ↓wS_asg, ↓wS_sub, ↓wS_expr, ↓wS_ret, ↓wS_ite, ↓wI_ex, ↓wI_rng, ↓wI_zip, wV, wW, e1, wO_some, T1]
  simp only [nD, e2, wO_some, w1]
  refine ⟨⟨⟨_, rfl⟩, trivial, by simp⟩, ?_, ?_⟩
  · rintro j σ H hj ⟨⟨x, rfl⟩, rfl, ha⟩
    have hj : j < (waysP T.m (namesOf f)).length := hj
    obtain ⟨n, k1, k2⟩ := w2 j hj
    refine ⟨_, k1, ?_⟩
    rw [← wW_eq]
    simp only [↓wE_var, ↓wE_cst, ↓wE_glb, ↓wE_tup, ↓wE_lst, ↓wE_dnew, ↓wE_bin, ↓wE_cmp, ↓wE_not, ↓wE_or, ↓wE_and, ↓wE_idx, ↓wE_slc, ↓wE_omit, ↓wE_call, ↓wE_blt, ↓wE_isi, ↓wE_mth, ↓wL_nil, ↓wL_cons, ↓wB_nil, ↓wB_cons, ↓wS_asg, ↓wS_sub, ↓wS_expr, ↓wS_ret, ↓wS_ite, ↓wI_ex, ↓wI_rng, ↓wI_zip, wV, wW]
    have he : envB T.m ((waysP T.m (namesOf f)).getD j []) f = true := env T.m m1 m2 _ (by
      rw [List.getD_eq_getElem?_getD, List.getElem?_eq_getElem hj]
      exact List.getElem_mem hj)
    refine (run_value (P := P) (iv := 26) rfl ok k2 106 f (by omega) he).2 ?_
    simp only [T2, wO_some, nin_row, t_bl]
    obtain ⟨s1, s2⟩ := all_step hj [] ha
    cases c : T.des.contains (vF T ((waysP T.m (namesOf f)).getD j []) f) with
    | true =>
      simp only [Bool.not_true, Bool.false_eq_true, if_false, ↓wE_var, ↓wE_cst, ↓wE_glb, ↓wE_tup, ↓wE_lst, ↓wE_dnew, ↓wE_bin, ↓wE_cmp, ↓wE_not, ↓wE_or, ↓wE_and, ↓wE_idx, ↓wE_slc, ↓wE_omit, ↓wE_call, ↓wE_blt, ↓wE_isi, ↓wE_mth, ↓wL_nil, ↓wL_cons, ↓wB_nil, ↓wB_cons, ↓wS_asg, ↓wS_sub, ↓wS_expr, ↓wS_ret, ↓wS_ite, ↓wI_ex, ↓wI_rng, ↓wI_zip, wV, wW]
      exact ⟨⟨_, rfl⟩, rfl, s1 c⟩
    | false =>
      simp only [Bool.not_false, if_true, ↓wE_var, ↓wE_cst, ↓wE_glb, ↓wE_tup, ↓wE_lst, ↓wE_dnew, ↓wE_bin, ↓wE_cmp, ↓wE_not, ↓wE_or, ↓wE_and, ↓wE_idx, ↓wE_slc, ↓wE_omit, ↓wE_call, ↓wE_blt, ↓wE_isi, ↓wE_mth, ↓wL_nil, ↓wL_cons, ↓wB_nil, ↓wB_cons, ↓wS_asg, ↓wS_sub, ↓wS_expr, ↓wS_ret, ↓wS_ite, ↓wI_ex, ↓wI_rng, ↓wI_zip, wV, wW]
      have this : keptP T f = false := s2 c
      have q2 := q _ p3
      rw [this] at q2
      exact q2
  · rintro σ H ⟨⟨x, rfl⟩, rfl, ha⟩
    refine ⟨w3, ?_⟩
    have ha : ((waysP T.m (namesOf f)).take (waysP T.m (namesOf f)).length).all (fun w => T.des.contains (vF T w f)) = true := ha
    rw [List.take_length] at ha
    have : keptP T f = true := ha
    try simp only [↓wE_var, ↓wE_cst, ↓wE_glb, ↓wE_tup, ↓wE_lst, ↓wE_dnew, ↓wE_bin, ↓wE_cmp, ↓wE_not, ↓wE_or, ↓wE_and, ↓wE_idx, ↓wE_slc, ↓wE_omit, ↓wE_call, ↓wE_blt, ↓wE_isi, ↓wE_mth, ↓wL_nil, ↓wL_cons, ↓wB_nil, ↓wB_cons, ↓wS_asg, ↓wS_sub, ↓wS_expr, ↓wS_ret, ↓wS_ite, ↓wI_ex, ↓wI_rng, ↓wI_zip, wV, wW]
    rw [← this]
    exact q _ p3
end
end K63
namespace K63
open PySem MP
def partsP (ks : List Nat) (f : Fm) (T : Tb) : Bool := T.kr && ks.all (fun k => keptP T (axF k)) && !keptP T f
structure TF (T : Tb) : Prop where
  ok : T.ok = true
  fl : D.flats deep [T.d] = true
  e8 : ∃ g, callI P 5000 106 8 [T.d] [] = some (.bl true, g)
  e21 : ∃ g, callI P 5000 107 21 [T.d] [] = some (.bl true, g)
  e6 : ∃ g, callI P 5000 106 6 [T.d] [] = some (.bl T.kr, g)
  e22 : ∃ g, callI P 5000 107 22 [T.d] [] = some (.bl T.kr, g)
  e29 : ∃ g, callI P 5000 108 29 [T.d, T.d] [] = some (.bl true, g)
theorem factT {T : Tb} (hT : T ∈ TL) : TF T := by
  have z := List.all_eq_true.mp chkT_all T hT
  simp only [chkT, Bool.and_eq_true] at z
  obtain ⟨⟨⟨⟨⟨⟨z1, z2⟩, z3⟩, z4⟩, z5⟩, z6⟩, z7⟩ := z
  exact ⟨z6, by simp [D.flats, z7], isV_to z1, isV_to z2, isV_to z3, isV_to z4, isV_to z5⟩
theorem factA {k : Nat} (hk : k ∈ AXS) : (∃ g, callI P 5000 106 1 [.int k] [] = some ((axF k).d, g)) ∧ (∃ g, callI P 5000 107 17 [.int k] [] = some ((axF k).d, g)) ∧ (∃ g, callI P 5000 108 17 [.int k] [] = some ((axF k).d, g)) ∧ axF k ∈ FL ∧ D.flat deep (axF k).d = true := by
  have z := List.all_eq_true.mp chkA_all k hk
  simp only [chkA, Bool.and_eq_true] at z
  have hf : axF k ∈ FL := List.mem_append.mpr (.inr (List.mem_map.mpr ⟨k, hk, rfl⟩))
  have := (factF hf).2.2.2.2.2
  simp only [D.flats, Bool.and_true] at this
  exact ⟨isV_to z.1.1, isV_to z.1.2, isV_to z.2, hf, this⟩
theorem cl_bl {k f : Nat} {ds : List D} {b : Bool} (hd : D.flats deep ds = true) (e : ∃ g, callI P 5000 k f ds [] = some (.bl b, g)) {h : HI} {Q : D × HI → Prop} (q : ∀ h', Pre h h' → Q (.bl b, h')) : wO (callI P 5000 k f ds h) Q := by
  obtain ⟨g, e⟩ := e
  exact run_clf okP hd (by simp) e fun g => q _ (Pre.app g)
theorem cl_ax {k f : Nat} {ds : List D} {v : D} (hd : D.flats deep ds = true) (hv : D.flat deep v = true) (e : ∃ g, callI P 5000 k f ds [] = some (v, g)) {h : HI} {Q : D × HI → Prop} (q : ∀ h', Pre h h' → Q (v, h')) : wO (callI P 5000 k f ds h) Q := by
  obtain ⟨g, e⟩ := e
  exact run_clf okP hd hv e fun g => q _ (Pre.app g)
section
variable {T : Tb} {f : Fm} {ks : List Nat} {h : HI} {Q : D × HI → Prop}
theorem ks_nx {j : Nat} {H : HI} (hj : j < ks.length) : (It.seq (ks.map nD)).nx j H = some (.int ((ks.getD j 0 : Nat) : Int)) := by
  simp [It.nx, hj, nD, List.getD_eq_getElem?_getD]
theorem run_parts (hT : T ∈ TL) (hf : f ∈ FL) (hk : ∀ k ∈ ks, k ∈ AXS) (q : ∀ h', Pre h h' → Q (.bl (partsP ks f T), h')) : wO (callI P 5000 107 9 [T.d, rowD ks, f.d] h) Q := by
  obtain ⟨ok, fl, e8, _, e6, _, _⟩ := factT hT
  refine wC (d := ⟨3, 4, b9⟩) rfl rfl ?_
  simp only [b9, startD, List.map_cons, List.map_nil, List.length_cons, List.length_nil, List.replicate, List.cons_append, List.nil_append, ↓wE_var, ↓wE_cst, ↓wE_glb, ↓wE_tup, ↓wE_lst, ↓wE_dnew, ↓wE_bin, ↓wE_cmp, ↓wE_not, ↓wE_or, ↓wE_and, ↓wE_idx, ↓wE_slc, ↓wE_omit, ↓wE_call, ↓wE_blt, ↓wE_isi, ↓wE_mth, ↓wL_nil, ↓wL_cons, ↓wB_nil, ↓wB_cons, ↓wS_asg, ↓wS_sub, ↓wS_expr, ↓wS_ret, ↓wS_ite, ↓wI_ex, ↓wI_rng, ↓wI_zip, wV, wW]
  refine cl_bl fl e8 fun h1 p1 => ?_
  simp only [↓wE_var, ↓wE_cst, ↓wE_glb, ↓wE_tup, ↓wE_lst, ↓wE_dnew, ↓wE_bin, ↓wE_cmp, ↓wE_not, ↓wE_or, ↓wE_and, ↓wE_idx, ↓wE_slc, ↓wE_omit, ↓wE_call, ↓wE_blt, ↓wE_isi, ↓wE_mth, ↓wL_nil, ↓wL_cons, ↓wB_nil, ↓wB_cons, ↓wS_asg, ↓wS_sub, ↓wS_expr, ↓wS_ret, ↓wS_ite, ↓wI_ex, ↓wI_rng, ↓wI_zip, wV, wW, t_bl, wO_some, Bool.not_true, Bool.false_eq_true, if_false]
  refine cl_bl fl e6 fun h2 p2 => ?_
  simp only [↓wE_var, ↓wE_cst, ↓wE_glb, ↓wE_tup, ↓wE_lst, ↓wE_dnew, ↓wE_bin, ↓wE_cmp, ↓wE_not, ↓wE_or, ↓wE_and, ↓wE_idx, ↓wE_slc, ↓wE_omit, ↓wE_call, ↓wE_blt, ↓wE_isi, ↓wE_mth, ↓wL_nil, ↓wL_cons, ↓wB_nil, ↓wB_cons, ↓wS_asg, ↓wS_sub, ↓wS_expr, ↓wS_ret, ↓wS_ite, ↓wI_ex, ↓wI_rng, ↓wI_zip, wV, wW, t_bl, wO_some]
  cases ck : T.kr with
  | false =>
    simp only [Bool.not_false, if_true, ↓wE_var, ↓wE_cst, ↓wE_glb, ↓wE_tup, ↓wE_lst, ↓wE_dnew, ↓wE_bin, ↓wE_cmp, ↓wE_not, ↓wE_or, ↓wE_and, ↓wE_idx, ↓wE_slc, ↓wE_omit, ↓wE_call, ↓wE_blt, ↓wE_isi, ↓wE_mth, ↓wL_nil, ↓wL_cons, ↓wB_nil, ↓wB_cons, ↓wS_asg, ↓wS_sub, ↓wS_expr, ↓wS_ret, ↓wS_ite, ↓wI_ex, ↓wI_rng, ↓wI_zip, wV, wW]
    have := q h2 (p1.trans p2)
    simp only [partsP, ck, Bool.false_and] at this
    exact this
  | true =>
    simp only [Bool.not_true, Bool.false_eq_true, if_false, ↓wE_var, ↓wE_cst, ↓wE_glb, ↓wE_tup, ↓wE_lst, ↓wE_dnew, ↓wE_bin, ↓wE_cmp, ↓wE_not, ↓wE_or, ↓wE_and, ↓wE_idx, ↓wE_slc, ↓wE_omit, ↓wE_call, ↓wE_blt, ↓wE_isi, ↓wE_mth, ↓wL_nil, ↓wL_cons, ↓wB_nil, ↓wB_cons, ↓wS_asg, ↓wS_sub, ↓wS_expr, ↓wS_ret, ↓wS_ite, ↓wI_ex, ↓wI_rng, ↓wI_zip, wV, wW]
    refine wE_gall (fun j H => Pre h H ∧ (ks.take j).all (fun k => keptP T (axF k)) = true) ?_
    simp only [↓wE_var, ↓wE_cst, ↓wE_glb, ↓wE_tup, ↓wE_lst, ↓wE_dnew, ↓wE_bin, ↓wE_cmp, ↓wE_not, ↓wE_or, ↓wE_and, ↓wE_idx, ↓wE_slc, ↓wE_omit, ↓wE_call, ↓wE_blt, ↓wE_isi, ↓wE_mth, ↓wL_nil, ↓wL_cons, ↓wB_nil, ↓wB_cons, ↓wS_asg, ↓wS_sub, ↓wS_expr, ↓wS_ret, ↓wS_ite, ↓wI_ex, ↓wI_rng, ↓wI_zip, wV, wW, rowD, it_tup, wO_some]
    refine ⟨⟨p1.trans p2, by simp⟩, ?_, ?_⟩
    · rintro j H hj ⟨pH, ha⟩
      have hj : j < ks.length := by simpa [It.len] using hj
      refine ⟨_, ks_nx hj, ?_⟩
      rw [← wW_eq]
      have hm : ks.getD j 0 ∈ AXS := hk _ (by
        rw [List.getD_eq_getElem?_getD, List.getElem?_eq_getElem hj]
        exact List.getElem_mem hj)
      obtain ⟨a1, _, _, a4, a5⟩ := factA hm
      simp only [wipeD, List.set, ↓wE_var, ↓wE_cst, ↓wE_glb, ↓wE_tup, ↓wE_lst, ↓wE_dnew, ↓wE_bin, ↓wE_cmp, ↓wE_not, ↓wE_or, ↓wE_and, ↓wE_idx, ↓wE_slc, ↓wE_omit, ↓wE_call, ↓wE_blt, ↓wE_isi, ↓wE_mth, ↓wL_nil, ↓wL_cons, ↓wB_nil, ↓wB_cons, ↓wS_asg, ↓wS_sub, ↓wS_expr, ↓wS_ret, ↓wS_ite, ↓wI_ex, ↓wI_rng, ↓wI_zip, wV, wW, t_bl, wO_some, if_true]
      refine cl_ax (by simp [D.flats]) a5 a1 fun H1 pH1 => ?_
      simp only [↓wE_var, ↓wE_cst, ↓wE_glb, ↓wE_tup, ↓wE_lst, ↓wE_dnew, ↓wE_bin, ↓wE_cmp, ↓wE_not, ↓wE_or, ↓wE_and, ↓wE_idx, ↓wE_slc, ↓wE_omit, ↓wE_call, ↓wE_blt, ↓wE_isi, ↓wE_mth, ↓wL_nil, ↓wL_cons, ↓wB_nil, ↓wB_cons, ↓wS_asg, ↓wS_sub, ↓wS_expr, ↓wS_ret, ↓wS_ite, ↓wI_ex, ↓wI_rng, ↓wI_zip, wV, wW]
      refine run_is_kept ok a4 fun H2 pH2 => ?_
      obtain ⟨s1, s2⟩ := all_step hj 0 ha
      cases c : keptP T (axF (ks.getD j 0)) with
      | true => exact ⟨true, rfl, by rw [if_pos rfl]; exact ⟨pH.trans (pH1.trans pH2), s1 c⟩⟩
      | false =>
        refine ⟨false, rfl, ?_⟩
        have q2 := q _ (pH.trans (pH1.trans pH2))
        simp only [partsP, s2 c, Bool.and_false, Bool.false_and] at q2
        simp only [Bool.false_eq_true, if_false, t_bl, wO_some]
        exact q2
    · rintro H ⟨pH, ha⟩
      refine ⟨rfl, ?_⟩
      have ha : (ks.take (It.seq (ks.map nD)).len).all (fun k => keptP T (axF k)) = true := ha
      rw [List.take_of_length_le (by simp [It.len])] at ha
      simp only [t_bl, wO_some, if_true, ↓wE_var, ↓wE_cst, ↓wE_glb, ↓wE_tup, ↓wE_lst, ↓wE_dnew, ↓wE_bin, ↓wE_cmp, ↓wE_not, ↓wE_or, ↓wE_and, ↓wE_idx, ↓wE_slc, ↓wE_omit, ↓wE_call, ↓wE_blt, ↓wE_isi, ↓wE_mth, ↓wL_nil, ↓wL_cons, ↓wB_nil, ↓wB_cons, ↓wS_asg, ↓wS_sub, ↓wS_expr, ↓wS_ret, ↓wS_ite, ↓wI_ex, ↓wI_rng, ↓wI_zip, wV, wW]
      refine run_is_kept ok hf fun H2 pH2 => ?_
      simp only [t_bl, wO_some]
      have q2 := q _ (pH.trans pH2)
      simp only [partsP, ck, ha, Bool.true_and] at q2
      exact q2
theorem run_parts_by (hT : T ∈ TL) (hf : f ∈ FL) (hk : ∀ k ∈ ks, k ∈ AXS) (q : ∀ h', Pre h h' → Q (.bl (partsP ks f T), h')) : wO (callI P 5000 108 28 [T.d, rowD ks, f.d] h) Q := by
  obtain ⟨ok, fl, _, e21, _, e22, _⟩ := factT hT
  refine wC (d := ⟨3, 4, b28⟩) rfl rfl ?_
  simp only [b28, startD, List.map_cons, List.map_nil, List.length_cons, List.length_nil, List.replicate, List.cons_append, List.nil_append, ↓wE_var, ↓wE_cst, ↓wE_glb, ↓wE_tup, ↓wE_lst, ↓wE_dnew, ↓wE_bin, ↓wE_cmp, ↓wE_not, ↓wE_or, ↓wE_and, ↓wE_idx, ↓wE_slc, ↓wE_omit, ↓wE_call, ↓wE_blt, ↓wE_isi, ↓wE_mth, ↓wL_nil, ↓wL_cons, ↓wB_nil, ↓wB_cons, ↓wS_asg, ↓wS_sub, ↓wS_expr, ↓wS_ret, ↓wS_ite, ↓wI_ex, ↓wI_rng, ↓wI_zip, wV, wW]
  refine cl_bl fl e21 fun h1 p1 => ?_
  simp only [↓wE_var, ↓wE_cst, ↓wE_glb, ↓wE_tup, ↓wE_lst, ↓wE_dnew, ↓wE_bin, ↓wE_cmp, ↓wE_not, ↓wE_or, ↓wE_and, ↓wE_idx, ↓wE_slc, ↓wE_omit, ↓wE_call, ↓wE_blt, ↓wE_isi, ↓wE_mth, ↓wL_nil, ↓wL_cons, ↓wB_nil, ↓wB_cons, ↓wS_asg, ↓wS_sub, ↓wS_expr, ↓wS_ret, ↓wS_ite, ↓wI_ex, ↓wI_rng, ↓wI_zip, wV, wW, t_bl, wO_some, Bool.not_true, Bool.false_eq_true, if_false]
  refine cl_bl fl e22 fun h2 p2 => ?_
  simp only [↓wE_var, ↓wE_cst, ↓wE_glb, ↓wE_tup, ↓wE_lst, ↓wE_dnew, ↓wE_bin, ↓wE_cmp, ↓wE_not, ↓wE_or, ↓wE_and, ↓wE_idx, ↓wE_slc, ↓wE_omit, ↓wE_call, ↓wE_blt, ↓wE_isi, ↓wE_mth, ↓wL_nil, ↓wL_cons, ↓wB_nil, ↓wB_cons, ↓wS_asg, ↓wS_sub, ↓wS_expr, ↓wS_ret, ↓wS_ite, ↓wI_ex, ↓wI_rng, ↓wI_zip, wV, wW, t_bl, wO_some]
  cases ck : T.kr with
  | false =>
    simp only [Bool.not_false, if_true, ↓wE_var, ↓wE_cst, ↓wE_glb, ↓wE_tup, ↓wE_lst, ↓wE_dnew, ↓wE_bin, ↓wE_cmp, ↓wE_not, ↓wE_or, ↓wE_and, ↓wE_idx, ↓wE_slc, ↓wE_omit, ↓wE_call, ↓wE_blt, ↓wE_isi, ↓wE_mth, ↓wL_nil, ↓wL_cons, ↓wB_nil, ↓wB_cons, ↓wS_asg, ↓wS_sub, ↓wS_expr, ↓wS_ret, ↓wS_ite, ↓wI_ex, ↓wI_rng, ↓wI_zip, wV, wW]
    have := q h2 (p1.trans p2)
    simp only [partsP, ck, Bool.false_and] at this
    exact this
  | true =>
    simp only [Bool.not_true, Bool.false_eq_true, if_false, ↓wE_var, ↓wE_cst, ↓wE_glb, ↓wE_tup, ↓wE_lst, ↓wE_dnew, ↓wE_bin, ↓wE_cmp, ↓wE_not, ↓wE_or, ↓wE_and, ↓wE_idx, ↓wE_slc, ↓wE_omit, ↓wE_call, ↓wE_blt, ↓wE_isi, ↓wE_mth, ↓wL_nil, ↓wL_cons, ↓wB_nil, ↓wB_cons, ↓wS_asg, ↓wS_sub, ↓wS_expr, ↓wS_ret, ↓wS_ite, ↓wI_ex, ↓wI_rng, ↓wI_zip, wV, wW]
    refine wS_forE (fun j σ H => (∃ x, σ = [some T.d, some (rowD ks), some f.d, x]) ∧ Pre h H ∧ (ks.take j).all (fun k => keptP T (axF k)) = true) ?_
    simp only [↓wE_var, ↓wE_cst, ↓wE_glb, ↓wE_tup, ↓wE_lst, ↓wE_dnew, ↓wE_bin, ↓wE_cmp, ↓wE_not, ↓wE_or, ↓wE_and, ↓wE_idx, ↓wE_slc, ↓wE_omit, ↓wE_call, ↓wE_blt, ↓wE_isi, ↓wE_mth, ↓wL_nil, ↓wL_cons, ↓wB_nil, ↓wB_cons, ↓wS_asg, ↓wS_sub, ↓wS_expr, ↓wS_ret, ↓wS_ite, ↓wI_ex, ↓wI_rng, ↓wI_zip, wV, wW, rowD, it_tup, wO_some]
    refine ⟨⟨⟨_, rfl⟩, p1.trans p2, by simp⟩, ?_, ?_⟩
    · rintro j σ H hj ⟨⟨x, rfl⟩, pH, ha⟩
      have hj : j < ks.length := by simpa [It.len] using hj
      refine ⟨_, ks_nx hj, ?_⟩
      rw [← wW_eq]
      have hm : ks.getD j 0 ∈ AXS := hk _ (by
        rw [List.getD_eq_getElem?_getD, List.getElem?_eq_getElem hj]
        exact List.getElem_mem hj)
      obtain ⟨_, a1, _, a4, a5⟩ := factA hm
      simp only [↓wE_var, ↓wE_cst, ↓wE_glb, ↓wE_tup, ↓wE_lst, ↓wE_dnew, ↓wE_bin, ↓wE_cmp, ↓wE_not, ↓wE_or, ↓wE_and, ↓wE_idx, ↓wE_slc, ↓wE_omit, ↓wE_call, ↓wE_blt, ↓wE_isi, ↓wE_mth, ↓wL_nil, ↓wL_cons, ↓wB_nil, ↓wB_cons, ↓wS_asg, ↓wS_sub, ↓wS_expr, ↓wS_ret, ↓wS_ite, ↓wI_ex, ↓wI_rng, ↓wI_zip, wV, wW]
      refine cl_ax (by simp [D.flats]) a5 a1 fun H1 pH1 => ?_
      simp only [↓wE_var, ↓wE_cst, ↓wE_glb, ↓wE_tup, ↓wE_lst, ↓wE_dnew, ↓wE_bin, ↓wE_cmp, ↓wE_not, ↓wE_or, ↓wE_and, ↓wE_idx, ↓wE_slc, ↓wE_omit, ↓wE_call, ↓wE_blt, ↓wE_isi, ↓wE_mth, ↓wL_nil, ↓wL_cons, ↓wB_nil, ↓wB_cons, ↓wS_asg, ↓wS_sub, ↓wS_expr, ↓wS_ret, ↓wS_ite, ↓wI_ex, ↓wI_rng, ↓wI_zip, wV, wW]
      refine run_kept ok a4 fun H2 pH2 => ?_
      simp only [↓wE_var, ↓wE_cst, ↓wE_glb, ↓wE_tup, ↓wE_lst, ↓wE_dnew, ↓wE_bin, ↓wE_cmp, ↓wE_not, ↓wE_or, ↓wE_and, ↓wE_idx, ↓wE_slc, ↓wE_omit, ↓wE_call, ↓wE_blt, ↓wE_isi, ↓wE_mth, ↓wL_nil, ↓wL_cons, ↓wB_nil, ↓wB_cons, ↓wS_asg, ↓wS_sub, ↓wS_expr, ↓wS_ret, ↓wS_ite, ↓wI_ex, ↓wI_rng, ↓wI_zip, wV, wW, t_bl, wO_some]
      obtain ⟨s1, s2⟩ := all_step hj 0 ha
      cases c : keptP T (axF (ks.getD j 0)) with
      | true =>
        simp only [Bool.not_true, Bool.false_eq_true, if_false, ↓wE_var, ↓wE_cst, ↓wE_glb, ↓wE_tup, ↓wE_lst, ↓wE_dnew, ↓wE_bin, ↓wE_cmp, ↓wE_not, ↓wE_or, ↓wE_and, ↓wE_idx, ↓wE_slc, ↓wE_omit, ↓wE_call, ↓wE_blt, ↓wE_isi, ↓wE_mth, ↓wL_nil, ↓wL_cons, ↓wB_nil, ↓wB_cons, ↓wS_asg, ↓wS_sub, ↓wS_expr, ↓wS_ret, ↓wS_ite, ↓wI_ex, ↓wI_rng, ↓wI_zip, wV, wW]
        exact ⟨⟨_, rfl⟩, pH.trans (pH1.trans pH2), s1 c⟩
      | false =>
        simp only [Bool.not_false, if_true, ↓wE_var, ↓wE_cst, ↓wE_glb, ↓wE_tup, ↓wE_lst, ↓wE_dnew, ↓wE_bin, ↓wE_cmp, ↓wE_not, ↓wE_or, ↓wE_and, ↓wE_idx, ↓wE_slc, ↓wE_omit, ↓wE_call, ↓wE_blt, ↓wE_isi, ↓wE_mth, ↓wL_nil, ↓wL_cons, ↓wB_nil, ↓wB_cons, ↓wS_asg, ↓wS_sub, ↓wS_expr, ↓wS_ret, ↓wS_ite, ↓wI_ex, ↓wI_rng, ↓wI_zip, wV, wW]
        have q2 := q _ (pH.trans (pH1.trans pH2))
        simp only [partsP, s2 c, Bool.and_false, Bool.false_and] at q2
        exact q2
    · rintro σ H ⟨⟨x, rfl⟩, pH, ha⟩
      refine ⟨rfl, ?_⟩
      have ha : (ks.take (It.seq (ks.map nD)).len).all (fun k => keptP T (axF k)) = true := ha
      rw [List.take_of_length_le (by simp [It.len])] at ha
      try simp only [↓wE_var, ↓wE_cst, ↓wE_glb, ↓wE_tup, ↓wE_lst, ↓wE_dnew, ↓wE_bin, ↓wE_cmp, ↓wE_not, ↓wE_or, ↓wE_and, ↓wE_idx, ↓wE_slc, ↓wE_omit, ↓wE_call, ↓wE_blt, ↓wE_isi, ↓wE_mth, ↓wL_nil, ↓wL_cons, ↓wB_nil, ↓wB_cons, ↓wS_asg, ↓wS_sub, ↓wS_expr, ↓wS_ret, ↓wS_ite, ↓wI_ex, ↓wI_rng, ↓wI_zip, wV, wW]
      refine run_kept ok hf fun H2 pH2 => ?_
      simp only [t_bl, wO_some]
      have q2 := q _ (pH.trans pH2)
      simp only [partsP, ck, ha, Bool.true_and] at q2
      exact q2
end
end K63
namespace K63
open PySem MP
def SR (shape : St → Prop) (p : Tb → Bool) (L : List Tb) (h : HI) : Fl → HI → Prop
  | .nx σ, H => Pre h H ∧ shape σ ∧ L.find? p = none
  | .rt d, H => Pre h H ∧ ∃ T, L.find? p = some T ∧ d = T.d
  | _, _ => False
section
variable {cl : Nat → List D → HI → Rz} {wf : Nat} {σ : St} {h : HI}
theorem wS_srch {α : Type} {xs : List α} {enc : α → D} {blk : α → List Tb} {shape : St → Prop} {p : Tb → Bool} {t : Tg} {i : MI} {b : MSs} (h0 : shape σ)
    (hi : wI cl i σ h fun it h1 => Pre h h1 ∧ it.len = xs.length ∧ (∀ H, Pre h1 H → it.fin H = true ∧ ∀ j (hj : j < xs.length), it.nx j H = some (enc xs[j])))
    (body : ∀ x ∈ xs, ∀ σ H, shape σ → wO (bind1 t (enc x) σ) fun σ1 => wB cl wf b σ1 H (SR shape p (blk x) H)) : wS cl wf (.fr t i b) σ h (SR shape p (xs.flatMap blk) h) := by
  obtain ⟨⟨it, h1⟩, ei, p1, hl, hn⟩ := hi
  have p1 : Pre h h1 := p1
  have hl : it.len = xs.length := hl
  have hn : ∀ H, Pre h1 H → it.fin H = true ∧ ∀ j (hj : j < xs.length), it.nx j H = some (enc xs[j]) := hn
  refine wS_forE (fun j σ H => Pre h1 H ∧ shape σ ∧ ((xs.take j).flatMap blk).find? p = none) ⟨(it, h1), ei, ⟨Pre.refl, h0, by simp⟩, ?_, ?_⟩
  · rintro j σ H hj ⟨pH, hs, hf⟩
    have hj : j < xs.length := by rw [← hl]; exact hj
    refine ⟨_, (hn H pH).2 j hj, ?_⟩
    refine wO_imp (body _ (List.getElem_mem hj) σ H hs) fun σ1 w => ?_
    refine wO_imp w ?_
    rintro ⟨fl, H2⟩ q
    have e : (xs.take (j + 1)).flatMap blk = (xs.take j).flatMap blk ++ blk xs[j] := by
      rw [List.take_add_one, List.getElem?_eq_getElem hj, Option.toList_some, List.flatMap_append]
      simp
    have e2 : xs.flatMap blk = (xs.take j).flatMap blk ++ (blk xs[j] ++ (xs.drop (j + 1)).flatMap blk) := by
      conv => lhs; rw [← List.take_append_drop j xs, List.drop_eq_getElem_cons hj]
      rw [List.flatMap_append, List.flatMap_cons]
    cases fl with
    | nx σ2 =>
      obtain ⟨q1, q2, q3⟩ := q
      refine ⟨pH.trans q1, q2, ?_⟩
      rw [e, List.find?_append, hf, q3]
      rfl
    | rt d =>
      obtain ⟨q1, T, q2, q3⟩ := q
      refine ⟨p1.trans (pH.trans q1), T, ?_, q3⟩
      rw [e2, List.find?_append, hf, List.find?_append, q2]
      rfl
    | brk _ => exact q.elim
    | ct _ => exact q.elim
  · rintro σ H ⟨pH, hs, hf⟩
    have hl2 : it.len = xs.length := hl
    refine ⟨(hn H pH).1, p1.trans pH, hs, ?_⟩
    have hf : ((xs.take it.len).flatMap blk).find? p = none := hf
    rw [hl2, List.take_length] at hf
    exact hf
end
theorem shs_flat (n : Nat) {vs : List D} (h : D.flats deep vs = true) : D.shs n vs = vs := by
  have : (D.tup vs).sh n = .tup vs := flat_sh n (deep + 1) (.tup vs) h
  exact D.tup.inj this
theorem cl_list {k f : Nat} {ds vs : List D} (hd : D.flats deep ds = true) (hv : D.flats deep vs = true) (e : isT (callI P 5000 k f ds []) vs = true) {h : HI} {Q : D × HI → Prop} (q : ∀ r h', Pre h h' → h'[r]? = some (.lst vs) → Q (.ref r, h')) : wO (callI P 5000 k f ds h) Q := by
  obtain ⟨n, g, e, en⟩ := isT_to e
  refine run_cl okP hd e ?_
  refine q _ _ (Pre.app _) ?_
  rw [List.getElem?_append_right (by omega), List.getElem?_map, Nat.add_sub_cancel_left, en]
  simp only [Option.map_some, shB, shs_flat _ hv]
theorem live_it {α : Type} {enc : α → D} {xs : List α} {h : HI} {r : Nat} (e : h[r]? = some (.lst (xs.map enc))) : itOf (.ref r) h = some (.live r xs.length) ∧ ∀ H, Pre h H → (It.live r xs.length).fin H = true ∧ ∀ j (hj : j < xs.length), (It.live r xs.length).nx j H = some (enc xs[j]) := by
  refine ⟨by simp [itOf, lstOf, e], fun H p => ?_⟩
  have e2 := p _ _ e
  exact ⟨by simp [It.fin, lstOf, e2], fun j hj => by simp [It.nx, lstOf, e2, hj]⟩
theorem seq_it {α : Type} {enc : α → D} {xs : List α} : (It.seq (xs.map enc)).len = xs.length ∧ ∀ H, (It.seq (xs.map enc)).fin H = true ∧ ∀ j (hj : j < xs.length), (It.seq (xs.map enc)).nx j H = some (enc xs[j]) :=
  ⟨by simp [It.len], fun H => ⟨rfl, fun j hj => by simp [It.nx, hj]⟩⟩
theorem rowsL_len {m : Nat} : ∀ {k : Nat} {r : List Nat}, r ∈ rowsL m k → r.length = k
  | 0, r, h => by simp [rowsL] at h; subst h; rfl
  | k + 1, r, h => by
    simp only [rowsL, List.mem_flatMap, List.mem_map] at h
    obtain ⟨s, hs, x, _, rfl⟩ := h
    simp [rowsL_len hs]
theorem cut_mid {l : List Nat} {m k : Nat} (hk : m * k + m ≤ l.length) : cut (l.map nD) (some (((m * k : Nat) : Int))) (some ((m * k + m : Nat) : Int)) = ((l.drop (m * k)).take m).map nD := by
  have e1 : clip (l.map nD).length 0 (some ((m * k : Nat) : Int)) = m * k := by simp only [clip, List.length_map]; rw [if_pos (by omega)]; omega
  have e2 : clip (l.map nD).length (l.map nD).length (some ((m * k + m : Nat) : Int)) = m * k + m := by simp only [clip, List.length_map]; rw [if_pos (by omega)]; omega
  unfold cut
  rw [e1, e2, Nat.add_sub_cancel_left, List.map_take, List.map_drop]
def eIfs : ME := (.comp .gtup [9] (.one (.nm 9) (.rng (.cons (.var 2) .nil)) (.cst (.bl true)) (.slc (.var 6) (.bin .mul (.var 2) (.var 9)) (.bin .add (.bin .mul (.var 2) (.var 9)) (.var 2))) .omit))
theorem run_ifs {cl : Nat → List D → HI → Rz} {m : Nat} {r : List Nat} {a b c d e f g x : Option D} {h : HI} {Q : D → HI → Prop} (m2 : m ≤ 2) (hr : r.length = m * m) (q : Q (.tup ((cutL m r).map rowD)) h) :
    wE cl eIfs [a, b, some (.int (m : Nat)), c, d, e, some (rowD r), f, g, x] h Q := by
  have hm : small64 (m : Int) = true := by rcases (show m = 0 ∨ m = 1 ∨ m = 2 by omega) with rfl | rfl | rfl <;> decide
  refine wE_gt (fun j acc H => H = h ∧ acc = (((List.range m).map fun k => (r.drop (m * k)).take m).take j).map rowD) ?_
  simp only [↓wE_var, ↓wE_cst, ↓wE_glb, ↓wE_tup, ↓wE_lst, ↓wE_dnew, ↓wE_bin, ↓wE_cmp, ↓wE_not, ↓wE_or, ↓wE_and, ↓wE_idx, ↓wE_slc, ↓wE_omit, ↓wE_call, ↓wE_blt, ↓wE_isi, ↓wE_mth, ↓wL_nil, ↓wL_cons, ↓wB_nil, ↓wB_cons, ↓wS_asg, ↓wS_sub, ↓wS_expr, ↓wS_ret, ↓wS_ite, ↓wI_ex, ↓wI_rng, ↓wI_zip, wV, wW, rng1 (show m ≤ 1000000 by omega), wO_some]
  refine ⟨⟨trivial, by simp⟩, ?_, ?_⟩
  · rintro j acc H hj ⟨rfl, rfl⟩
    refine ⟨_, rng_nx hj, ?_⟩
    simp only [It.len, List.length_map, List.length_range] at hj
    rw [← wW_eq]
    simp only [wipeD, List.set, ↓wE_var, ↓wE_cst, ↓wE_glb, ↓wE_tup, ↓wE_lst, ↓wE_dnew, ↓wE_bin, ↓wE_cmp, ↓wE_not, ↓wE_or, ↓wE_and, ↓wE_idx, ↓wE_slc, ↓wE_omit, ↓wE_call, ↓wE_blt, ↓wE_isi, ↓wE_mth, ↓wL_nil, ↓wL_cons, ↓wB_nil, ↓wB_cons, ↓wS_asg, ↓wS_sub, ↓wS_expr, ↓wS_ret, ↓wS_ite, ↓wI_ex, ↓wI_rng, ↓wI_zip, wV, wW, t_bl, wO_some, if_true, wO_some, o_int, i_add, i_sub, m_48271, m_69621, m_16807, m_2, m_7, r_1000, r_m31, r_26, f_1000, f_997, f_26, p_18, c_lt, c_gt, c_ge, c_str, t_bl, b_int, m_l hm, om_c, om_v]
    have hmj : m * j + m ≤ m * m := by
      have := Nat.mul_le_mul_left m hj
      rw [Nat.mul_succ] at this
      exact this
    have e1 : ((m : Int) * (j : Int)) = ((m * j : Nat) : Int) := by push_cast; rfl
    have e2 : (((m * j : Nat) : Int) + (m : Int)) = ((m * j + m : Nat) : Int) := by push_cast; rfl
    have o1 : isOmit (ME.bin .mul (.var 2) (.var 9)) = false := rfl
    have o2 : isOmit (ME.bin .add (.bin .mul (.var 2) (.var 9)) (.var 2)) = false := rfl
    simp only [o1, o2, po_i, wO_some, e1, e2, slcD, rowD, cut_mid (show m * j + m ≤ r.length by omega)]
    refine ⟨by simp [big]; omega, trivial, ?_⟩
    have hj2 : j < ((List.range m).map fun k => (r.drop (m * k)).take m).length := by simpa using hj
    rw [take_snoc (List.getElem?_eq_getElem hj2)]
    simp [rowD]
  · rintro acc H ⟨rfl, rfl⟩
    refine ⟨rfl, ?_⟩
    have : (((List.range m).map fun k => (r.drop (m * k)).take m).take (It.seq ((List.range m).map fun k => D.int (k : Nat))).len) = cutL m r := List.take_of_length_le (by simp [It.len])
    rw [this]
    exact q
end K63
namespace K63
open PySem MP
def resD (ks : List Nat) (f : Fm) : D := match TL.find? (partsP ks f) with | some T => T.d | none => .non
theorem fr1 : D.flats deep ((rowsL 1 1).map rowD) = true := by decide +kernel
theorem fr2 : D.flats deep ((rowsL 2 2).map rowD) = true := by decide +kernel
theorem fr4 : D.flats deep ((rowsL 2 4).map rowD) = true := by decide +kernel
theorem rows1 {m : Nat} (m1 : 1 ≤ m) (m2 : m ≤ 2) {h : HI} {Q : D × HI → Prop} (q : ∀ r h', Pre h h' → h'[r]? = some (.lst ((rowsL m m).map rowD)) → Q (.ref r, h')) : wO (callI P 5000 107 10 [.int (m : Nat), .int (m : Nat)] h) Q := by
  rcases (show m = 1 ∨ m = 2 by omega) with rfl | rfl
  · exact cl_list rfl fr1 rw11 q
  · exact cl_list rfl fr2 rw22 q
theorem rows2 {m : Nat} (m1 : 1 ≤ m) (m2 : m ≤ 2) {h : HI} {Q : D × HI → Prop} (q : ∀ r h', Pre h h' → h'[r]? = some (.lst ((rowsL m (m * m)).map rowD)) → Q (.ref r, h')) : wO (callI P 5000 107 10 [.int (m : Nat), .int ((m : Int) * (m : Int))] h) Q := by
  rcases (show m = 1 ∨ m = 2 by omega) with rfl | rfl
  · exact cl_list rfl fr1 rw11 q
  · exact cl_list rfl fr4 rw24 q
def B4 : MSs := (.cons (.asg (.nm 7) eIfs) (.cons (.asg (.nm 8) (.tup (.cons (.cst (.str "table")) (.cons (.var 2) (.cons (.var 4) (.cons (.var 5) (.cons (.var 7) .nil))))))) (.cons (.ite (.call 9 (.cons (.var 8) (.cons (.var 0) (.cons (.var 1) .nil)))) (.cons (.ret (.var 8)) .nil) .nil) .nil)))
def B3 : MSs := (.cons (.fr (.nm 6) (.ex (.call 10 (.cons (.var 2) (.cons (.bin .mul (.var 2) (.var 2)) .nil)))) B4) .nil)
def B2 : MSs := (.cons (.fr (.nm 5) (.ex (.call 10 (.cons (.var 2) (.cons (.var 2) .nil)))) B3) .nil)
def B1 : MSs := (.cons (.fr (.nm 4) (.ex (.var 3)) B2) .nil)
def encM (m : Nat) : D := .tup [.int (m : Nat), .tup ((desL m).map rowD)]
def eM : ME := (.tup (.cons (.tup (.cons (.cst (.int 1)) (.cons (.tup (.cons (.tup .nil) (.cons (.tup (.cons (.cst (.int 0)) .nil)) .nil))) .nil))) (.cons (.tup (.cons (.cst (.int 2)) (.cons (.tup (.cons (.tup .nil) (.cons (.tup (.cons (.cst (.int 0)) .nil)) (.cons (.tup (.cons (.cst (.int 0)) (.cons (.cst (.int 1)) .nil))) (.cons (.tup (.cons (.cst (.int 1)) .nil)) .nil))))) .nil))) .nil)))
theorem run_eM {cl : Nat → List D → HI → Rz} {σ : St} {h : HI} : evE cl eM σ h = some (.tup ([1, 2].map encM), h) := rfl
theorem b11_eq : b11 = .cons (.fr (.tp (.cons (.nm 2) (.cons (.nm 3) .nil))) (.ex eM) B1) (.cons (.ret (.cst .non)) .nil) := rfl
theorem TL_eq : TL = [1, 2].flatMap tbL := by simp [TL]
section
variable {f : Fm} {ks : List Nat}
def Sh1 (ks : List Nat) (f : Fm) (σ : St) : Prop := ∃ a b c d e g u v, σ = [some (rowD ks), some f.d, a, b, c, d, e, g, u, v]
def Sh2 (ks : List Nat) (f : Fm) (m : Nat) (σ : St) : Prop := ∃ c d e g u v, σ = [some (rowD ks), some f.d, some (.int (m : Nat)), some (.tup ((desL m).map rowD)), c, d, e, g, u, v]
def Sh3 (ks : List Nat) (f : Fm) (m : Nat) (ds : List Nat) (σ : St) : Prop := ∃ d e g u v, σ = [some (rowD ks), some f.d, some (.int (m : Nat)), some (.tup ((desL m).map rowD)), some (rowD ds), d, e, g, u, v]
def Sh4 (ks : List Nat) (f : Fm) (m : Nat) (ds ns : List Nat) (σ : St) : Prop := ∃ e g u v, σ = [some (rowD ks), some f.d, some (.int (m : Nat)), some (.tup ((desL m).map rowD)), some (rowD ds), some (rowD ns), e, g, u, v]
theorem SR.mono {s s' : St → Prop} {p : Tb → Bool} {L : List Tb} {h : HI} (i : ∀ σ, s σ → s' σ) : ∀ {fl : Fl} {H : HI}, SR s p L h fl H → SR s' p L h fl H
  | .nx σ, H, ⟨a, b, c⟩ => ⟨a, i σ b, c⟩
  | .rt d, H, q => q
theorem wB_one {cl : Nat → List D → HI → Rz} {wf : Nat} {σ : St} {h : HI} {s : MS} {s1 s2 : St → Prop} {p : Tb → Bool} {L : List Tb} {g : HI} (i : ∀ σ, s1 σ → s2 σ) (w : wS cl wf s σ h (SR s1 p L g)) : wB cl wf (.cons s .nil) σ h (SR s2 p L g) := by
  rw [wB_cons]
  refine wO_imp w ?_
  rintro ⟨fl, H⟩ q
  cases fl with
  | nx σ' =>
    simp only [wB_nil]
    exact SR.mono i (fl := .nx σ') q
  | rt d => exact SR.mono i (fl := .rt d) q
  | brk _ => exact q.elim
  | ct _ => exact q.elim
theorem in_TL {m : Nat} (m1 : 1 ≤ m) (m2 : m ≤ 2) {ds ns r : List Nat} (hd : ds ∈ desL m) (hn : ns ∈ rowsL m m) (hr : r ∈ rowsL m (m * m)) : (⟨m, ds, ns, cutL m r⟩ : Tb) ∈ TL := by
  have : (⟨m, ds, ns, cutL m r⟩ : Tb) ∈ tbL m := List.mem_flatMap.mpr ⟨ds, hd, List.mem_flatMap.mpr ⟨ns, hn, List.mem_map.mpr ⟨r, hr, rfl⟩⟩⟩
  rcases (show m = 1 ∨ m = 2 by omega) with rfl | rfl
  · exact List.mem_append.mpr (.inl this)
  · exact List.mem_append.mpr (.inr this)
theorem run4 (hf : f ∈ FL) (hk : ∀ k ∈ ks, k ∈ AXS) {m : Nat} (m1 : 1 ≤ m) (m2 : m ≤ 2) {ds ns : List Nat} (hd : ds ∈ desL m) (hn : ns ∈ rowsL m m) {σ : St} {h : HI} (hs : Sh4 ks f m ds ns σ) :
    wB (callI P 5000 107) 5000 B3 σ h (SR (Sh4 ks f m ds ns) (partsP ks f) ((rowsL m (m * m)).map fun r => ⟨m, ds, ns, cutL m r⟩) h) := by
  refine wB_one (fun _ x => x) ?_
  have e : ((rowsL m (m * m)).map fun r => (⟨m, ds, ns, cutL m r⟩ : Tb)) = (rowsL m (m * m)).flatMap fun r => [⟨m, ds, ns, cutL m r⟩] := by
    induction rowsL m (m * m) with
    | nil => rfl
    | cons x l ih => rw [List.map_cons, ih]; rfl
  rw [e]
  refine wS_srch (enc := rowD) hs ?_ ?_
  · obtain ⟨e, g, u, v, rfl⟩ := hs
    have hm : small64 (m : Int) = true := by rcases (show m = 0 ∨ m = 1 ∨ m = 2 by omega) with rfl | rfl | rfl <;> decide
    simp only [↓wE_var, ↓wE_cst, ↓wE_glb, ↓wE_tup, ↓wE_lst, ↓wE_dnew, ↓wE_bin, ↓wE_cmp, ↓wE_not, ↓wE_or, ↓wE_and, ↓wE_idx, ↓wE_slc, ↓wE_omit, ↓wE_call, ↓wE_blt, ↓wE_isi, ↓wE_mth, ↓wL_nil, ↓wL_cons, ↓wB_nil, ↓wB_cons, ↓wS_asg, ↓wS_sub, ↓wS_expr, ↓wS_ret, ↓wS_ite, ↓wI_ex, ↓wI_rng, ↓wI_zip, wV, wW, wO_some, o_int, i_add, i_sub, m_48271, m_69621, m_16807, m_2, m_7, r_1000, r_m31, r_26, f_1000, f_997, f_26, p_18, c_lt, c_gt, c_ge, c_str, t_bl, b_int, m_l hm]
    refine rows2 m1 m2 fun r h1 p1 e1 => ?_
    obtain ⟨l1, l2⟩ := live_it e1
    simp only [l1, wO_some]
    exact ⟨p1, rfl, l2⟩
  · rintro r hr σ H ⟨e, g, u, v, rfl⟩
    rw [← wW_eq]
    simp only [B4, ↓wE_var, ↓wE_cst, ↓wE_glb, ↓wE_tup, ↓wE_lst, ↓wE_dnew, ↓wE_bin, ↓wE_cmp, ↓wE_not, ↓wE_or, ↓wE_and, ↓wE_idx, ↓wE_slc, ↓wE_omit, ↓wE_call, ↓wE_blt, ↓wE_isi, ↓wE_mth, ↓wL_nil, ↓wL_cons, ↓wB_nil, ↓wB_cons, ↓wS_asg, ↓wS_sub, ↓wS_expr, ↓wS_ret, ↓wS_ite, ↓wI_ex, ↓wI_rng, ↓wI_zip, wV, wW]
    refine run_ifs m2 (rowsL_len hr) ?_
    refine ⟨by simp [big], ?_⟩
    try simp only [↓wE_var, ↓wE_cst, ↓wE_glb, ↓wE_tup, ↓wE_lst, ↓wE_dnew, ↓wE_bin, ↓wE_cmp, ↓wE_not, ↓wE_or, ↓wE_and, ↓wE_idx, ↓wE_slc, ↓wE_omit, ↓wE_call, ↓wE_blt, ↓wE_isi, ↓wE_mth, ↓wL_nil, ↓wL_cons, ↓wB_nil, ↓wB_cons, ↓wS_asg, ↓wS_sub, ↓wS_expr, ↓wS_ret, ↓wS_ite, ↓wI_ex, ↓wI_rng, ↓wI_zip, wV, wW]
    have hT := in_TL m1 m2 hd hn hr
    refine run_parts (T := ⟨m, ds, ns, cutL m r⟩) hT hf hk fun H2 p2 => ?_
    simp only [t_bl, wO_some]
    cases c : partsP ks f ⟨m, ds, ns, cutL m r⟩ with
    | true =>
      simp only [if_true, ↓wE_var, ↓wE_cst, ↓wE_glb, ↓wE_tup, ↓wE_lst, ↓wE_dnew, ↓wE_bin, ↓wE_cmp, ↓wE_not, ↓wE_or, ↓wE_and, ↓wE_idx, ↓wE_slc, ↓wE_omit, ↓wE_call, ↓wE_blt, ↓wE_isi, ↓wE_mth, ↓wL_nil, ↓wL_cons, ↓wB_nil, ↓wB_cons, ↓wS_asg, ↓wS_sub, ↓wS_expr, ↓wS_ret, ↓wS_ite, ↓wI_ex, ↓wI_rng, ↓wI_zip, wV, wW]
      exact ⟨p2, _, by rw [List.find?_cons, c], rfl⟩
    | false =>
      simp only [Bool.false_eq_true, if_false, ↓wE_var, ↓wE_cst, ↓wE_glb, ↓wE_tup, ↓wE_lst, ↓wE_dnew, ↓wE_bin, ↓wE_cmp, ↓wE_not, ↓wE_or, ↓wE_and, ↓wE_idx, ↓wE_slc, ↓wE_omit, ↓wE_call, ↓wE_blt, ↓wE_isi, ↓wE_mth, ↓wL_nil, ↓wL_cons, ↓wB_nil, ↓wB_cons, ↓wS_asg, ↓wS_sub, ↓wS_expr, ↓wS_ret, ↓wS_ite, ↓wI_ex, ↓wI_rng, ↓wI_zip, wV, wW]
      exact ⟨p2, ⟨_, _, _, _, rfl⟩, by rw [List.find?_cons, c]; rfl⟩
theorem run3 (hf : f ∈ FL) (hk : ∀ k ∈ ks, k ∈ AXS) {m : Nat} (m1 : 1 ≤ m) (m2 : m ≤ 2) {ds : List Nat} (hd : ds ∈ desL m) {σ : St} {h : HI} (hs : Sh3 ks f m ds σ) :
    wB (callI P 5000 107) 5000 B2 σ h (SR (Sh3 ks f m ds) (partsP ks f) ((rowsL m m).flatMap fun ns => (rowsL m (m * m)).map fun r => ⟨m, ds, ns, cutL m r⟩) h) := by
  refine wB_one (fun _ x => x) ?_
  refine wS_srch (enc := rowD) hs ?_ ?_
  · obtain ⟨d, e, g, u, v, rfl⟩ := hs
    simp only [↓wE_var, ↓wE_cst, ↓wE_glb, ↓wE_tup, ↓wE_lst, ↓wE_dnew, ↓wE_bin, ↓wE_cmp, ↓wE_not, ↓wE_or, ↓wE_and, ↓wE_idx, ↓wE_slc, ↓wE_omit, ↓wE_call, ↓wE_blt, ↓wE_isi, ↓wE_mth, ↓wL_nil, ↓wL_cons, ↓wB_nil, ↓wB_cons, ↓wS_asg, ↓wS_sub, ↓wS_expr, ↓wS_ret, ↓wS_ite, ↓wI_ex, ↓wI_rng, ↓wI_zip, wV, wW]
    refine rows1 m1 m2 fun r h1 p1 e1 => ?_
    obtain ⟨l1, l2⟩ := live_it e1
    simp only [l1, wO_some]
    exact ⟨p1, rfl, l2⟩
  · rintro ns hn σ H ⟨d, e, g, u, v, rfl⟩
    rw [← wW_eq]
    simp only [↓wE_var, ↓wE_cst, ↓wE_glb, ↓wE_tup, ↓wE_lst, ↓wE_dnew, ↓wE_bin, ↓wE_cmp, ↓wE_not, ↓wE_or, ↓wE_and, ↓wE_idx, ↓wE_slc, ↓wE_omit, ↓wE_call, ↓wE_blt, ↓wE_isi, ↓wE_mth, ↓wL_nil, ↓wL_cons, ↓wB_nil, ↓wB_cons, ↓wS_asg, ↓wS_sub, ↓wS_expr, ↓wS_ret, ↓wS_ite, ↓wI_ex, ↓wI_rng, ↓wI_zip, wV, wW]
    refine wO_imp (run4 hf hk m1 m2 hd hn ⟨_, _, _, _, rfl⟩) fun r q => SR.mono ?_ q
    rintro σ ⟨e, g, u, v, rfl⟩
    exact ⟨_, _, _, _, _, rfl⟩
theorem run2 (hf : f ∈ FL) (hk : ∀ k ∈ ks, k ∈ AXS) {m : Nat} (m1 : 1 ≤ m) (m2 : m ≤ 2) {σ : St} {h : HI} (hs : Sh2 ks f m σ) :
    wB (callI P 5000 107) 5000 B1 σ h (SR (Sh2 ks f m) (partsP ks f) (tbL m) h) := by
  refine wB_one (fun _ x => x) ?_
  refine wS_srch (enc := rowD) hs ?_ ?_
  · obtain ⟨c, d, e, g, u, v, rfl⟩ := hs
    simp only [↓wE_var, ↓wE_cst, ↓wE_glb, ↓wE_tup, ↓wE_lst, ↓wE_dnew, ↓wE_bin, ↓wE_cmp, ↓wE_not, ↓wE_or, ↓wE_and, ↓wE_idx, ↓wE_slc, ↓wE_omit, ↓wE_call, ↓wE_blt, ↓wE_isi, ↓wE_mth, ↓wL_nil, ↓wL_cons, ↓wB_nil, ↓wB_cons, ↓wS_asg, ↓wS_sub, ↓wS_expr, ↓wS_ret, ↓wS_ite, ↓wI_ex, ↓wI_rng, ↓wI_zip, wV, wW, it_tup, wO_some]
    exact ⟨Pre.refl, seq_it.1, fun H _ => seq_it.2 H⟩
  · rintro ds hd σ H ⟨c, d, e, g, u, v, rfl⟩
    rw [← wW_eq]
    simp only [↓wE_var, ↓wE_cst, ↓wE_glb, ↓wE_tup, ↓wE_lst, ↓wE_dnew, ↓wE_bin, ↓wE_cmp, ↓wE_not, ↓wE_or, ↓wE_and, ↓wE_idx, ↓wE_slc, ↓wE_omit, ↓wE_call, ↓wE_blt, ↓wE_isi, ↓wE_mth, ↓wL_nil, ↓wL_cons, ↓wB_nil, ↓wB_cons, ↓wS_asg, ↓wS_sub, ↓wS_expr, ↓wS_ret, ↓wS_ite, ↓wI_ex, ↓wI_rng, ↓wI_zip, wV, wW]
    refine wO_imp (run3 hf hk m1 m2 hd ⟨_, _, _, _, _, rfl⟩) fun r q => SR.mono ?_ q
    rintro σ ⟨d, e, g, u, v, rfl⟩
    exact ⟨_, _, _, _, _, _, rfl⟩
theorem run_find (hf : f ∈ FL) (hk : ∀ k ∈ ks, k ∈ AXS) {h : HI} {Q : D × HI → Prop} (q : ∀ h', Pre h h' → Q (resD ks f, h')) : wO (callI P 5000 108 11 [rowD ks, f.d] h) Q := by
  refine wC (d := ⟨2, 10, b11⟩) rfl rfl ?_
  rw [b11_eq, wB_cons]
  have w : wS (callI P 5000 107) 5000 (.fr (.tp (.cons (.nm 2) (.cons (.nm 3) .nil))) (.ex eM) B1) (startD 10 [rowD ks, f.d]) h (SR (Sh1 ks f) (partsP ks f) ([1, 2].flatMap tbL) h) := by
    refine wS_srch (enc := encM) ⟨_, _, _, _, _, _, _, _, rfl⟩ ?_ ?_
    · rw [wI_ex]
      refine ⟨_, run_eM, ?_⟩
      simp only [it_tup, wO_some]
      exact ⟨Pre.refl, seq_it.1, fun H _ => seq_it.2 H⟩
    · rintro m hm σ H ⟨a, b, c, d, e, g, u, v, rfl⟩
      have hm : m = 1 ∨ m = 2 := by simpa using hm
      simp only [encM, bind1, binds, List.length_cons, List.length_nil, List.set, Option.bind_some, wO_some, Nat.reduceAdd, Nat.reduceLT, if_true]
      refine wO_imp (run2 hf hk (m := m) (by omega) (by omega) ⟨_, _, _, _, _, _, rfl⟩) fun r q => SR.mono ?_ q
      rintro σ ⟨c, d, e, g, u, v, rfl⟩
      exact ⟨_, _, _, _, _, _, _, _, rfl⟩
  rw [← TL_eq] at w
  refine wO_imp w ?_
  rintro ⟨fl, H⟩ z
  cases fl with
  | nx σ' =>
    obtain ⟨z1, _, z3⟩ := z
    simp only [↓wE_var, ↓wE_cst, ↓wE_glb, ↓wE_tup, ↓wE_lst, ↓wE_dnew, ↓wE_bin, ↓wE_cmp, ↓wE_not, ↓wE_or, ↓wE_and, ↓wE_idx, ↓wE_slc, ↓wE_omit, ↓wE_call, ↓wE_blt, ↓wE_isi, ↓wE_mth, ↓wL_nil, ↓wL_cons, ↓wB_nil, ↓wB_cons, ↓wS_asg, ↓wS_sub, ↓wS_expr, ↓wS_ret, ↓wS_ite, ↓wI_ex, ↓wI_rng, ↓wI_zip, wV, wW]
    have := q H z1
    simp only [resD, z3] at this
    exact this
  | rt d =>
    obtain ⟨z1, T, z3, rfl⟩ := z
    have := q H z1
    simp only [resD, z3] at this
    exact this
  | brk _ => exact z.elim
  | ct _ => exact z.elim
end
end K63
namespace K63
open PySem MP
theorem idx_ab {v : Int} {h : HI} (h0 : 0 ≤ v) (h1 : v < 2) : ∃ s, (s == ("a" : Str) || s == ("b" : Str)) = true ∧ idxD (.str "abcdefgh") (.int v) h = some (.str s, h) := by
  rcases (show v = 0 ∨ v = 1 by omega) with rfl | rfl
  · exact ⟨"a", by decide, rfl⟩
  · exact ⟨"b", by decide, rfl⟩
theorem run_any2 {wf iw ia b : Nat} {P : List Def} (hW : P[iw]? = some ⟨2, 3, bDraw⟩) (hP : P[ia]? = some ⟨3, 6, bAny iw ia⟩) : ∀ (j : Nat) (r : Int) {h : HI} {Q : D × HI → Prop}, 1 ≤ r → r.toNat + 1 ≤ j → BoxOk h b →
    (∀ (f : Fm) h', sz f ≤ r.toNat → ab f = true → BoxOk h' b → Kp b h h' → Q (f.d, h')) → wO (callI P wf j ia [.ref b, .int r, .int 2] h) Q
  | 0, r, h, Q, hr, hj, hb, q => by omega
  | j + 1, r, h, Q, hr, hj, hb, q => by
    obtain ⟨k, rfl⟩ : ∃ k, j = k + 1 := ⟨j - 1, by omega⟩
    refine wC hP rfl ?_
    simp only [bAny, startD, List.map_cons, List.map_nil, List.length_cons, List.length_nil, List.replicate, List.cons_append, List.nil_append, ↓wE_var, ↓wE_cst, ↓wE_glb, ↓wE_tup, ↓wE_lst, ↓wE_dnew, ↓wE_bin, ↓wE_cmp, ↓wE_not, ↓wE_or, ↓wE_and, ↓wE_idx, ↓wE_slc, ↓wE_omit, ↓wE_call, ↓wE_blt, ↓wE_isi, ↓wE_mth, ↓wL_nil, ↓wL_cons, ↓wB_nil, ↓wB_cons, ↓wS_asg, ↓wS_sub, ↓wS_expr, ↓wS_ret, ↓wS_ite, ↓wI_ex, ↓wI_rng, ↓wI_zip, wV, wW]
    refine run_draw hW hb (by omega) fun kind h1 k0 k1 b1 kp1 => ?_
    simp only [↓wE_var, ↓wE_cst, ↓wE_glb, ↓wE_tup, ↓wE_lst, ↓wE_dnew, ↓wE_bin, ↓wE_cmp, ↓wE_not, ↓wE_or, ↓wE_and, ↓wE_idx, ↓wE_slc, ↓wE_omit, ↓wE_call, ↓wE_blt, ↓wE_isi, ↓wE_mth, ↓wL_nil, ↓wL_cons, ↓wB_nil, ↓wB_cons, ↓wS_asg, ↓wS_sub, ↓wS_expr, ↓wS_ret, ↓wS_ite, ↓wI_ex, ↓wI_rng, ↓wI_zip, wV, wW, wO_some, o_int, i_add, i_sub, m_48271, m_69621, m_16807, m_2, m_7, r_1000, r_m31, r_26, f_1000, f_997, f_26, p_18, c_lt, c_gt, c_ge, c_str, t_bl, b_int]
    have leaf : wO (callI P wf (k + 1) iw [.ref b, .int 2] h1) fun r_1 => wO (idxD (.str "abcdefgh") r_1.1 r_1.2) fun r_2 => Q (.tup [.str "letter", r_2.1], r_2.2) := by
      refine run_draw hW b1 (by omega) fun v h2 v0 v1 b2 kp2 => ?_
      obtain ⟨s, es, e⟩ := idx_ab (v := v) (h := h2) v0 v1
      show wO (idxD (.str "abcdefgh") (.int v) h2) _
      rw [e, wO_some]
      exact q (.ltr s) h2 (by simp [sz]; omega) es b2 (kp1.trans kp2)
    by_cases c1 : r < 2
    · simp only [decide_eq_true c1, if_true]
      exact wO_imp leaf fun _ z => wO_imp z fun _ z => ⟨by decide, z⟩
    by_cases c2 : kind < 2
    · simp only [decide_eq_false c1, decide_eq_true c2, Bool.false_eq_true, if_false, if_true]
      exact wO_imp leaf fun _ z => wO_imp z fun _ z => ⟨by decide, z⟩
    have neg : wO (callI P wf (k + 1) ia [.ref b, .int (r - 1), .int 2] h1) fun r_1 => Q (.tup [.str "not", r_1.1], r_1.2) := by
      refine run_any2 hW hP (k + 1) (r - 1) (by omega) (by omega) b1 fun f h2 l1 l2 b2 kp2 => ?_
      exact q (.neg f) h2 (by simp only [sz]; omega) l2 b2 (kp1.trans kp2)
    by_cases c3 : r < 3
    · simp only [decide_eq_false c1, decide_eq_false c2, decide_eq_true c3, Bool.false_eq_true, if_false, if_true]
      exact wO_imp neg fun _ z => ⟨by decide, z⟩
    by_cases c4 : kind < 4
    · simp only [decide_eq_false c1, decide_eq_false c2, decide_eq_false c3, decide_eq_true c4, Bool.false_eq_true, if_false, if_true]
      exact wO_imp neg fun _ z => ⟨by decide, z⟩
    simp only [decide_eq_false c1, decide_eq_false c2, decide_eq_false c3, decide_eq_false c4, Bool.false_eq_true, if_false]
    refine run_draw hW b1 (by omega) fun v h2 v0 v1 b2 kp2 => ?_
    simp only [wO_some, o_int, i_add, i_sub, m_48271, m_69621, m_16807, m_2, m_7, r_1000, r_m31, r_26, f_1000, f_997, f_26, p_18, c_lt, c_gt, c_ge, c_str, t_bl, b_int]
    refine run_any2 hW hP (k + 1) (1 + v) (by omega) (by omega) b2 fun f h3 l1 l2 b3 kp3 => ?_
    try simp only [wO_some, o_int, i_add, i_sub, m_48271, m_69621, m_16807, m_2, m_7, r_1000, r_m31, r_26, f_1000, f_997, f_26, p_18, c_lt, c_gt, c_ge, c_str, t_bl, b_int]
    refine run_any2 hW hP (k + 1) (r - 1 - (1 + v)) (by omega) (by omega) b3 fun g h4 l3 l4 b4 kp4 => ?_
    exact ⟨by decide, q (.imp f g) h4 (by simp only [sz]; omega) (by simp only [ab, l2, l4, Bool.and_self]) b4 (kp1.trans (kp2.trans (kp3.trans kp4)))⟩
theorem ft1 : D.flats deep ((tbL 1).map Tb.d) = true := by decide +kernel
theorem ft2 : D.flats deep ((tbL 2).map Tb.d) = true := by decide +kernel
theorem c_eq {i j : Int} {h : HI} : cmpB .eq (.int i) (.int j) h = some (decide (i = j)) := by
  simp [cmpB, D.eqv]
  rfl
def bEnd : MSs := (.cons (.asg (.nm 5) (.cst .non)) (.cons (.fr (.nm 6) (.ex (.bin .add (.x (.rev (.call 30 (.cons (.cst (.int 2)) .nil)))) (.x (.rev (.call 30 (.cons (.cst (.int 1)) .nil)))))) (.cons (.ite (.call 28 (.cons (.var 6) (.cons (.var 2) (.cons (.var 4) .nil)))) (.cons (.asg (.nm 5) (.var 6)) .nil) .nil) .nil)) (.cons (.ret (.call 29 (.cons (.call 11 (.cons (.var 2) (.cons (.var 4) .nil))) (.cons (.var 5) .nil)))) .nil)))
def dueD (p : Tb → Bool) (L : List Tb) : D := match L.find? p with | some T => T.d | none => .non
theorem run_same2 {f : Fm} {ks : List Nat} {h : HI} {Q : D × HI → Prop} (q : ∀ h', Pre h h' → Q (.bl true, h')) : wO (callI P 5000 108 29 [resD ks f, resD ks f] h) Q := by
  unfold resD
  cases c : TL.find? (partsP ks f) with
  | none => exact cl_bl rfl (isV_to sameN) q
  | some T =>
    have z := factT (List.mem_of_find?_eq_some c)
    have fl := z.fl
    exact cl_bl (by simp only [D.flats, Bool.and_true] at fl ⊢; rw [fl]; rfl) z.e29 q
theorem rev_l {h : HI} {r : Nat} {ds : List D} (e : h[r]? = some (.lst ds)) : revD (.ref r) h = some (.ref h.length, h ++ [.lst ds.reverse]) := by
  simp [revD, lstOf, e, hnew]
theorem add_l {h : HI} {m n : Nat} {a b : List D} (e1 : h[m]? = some (.lst a)) (e2 : h[n]? = some (.lst b)) (hl : a.length + b.length ≤ big) : binD .add (.ref m) (.ref n) h = some (.ref h.length, h ++ [.lst (a ++ b)]) := by
  simp [binD, e1, e2, hl, hnew]
theorem TL_len : (tbL 2).length + (tbL 1).length = 258 := by decide +kernel
def eIt : ME := (.bin .add (.x (.rev (.call 30 (.cons (.cst (.int 2)) .nil)))) (.x (.rev (.call 30 (.cons (.cst (.int 1)) .nil)))))
theorem run_it {σ : St} {h : HI} {Q : D → HI → Prop} (q : ∀ r H, H[r]? = some (.lst (TL.reverse.map Tb.d)) → Q (.ref r) H) : wE (callI P 5000 108) eIt σ h Q := by
  simp only [eIt, ↓wE_var, ↓wE_cst, ↓wE_glb, ↓wE_tup, ↓wE_lst, ↓wE_dnew, ↓wE_bin, ↓wE_cmp, ↓wE_not, ↓wE_or, ↓wE_and, ↓wE_idx, ↓wE_slc, ↓wE_omit, ↓wE_call, ↓wE_blt, ↓wE_isi, ↓wE_mth, ↓wL_nil, ↓wL_cons, ↓wB_nil, ↓wB_cons, ↓wS_asg, ↓wS_sub, ↓wS_expr, ↓wS_ret, ↓wS_ite, ↓wI_ex, ↓wI_rng, ↓wI_zip, wV, wW, ↓wE_rev]
  refine cl_list rfl ft2 tb2 fun r2 h1 p1 e1 => ?_
  simp only [rev_l e1, wO_some]
  refine cl_list rfl ft1 tb1 fun r1 h2 p2 e2 => ?_
  simp only [rev_l e2, wO_some]
  have g1 : (h2 ++ [HB.lst ((tbL 1).map Tb.d).reverse])[h1.length]? = some (.lst ((tbL 2).map Tb.d).reverse) := grow_get (p2 _ _ get_last) _
  rw [add_l g1 get_last (by simp only [List.length_reverse, List.length_map]; rw [TL_len]; decide), wO_some]
  refine q _ _ ?_
  simp only
  rw [get_last]
  simp [TL]
theorem run_end {f : Fm} {ks : List Nat} (hf : f ∈ FL) (hk : ∀ k ∈ ks, k ∈ AXS) {h : HI} {s b x c y : Option D} {R : Fl → HI → Prop} (q : ∀ h', R (.rt (.bl true)) h') :
    wB (callI P 5000 108) 5000 bEnd [s, b, some (rowD ks), x, some f.d, c, y] h R := by
  have be : bEnd = (.cons (.asg (.nm 5) (.cst .non)) (.cons (.fr (.nm 6) (.ex eIt) (.cons (.ite (.call 28 (.cons (.var 6) (.cons (.var 2) (.cons (.var 4) .nil)))) (.cons (.asg (.nm 5) (.var 6)) .nil) .nil) .nil)) (.cons (.ret (.call 29 (.cons (.call 11 (.cons (.var 2) (.cons (.var 4) .nil))) (.cons (.var 5) .nil)))) .nil))) := rfl
  rw [be]
  simp only [↓wE_var, ↓wE_cst, ↓wE_glb, ↓wE_tup, ↓wE_lst, ↓wE_dnew, ↓wE_bin, ↓wE_cmp, ↓wE_not, ↓wE_or, ↓wE_and, ↓wE_idx, ↓wE_slc, ↓wE_omit, ↓wE_call, ↓wE_blt, ↓wE_isi, ↓wE_mth, ↓wL_nil, ↓wL_cons, ↓wB_nil, ↓wB_cons, ↓wS_asg, ↓wS_sub, ↓wS_expr, ↓wS_ret, ↓wS_ite, ↓wI_ex, ↓wI_rng, ↓wI_zip, wV, wW]
  have up : ∀ {j : Nat} (hj : j < TL.reverse.length), (TL.reverse.take (j + 1)).reverse = TL.reverse[j] :: (TL.reverse.take j).reverse := fun hj => by
    rw [List.take_add_one, List.getElem?_eq_getElem hj, Option.toList_some, List.reverse_append]
    rfl
  obtain ⟨⟨v, h1⟩, ev, r, rfl, er⟩ := run_it (σ := [s, b, some (rowD ks), x, some f.d, some .non, y]) (h := h) (Q := fun v H => ∃ r, v = .ref r ∧ H[r]? = some (.lst (TL.reverse.map Tb.d))) fun r H e => ⟨r, rfl, e⟩
  obtain ⟨l1, l2⟩ := live_it er
  refine wS_forE (fun j σ H => (∃ y, σ = [s, b, some (rowD ks), x, some f.d, some (dueD (partsP ks f) (TL.reverse.take j).reverse), y]) ∧ Pre h1 H) ?_
  rw [wI_ex]
  refine ⟨_, ev, ?_⟩
  simp only [l1, wO_some]
  refine ⟨⟨⟨_, rfl⟩, Pre.refl⟩, ?_, ?_⟩
  · rintro j σ H hj ⟨⟨y, rfl⟩, pH⟩
    have hj : j < TL.reverse.length := hj
    refine ⟨_, (l2 H pH).2 j hj, ?_⟩
    rw [← wW_eq]
    simp only [↓wE_var, ↓wE_cst, ↓wE_glb, ↓wE_tup, ↓wE_lst, ↓wE_dnew, ↓wE_bin, ↓wE_cmp, ↓wE_not, ↓wE_or, ↓wE_and, ↓wE_idx, ↓wE_slc, ↓wE_omit, ↓wE_call, ↓wE_blt, ↓wE_isi, ↓wE_mth, ↓wL_nil, ↓wL_cons, ↓wB_nil, ↓wB_cons, ↓wS_asg, ↓wS_sub, ↓wS_expr, ↓wS_ret, ↓wS_ite, ↓wI_ex, ↓wI_rng, ↓wI_zip, wV, wW]
    have hT : TL.reverse[j] ∈ TL := List.mem_reverse.mp (List.getElem_mem hj)
    refine run_parts_by hT hf hk fun H2 p2 => ?_
    simp only [t_bl, wO_some]
    have u := up hj
    cases c : partsP ks f TL.reverse[j] with
    | true =>
      simp only [if_true, ↓wE_var, ↓wE_cst, ↓wE_glb, ↓wE_tup, ↓wE_lst, ↓wE_dnew, ↓wE_bin, ↓wE_cmp, ↓wE_not, ↓wE_or, ↓wE_and, ↓wE_idx, ↓wE_slc, ↓wE_omit, ↓wE_call, ↓wE_blt, ↓wE_isi, ↓wE_mth, ↓wL_nil, ↓wL_cons, ↓wB_nil, ↓wB_cons, ↓wS_asg, ↓wS_sub, ↓wS_expr, ↓wS_ret, ↓wS_ite, ↓wI_ex, ↓wI_rng, ↓wI_zip, wV, wW]
      refine ⟨⟨some TL.reverse[j].d, ?_⟩, pH.trans p2⟩
      simp only [u, dueD, List.find?_cons, c]
    | false =>
      simp only [Bool.false_eq_true, if_false, ↓wE_var, ↓wE_cst, ↓wE_glb, ↓wE_tup, ↓wE_lst, ↓wE_dnew, ↓wE_bin, ↓wE_cmp, ↓wE_not, ↓wE_or, ↓wE_and, ↓wE_idx, ↓wE_slc, ↓wE_omit, ↓wE_call, ↓wE_blt, ↓wE_isi, ↓wE_mth, ↓wL_nil, ↓wL_cons, ↓wB_nil, ↓wB_cons, ↓wS_asg, ↓wS_sub, ↓wS_expr, ↓wS_ret, ↓wS_ite, ↓wI_ex, ↓wI_rng, ↓wI_zip, wV, wW]
      refine ⟨⟨some TL.reverse[j].d, ?_⟩, pH.trans p2⟩
      simp only [u, dueD, List.find?_cons, c]
  · rintro σ H ⟨⟨y, rfl⟩, pH⟩
    refine ⟨(l2 H pH).1, ?_⟩
    have e : dueD (partsP ks f) (TL.reverse.take (It.live r TL.reverse.length).len).reverse = resD ks f := by
      have : TL.reverse.take (It.live r TL.reverse.length).len = TL.reverse := List.take_of_length_le (Nat.le_refl _)
      rw [this, List.reverse_reverse]
      rfl
    rw [e]
    simp only [↓wE_var, ↓wE_cst, ↓wE_glb, ↓wE_tup, ↓wE_lst, ↓wE_dnew, ↓wE_bin, ↓wE_cmp, ↓wE_not, ↓wE_or, ↓wE_and, ↓wE_idx, ↓wE_slc, ↓wE_omit, ↓wE_call, ↓wE_blt, ↓wE_isi, ↓wE_mth, ↓wL_nil, ↓wL_cons, ↓wB_nil, ↓wB_cons, ↓wS_asg, ↓wS_sub, ↓wS_expr, ↓wS_ret, ↓wS_ite, ↓wI_ex, ↓wI_rng, ↓wI_zip, wV, wW]
    refine run_find hf hk fun H2 p2 => ?_
    refine run_same2 fun H3 p3 => ?_
    exact q _
end K63
namespace K63
open PySem MP
theorem Pq : P[12]? = some ⟨2, 2, bCell⟩ ∧ P[13]? = some ⟨3, 8, bDigits 12⟩ ∧ P[14]? = some ⟨3, 3, bBox 13⟩ ∧ P[15]? = some ⟨2, 3, bDraw⟩ ∧ P[18]? = some ⟨3, 6, bAny 15 18⟩ := ⟨rfl, rfl, rfl, rfl, rfl⟩
def b32' : MSs := (.cons (.asg (.nm 1) (.call 14 (.cons (.var 0) (.cons (.cst (.int 0)) (.cons (.cst (.int 63)) .nil))))) (.cons (.asg (.nm 2) (.blt .tuple (.cons (.comp .lst [3] (.one (.nm 3) (.rng (.cons (.cst (.int 1)) (.cons (.cst (.int 7)) .nil))) (.cmp .eq (.call 15 (.cons (.var 1) (.cons (.cst (.int 2)) .nil))) (.cst (.int 0))) (.var 3) .omit)) .nil))) (.cons (.asg (.nm 4) (.call 17 (.cons (.bin .add (.cst (.int 1)) (.call 15 (.cons (.var 1) (.cons (.cst (.int 6)) .nil)))) .nil))) (.cons (.ite (.cmp .eq (.call 15 (.cons (.var 1) (.cons (.cst (.int 2)) .nil))) (.cst (.int 0))) (.cons (.asg (.nm 4) (.call 18 (.cons (.var 1) (.cons (.cst (.int 6)) (.cons (.cst (.int 2)) .nil))))) .nil) .nil) bEnd))))
theorem b32_eq : b32 = b32' := rfl
theorem rng17 : rngIt [.int 1, .int 7] = some (.seq ((List.range 6).map fun k => .int (1 + (k : Nat)))) := rfl
theorem law_true (ns : List Int) (o : HB) (ho : o = .lst (ns.map .int) ∨ o = .rol (ns.map .int)) : ∃ h', callI P 5000 109 32 [.ref 0] [o] = some (.bl true, h') := by
  have la : LA [o] 0 (ns.map .int) := by
    rcases ho with rfl | rfl
    · exact .inl rfl
    · exact .inr rfl
  suffices w : wO (callI P 5000 109 32 [.ref 0] [o]) (fun r => r.1 = .bl true) by
    obtain ⟨⟨v, h'⟩, e, q⟩ := w
    have q : v = .bl true := q
    subst q
    exact ⟨h', e⟩
  refine wC (d := ⟨1, 7, b32⟩) rfl rfl ?_
  rw [b32_eq]
  simp only [b32', startD, List.map_cons, List.map_nil, List.length_cons, List.length_nil, List.replicate, List.cons_append, List.nil_append, ↓wE_var, ↓wE_cst, ↓wE_glb, ↓wE_tup, ↓wE_lst, ↓wE_dnew, ↓wE_bin, ↓wE_cmp, ↓wE_not, ↓wE_or, ↓wE_and, ↓wE_idx, ↓wE_slc, ↓wE_omit, ↓wE_call, ↓wE_blt, ↓wE_isi, ↓wE_mth, ↓wL_nil, ↓wL_cons, ↓wB_nil, ↓wB_cons, ↓wS_asg, ↓wS_sub, ↓wS_expr, ↓wS_ret, ↓wS_ite, ↓wI_ex, ↓wI_rng, ↓wI_zip, wV, wW]
  refine run_box Pq.1 Pq.2.1 Pq.2.2.1 la fun b h1 p1 bo1 => ?_
  simp only [↓wE_var, ↓wE_cst, ↓wE_glb, ↓wE_tup, ↓wE_lst, ↓wE_dnew, ↓wE_bin, ↓wE_cmp, ↓wE_not, ↓wE_or, ↓wE_and, ↓wE_idx, ↓wE_slc, ↓wE_omit, ↓wE_call, ↓wE_blt, ↓wE_isi, ↓wE_mth, ↓wL_nil, ↓wL_cons, ↓wB_nil, ↓wB_cons, ↓wS_asg, ↓wS_sub, ↓wS_expr, ↓wS_ret, ↓wS_ite, ↓wI_ex, ↓wI_rng, ↓wI_zip, wV, wW]
  refine wE_lc (fun n j acc H => BoxOk H b ∧ b < n ∧ ∃ ks : List Nat, acc = ks.map nD ∧ ks.length ≤ j ∧ ∀ k ∈ ks, k ∈ AXS) ?_
  simp only [↓wE_var, ↓wE_cst, ↓wE_glb, ↓wE_tup, ↓wE_lst, ↓wE_dnew, ↓wE_bin, ↓wE_cmp, ↓wE_not, ↓wE_or, ↓wE_and, ↓wE_idx, ↓wE_slc, ↓wE_omit, ↓wE_call, ↓wE_blt, ↓wE_isi, ↓wE_mth, ↓wL_nil, ↓wL_cons, ↓wB_nil, ↓wB_cons, ↓wS_asg, ↓wS_sub, ↓wS_expr, ↓wS_ret, ↓wS_ite, ↓wI_ex, ↓wI_rng, ↓wI_zip, wV, wW, rng17, wO_some]
  refine ⟨⟨bo1.pre (Pre.app _), ?_, [], rfl, by simp, by simp⟩, ?_, ?_⟩
  · obtain ⟨dr, ds, c, e1, e2⟩ := bo1
    exact (List.getElem?_eq_some_iff.mp e1).1
  · rintro j acc H hj ⟨bH, hb, ks, rfl, hl, hk⟩ e
    have hj6 : j < 6 := by simpa [It.len] using hj
    have en : (It.seq ((List.range 6).map fun k => D.int (1 + (k : Nat)))).nx j H = some (.int (1 + (j : Nat))) := by simp [It.nx, hj6]
    refine ⟨_, en, ?_⟩
    rw [← wW_eq]
    simp only [wipeD, List.set, ↓wE_var, ↓wE_cst, ↓wE_glb, ↓wE_tup, ↓wE_lst, ↓wE_dnew, ↓wE_bin, ↓wE_cmp, ↓wE_not, ↓wE_or, ↓wE_and, ↓wE_idx, ↓wE_slc, ↓wE_omit, ↓wE_call, ↓wE_blt, ↓wE_isi, ↓wE_mth, ↓wL_nil, ↓wL_cons, ↓wB_nil, ↓wB_cons, ↓wS_asg, ↓wS_sub, ↓wS_expr, ↓wS_ret, ↓wS_ite, ↓wI_ex, ↓wI_rng, ↓wI_zip, wV, wW]
    refine run_draw Pq.2.2.2.1 bH (by omega) fun v h2 v0 v1 b2 kp2 => ?_
    have e2 := kp2 _ _ (by omega) e
    simp only [c_eq, wO_some, t_bl, ↓wE_var, ↓wE_cst, ↓wE_glb, ↓wE_tup, ↓wE_lst, ↓wE_dnew, ↓wE_bin, ↓wE_cmp, ↓wE_not, ↓wE_or, ↓wE_and, ↓wE_idx, ↓wE_slc, ↓wE_omit, ↓wE_call, ↓wE_blt, ↓wE_isi, ↓wE_mth, ↓wL_nil, ↓wL_cons, ↓wB_nil, ↓wB_cons, ↓wS_asg, ↓wS_sub, ↓wS_expr, ↓wS_ret, ↓wS_ite, ↓wI_ex, ↓wI_rng, ↓wI_zip, wV, wW]
    by_cases cv : v = 0
    · simp only [cv, decide_true, if_true, ↓wE_var, ↓wE_cst, ↓wE_glb, ↓wE_tup, ↓wE_lst, ↓wE_dnew, ↓wE_bin, ↓wE_cmp, ↓wE_not, ↓wE_or, ↓wE_and, ↓wE_idx, ↓wE_slc, ↓wE_omit, ↓wE_call, ↓wE_blt, ↓wE_isi, ↓wE_mth, ↓wL_nil, ↓wL_cons, ↓wB_nil, ↓wB_cons, ↓wS_asg, ↓wS_sub, ↓wS_expr, ↓wS_ret, ↓wS_ite, ↓wI_ex, ↓wI_rng, ↓wI_zip, wV, wW]
      refine ⟨e2, by simp [big]; omega, ?_, hb, ks ++ [1 + j], by rw [List.map_append]; simp [nD], by simp; omega, ?_⟩
      · obtain ⟨dr, ds, c, k1, k2⟩ := b2
        have hbl : b < h2.length := (List.getElem?_eq_some_iff.mp k1).1
        have hnl : h1.length < h2.length := (List.getElem?_eq_some_iff.mp e2).1
        by_cases z : h1.length = dr
        · refine ⟨dr, ks.map Int.ofNat ++ [1 + (j : Int)], c, by rw [List.getElem?_set_ne (by omega)]; exact k1, ?_⟩
          rw [← z, List.getElem?_set_self hnl, List.map_append, List.map_map]
          rfl
        · refine ⟨dr, ds, c, by rw [List.getElem?_set_ne (by omega)]; exact k1, ?_⟩
          rw [List.getElem?_set_ne z]
          exact k2
      · intro k hm
        rcases List.mem_append.mp hm with z | z
        · exact hk k z
        · have : k = 1 + j := by simpa using z
          subst this
          simp only [AXS]
          rcases (show j = 0 ∨ j = 1 ∨ j = 2 ∨ j = 3 ∨ j = 4 ∨ j = 5 by omega) with rfl | rfl | rfl | rfl | rfl | rfl <;> decide
    · simp only [cv, decide_false, Bool.false_eq_true, if_false]
      exact ⟨e2, b2, hb, ks, rfl, by omega, hk⟩
  · rintro acc H ⟨bH, hb, ks, rfl, hl, hk⟩ e
    refine ⟨rfl, ?_⟩
    simp only [tp e, wO_some, ↓wE_var, ↓wE_cst, ↓wE_glb, ↓wE_tup, ↓wE_lst, ↓wE_dnew, ↓wE_bin, ↓wE_cmp, ↓wE_not, ↓wE_or, ↓wE_and, ↓wE_idx, ↓wE_slc, ↓wE_omit, ↓wE_call, ↓wE_blt, ↓wE_isi, ↓wE_mth, ↓wL_nil, ↓wL_cons, ↓wB_nil, ↓wB_cons, ↓wS_asg, ↓wS_sub, ↓wS_expr, ↓wS_ret, ↓wS_ite, ↓wI_ex, ↓wI_rng, ↓wI_zip, wV, wW]
    refine run_draw Pq.2.2.2.1 bH (by omega) fun v h2 v0 v1 b2 kp2 => ?_
    obtain ⟨k, hk6, ek⟩ : ∃ k : Nat, k ∈ AXS ∧ (1 + v : Int) = (k : Nat) := by
      refine ⟨(1 + v).toNat, ?_, by omega⟩
      rcases (show v = 0 ∨ v = 1 ∨ v = 2 ∨ v = 3 ∨ v = 4 ∨ v = 5 by omega) with rfl | rfl | rfl | rfl | rfl | rfl <;> decide
    obtain ⟨_, _, a3, a4, a5⟩ := factA hk6
    simp only [wO_some, o_int, i_add, i_sub, m_48271, m_69621, m_16807, m_2, m_7, r_1000, r_m31, r_26, f_1000, f_997, f_26, p_18, c_lt, c_gt, c_ge, c_str, t_bl, b_int, ek]
    refine cl_ax (by simp [D.flats]) a5 a3 fun h3 p3 => ?_
    simp only [↓wE_var, ↓wE_cst, ↓wE_glb, ↓wE_tup, ↓wE_lst, ↓wE_dnew, ↓wE_bin, ↓wE_cmp, ↓wE_not, ↓wE_or, ↓wE_and, ↓wE_idx, ↓wE_slc, ↓wE_omit, ↓wE_call, ↓wE_blt, ↓wE_isi, ↓wE_mth, ↓wL_nil, ↓wL_cons, ↓wB_nil, ↓wB_cons, ↓wS_asg, ↓wS_sub, ↓wS_expr, ↓wS_ret, ↓wS_ite, ↓wI_ex, ↓wI_rng, ↓wI_zip, wV, wW]
    refine run_draw Pq.2.2.2.1 (b2.pre p3) (by omega) fun v h4 v0 v1 b4 kp4 => ?_
    simp only [c_eq, wO_some, t_bl, ↓wE_var, ↓wE_cst, ↓wE_glb, ↓wE_tup, ↓wE_lst, ↓wE_dnew, ↓wE_bin, ↓wE_cmp, ↓wE_not, ↓wE_or, ↓wE_and, ↓wE_idx, ↓wE_slc, ↓wE_omit, ↓wE_call, ↓wE_blt, ↓wE_isi, ↓wE_mth, ↓wL_nil, ↓wL_cons, ↓wB_nil, ↓wB_cons, ↓wS_asg, ↓wS_sub, ↓wS_expr, ↓wS_ret, ↓wS_ite, ↓wI_ex, ↓wI_rng, ↓wI_zip, wV, wW]
    by_cases cv : v = 0
    · simp only [cv, decide_true, if_true, ↓wE_var, ↓wE_cst, ↓wE_glb, ↓wE_tup, ↓wE_lst, ↓wE_dnew, ↓wE_bin, ↓wE_cmp, ↓wE_not, ↓wE_or, ↓wE_and, ↓wE_idx, ↓wE_slc, ↓wE_omit, ↓wE_call, ↓wE_blt, ↓wE_isi, ↓wE_mth, ↓wL_nil, ↓wL_cons, ↓wB_nil, ↓wB_cons, ↓wS_asg, ↓wS_sub, ↓wS_expr, ↓wS_ret, ↓wS_ite, ↓wI_ex, ↓wI_rng, ↓wI_zip, wV, wW]
      refine run_any2 Pq.2.2.2.1 Pq.2.2.2.2 108 6 (by omega) (by decide) b4 fun f h5 f1 f2 b5 kp5 => ?_
      simp only [↓wE_var, ↓wE_cst, ↓wE_glb, ↓wE_tup, ↓wE_lst, ↓wE_dnew, ↓wE_bin, ↓wE_cmp, ↓wE_not, ↓wE_or, ↓wE_and, ↓wE_idx, ↓wE_slc, ↓wE_omit, ↓wE_call, ↓wE_blt, ↓wE_isi, ↓wE_mth, ↓wL_nil, ↓wL_cons, ↓wB_nil, ↓wB_cons, ↓wS_asg, ↓wS_sub, ↓wS_expr, ↓wS_ret, ↓wS_ite, ↓wI_ex, ↓wI_rng, ↓wI_zip, wV, wW]
      exact run_end (List.mem_append.mpr (.inl (fmL_mem 6 f f1 f2))) hk fun h' => rfl
    · simp only [cv, decide_false, Bool.false_eq_true, if_false, ↓wE_var, ↓wE_cst, ↓wE_glb, ↓wE_tup, ↓wE_lst, ↓wE_dnew, ↓wE_bin, ↓wE_cmp, ↓wE_not, ↓wE_or, ↓wE_and, ↓wE_idx, ↓wE_slc, ↓wE_omit, ↓wE_call, ↓wE_blt, ↓wE_isi, ↓wE_mth, ↓wL_nil, ↓wL_cons, ↓wB_nil, ↓wB_cons, ↓wS_asg, ↓wS_sub, ↓wS_expr, ↓wS_ret, ↓wS_ite, ↓wI_ex, ↓wI_rng, ↓wI_zip, wV, wW]
      exact run_end a4 hk fun h' => rfl
end K63
namespace K63
open PySem MP
def topS (i : Nat) : Stmt := PySem.Challenge.pw_proofabode_k63_the_first_table.main.body.getD i (.Pass ⟨0, 0, 0, 0⟩)
def x0 : DefX := ⟨"letters", topS 6, ["formula", "part", "name"], ["formula"], ⟨1, 3, b0⟩⟩
def x1 : DefX := ⟨"axiom", topS 7, ["k"], ["k"], ⟨1, 1, b1⟩⟩
def x2 : DefX := ⟨"is_number", topS 8, ["value"], ["value"], ⟨1, 1, b2⟩⟩
def x3 : DefX := ⟨"value", topS 11, ["table", "formula", "values"], ["table", "formula", "values"], ⟨3, 3, b3⟩⟩
def x4 : DefX := ⟨"all_values", topS 12, ["names", "many", "found", "name", "values", "number"], ["names", "many"], ⟨2, 6, b4⟩⟩
def x5 : DefX := ⟨"is_kept", topS 13, ["table", "formula", "values"], ["table", "formula"], ⟨2, 3, b5⟩⟩
def x6 : DefX := ⟨"keeps_rule", topS 14, ["table", "_", "many", "designated", "ifs", "x", "y"], ["table"], ⟨1, 7, b6⟩⟩
def x7 : DefX := ⟨"is_row", topS 15, ["row", "many", "one"], ["row", "many"], ⟨2, 3, b7⟩⟩
def x8 : DefX := ⟨"is_table", topS 16, ["table", "_", "many", "designated", "nots", "ifs", "one", "other", "row"], ["table"], ⟨1, 9, b8⟩⟩
def x9 : DefX := ⟨"parts", topS 17, ["table", "axioms", "formula", "k"], ["table", "axioms", "formula"], ⟨3, 4, b9⟩⟩
def x10 : DefX := ⟨"rows_of", topS 19, ["many", "width", "rows", "_", "row", "one"], ["many", "width"], ⟨2, 6, b10⟩⟩
def x11 : DefX := ⟨"find_table", topS 20, ["axioms", "formula", "many", "designs", "designated", "nots", "flat", "ifs", "table", "one"], ["axioms", "formula"], ⟨2, 10, b11⟩⟩
def x12 : DefX := ⟨"_law_cell", topS 22, ["script", "k"], ["script", "k"], ⟨2, 2, b12⟩⟩
def x13 : DefX := ⟨"_law_digits", topS 23, ["script", "first", "last", "digits", "k", "cell", "turn", "seed"], ["script", "first", "last"], ⟨3, 8, b13⟩⟩
def x14 : DefX := ⟨"_law_box", topS 24, ["script", "first", "last"], ["script", "first", "last"], ⟨3, 3, b14⟩⟩
def x15 : DefX := ⟨"_law_draw", topS 25, ["box", "many", "at"], ["box", "many"], ⟨2, 3, b15⟩⟩
def x16 : DefX := ⟨"_law_if", topS 26, ["rows", "formula", "k"], ["rows"], ⟨1, 3, b16⟩⟩
def x17 : DefX := ⟨"_law_axiom", topS 27, ["k", "a", "b", "c", "d", "axioms"], ["k"], ⟨1, 6, b17⟩⟩
def x18 : DefX := ⟨"_law_any", topS 28, ["box", "room", "many", "kind", "left", "first"], ["box", "room", "many"], ⟨3, 6, b18⟩⟩
def x19 : DefX := ⟨"_law_rising", topS 29, ["row", "many", "k"], ["row", "many"], ⟨2, 3, b19⟩⟩
def x20 : DefX := ⟨"_law_row_of_values", topS 30, ["row", "many", "one"], ["row", "many"], ⟨2, 3, b20⟩⟩
def x21 : DefX := ⟨"_law_is_table", topS 31, ["table", "many", "row"], ["table"], ⟨1, 3, b21⟩⟩
def x22 : DefX := ⟨"_law_keeps_rule", topS 32, ["table", "x", "y"], ["table"], ⟨1, 3, b22⟩⟩
def x23 : DefX := ⟨"_law_ways", topS 33, ["names", "many", "ways", "name", "longer", "way", "value_v", "wider"], ["names", "many"], ⟨2, 8, b23⟩⟩
def x24 : DefX := ⟨"_law_parts", topS 34, ["formula", "rows", "part"], ["formula"], ⟨1, 3, b24⟩⟩
def x25 : DefX := ⟨"_law_names", topS 35, ["formula", "part"], ["formula"], ⟨1, 2, b25⟩⟩
def x26 : DefX := ⟨"_law_value", topS 36, ["table", "formula", "values"], ["table", "formula", "values"], ⟨3, 3, b26⟩⟩
def x27 : DefX := ⟨"_law_kept", topS 37, ["table", "formula", "values"], ["table", "formula"], ⟨2, 3, b27⟩⟩
def x28 : DefX := ⟨"_law_parts_by", topS 38, ["table", "axioms", "formula", "k"], ["table", "axioms", "formula"], ⟨3, 4, b28⟩⟩
def x29 : DefX := ⟨"_law_same", topS 39, ["actual", "expected", "k"], ["actual", "expected"], ⟨2, 3, b29⟩⟩
def x30 : DefX := ⟨"_law_tables_of", topS 40, ["many", "rows", "k", "row", "wide", "grids", "found", "designated", "nots", "ifs"], ["many"], ⟨1, 10, b30⟩⟩
def x31 : DefX := ⟨"_law_longer", topS 41, ["rows", "items", "longer", "row", "item"], ["rows", "items"], ⟨2, 5, b31⟩⟩
def x32 : DefX := ⟨"law", topS 42, ["script", "box", "axioms", "number", "formula", "due", "table"], ["script"], ⟨1, 7, b32⟩⟩
def ds : List DefX := [x0, x1, x2, x3, x4, x5, x6, x7, x8, x9, x10, x11, x12, x13, x14, x15, x16, x17, x18, x19, x20, x21, x22, x23, x24, x25, x26, x27, x28, x29, x30, x31, x32]
def gi : GI := ⟨[("MOST", (.int 4))], (("letters", 1) :: ("axiom", 1) :: ("is_number", 1) :: ("value", 3) :: ("all_values", 2) :: ("is_kept", 2) :: ("keeps_rule", 1) :: ("is_row", 2) :: ("is_table", 1) :: ("parts", 3) :: ("rows_of", 2) :: ("find_table", 2) :: ("_law_cell", 2) :: ("_law_digits", 3) :: ("_law_box", 3) :: ("_law_draw", 2) :: ("_law_if", 1) :: ("_law_axiom", 1) :: ("_law_any", 3) :: ("_law_rising", 2) :: ("_law_row_of_values", 2) :: ("_law_is_table", 1) :: ("_law_keeps_rule", 1) :: ("_law_ways", 2) :: ("_law_parts", 1) :: ("_law_names", 1) :: ("_law_value", 3) :: ("_law_kept", 2) :: ("_law_parts_by", 3) :: ("_law_same", 2) :: ("_law_tables_of", 1) :: ("_law_longer", 2) :: ("law", 1) :: []), ["all", "any", "bool", "dict", "int", "isinstance", "len", "list", "range", "set", "sorted", "str", "tuple", "zip"], [("AXIOMS", g_AXIOMS)]⟩
end K63
namespace K63
open PySem MP
theorem P_eq : ds.map (·.d) = P := rfl
theorem law_true_ds (ns : List Int) (o : HB) (h1 : ns.length ≤ 63) (h2 : ∀ z ∈ ns, Builtin.Int.intBits z ≤ 1048576) (ho : o = .lst (ns.map .int) ∨ o = .rol (ns.map .int)) : ∃ h', callI (ds.map (·.d)) 5000 109 32 [.ref 0] [o] = some (.bl true, h') := by
  exact P_eq ▸ law_true ns o ho
end K63
namespace K63
open PySem MP
theorem checked : ∀ x ∈ ds, chkD gi x = true := by
  have : ds.all (chkD gi) = true := by decide +kernel
  exact List.all_eq_true.mp this
theorem bound : ∀ y ∈ ds, ∀ (kV doc pm : Value) (an : Option Addr) (cdv ct : Value) (us : List Value), us.length = y.ps.length →
    bindArgs (PySem.W.fnOf y.nm y.nm (L2.defArgs y.st) (L2.defBody y.st) (L2.defScope y.st) .none kV doc pm an cdv ct) ⟨us, []⟩ = pure (y.ps.zip us) := by
  intro y hy kV doc pm an cdv ct us hl
  simp only [ds, List.mem_cons, List.not_mem_nil, or_false] at hy
  rcases hy with rfl | rfl | rfl | rfl | rfl | rfl | rfl | rfl | rfl | rfl | rfl | rfl | rfl | rfl | rfl | rfl | rfl | rfl | rfl | rfl | rfl | rfl | rfl | rfl | rfl | rfl | rfl | rfl | rfl | rfl | rfl | rfl | rfl
  · exact (match us, hl with | [_], _ => rfl)
  · exact (match us, hl with | [_], _ => rfl)
  · exact (match us, hl with | [_], _ => rfl)
  · exact (match us, hl with | [_, _, _], _ => rfl)
  · exact (match us, hl with | [_, _], _ => rfl)
  · exact (match us, hl with | [_, _], _ => rfl)
  · exact (match us, hl with | [_], _ => rfl)
  · exact (match us, hl with | [_, _], _ => rfl)
  · exact (match us, hl with | [_], _ => rfl)
  · exact (match us, hl with | [_, _, _], _ => rfl)
  · exact (match us, hl with | [_, _], _ => rfl)
  · exact (match us, hl with | [_, _], _ => rfl)
  · exact (match us, hl with | [_, _], _ => rfl)
  · exact (match us, hl with | [_, _, _], _ => rfl)
  · exact (match us, hl with | [_, _, _], _ => rfl)
  · exact (match us, hl with | [_, _], _ => rfl)
  · exact (match us, hl with | [_], _ => rfl)
  · exact (match us, hl with | [_], _ => rfl)
  · exact (match us, hl with | [_, _, _], _ => rfl)
  · exact (match us, hl with | [_, _], _ => rfl)
  · exact (match us, hl with | [_, _], _ => rfl)
  · exact (match us, hl with | [_], _ => rfl)
  · exact (match us, hl with | [_], _ => rfl)
  · exact (match us, hl with | [_, _], _ => rfl)
  · exact (match us, hl with | [_], _ => rfl)
  · exact (match us, hl with | [_], _ => rfl)
  · exact (match us, hl with | [_, _, _], _ => rfl)
  · exact (match us, hl with | [_, _], _ => rfl)
  · exact (match us, hl with | [_, _, _], _ => rfl)
  · exact (match us, hl with | [_, _], _ => rfl)
  · exact (match us, hl with | [_], _ => rfl)
  · exact (match us, hl with | [_, _], _ => rfl)
  · exact (match us, hl with | [_], _ => rfl)
end K63
open PySem PySem.W PyProof.Rows
set_option maxHeartbeats 0 in
theorem PySem.Challenge.cw_proofabode_k63_the_first_table_holds : PySem.Challenge.rw_proofabode_k63_the_first_table.Holds := by
  w_on; o_law; k_head; (case hw => w_witness2)
  k_fill
  refine MP.walk_all (l := PySem.Challenge.rw_proofabode_k63_the_first_table) (n := 63) (k := MP.Lv 109) (x := "script") rfl (by decide) rfl ⟨rfl, by decide, by decide⟩ (fun w h Y => PySem.W.kIn_of Y) ?F
  case F =>
    intro w mg fa h Y KX G hmg TB
    refine MP.law_at (G := K63.gi) (ds := K63.ds) (wf := 5000) (fl := 32) KX G hmg TB rfl K63.checked ?D (MP.gl_ok KX G ?gl ?bn ?gd) (by decide +kernel) K63.bound rfl rfl rfl K63.law_true_ds
    case gl =>
      intro p hp
      simp only [K63.gi, List.mem_cons, List.not_mem_nil, or_false] at hp
      rcases hp with rfl
      · refine' MP.GlD.int ?e
        (case e => k_is)
    case bn =>
      intro x hx
      simp only [K63.gi, List.mem_cons, List.not_mem_nil, or_false] at hx
      rcases hx with rfl | rfl | rfl | rfl | rfl | rfl | rfl | rfl | rfl | rfl | rfl | rfl | rfl | rfl
      all_goals k_is
    case gd =>
      intro p hp
      simp only [K63.gi, List.mem_cons, List.not_mem_nil, or_false] at hp
      rcases hp with rfl
      · refine' ⟨_, ?aa, MP.kdi_mk ?ll ?pp ?ww⟩
        (case aa => k_is)
        (case ll => k_is)
        (case ww => decide +kernel)
        (case pp => repeat' (first | exact MP.kde_nil | exact MP.kvs_nil | exact MP.kv_str | exact MP.kv_int | exact MP.kv_bl | exact MP.kv_non | refine MP.kde_cons (by decide +kernel) ?_ ?_ | refine MP.kvs_cons ?_ ?_ | (apply MP.kv_tup; (k_is); (rfl))))
    case D =>
      refine MP.kd_cons ?d0 (MP.kd_cons ?d1 (MP.kd_cons ?d2 (MP.kd_cons ?d3 (MP.kd_cons ?d4 (MP.kd_cons ?d5 (MP.kd_cons ?d6 (MP.kd_cons ?d7 (MP.kd_cons ?d8 (MP.kd_cons ?d9 (MP.kd_cons ?d10 (MP.kd_cons ?d11 (MP.kd_cons ?d12 (MP.kd_cons ?d13 (MP.kd_cons ?d14 (MP.kd_cons ?d15 (MP.kd_cons ?d16 (MP.kd_cons ?d17 (MP.kd_cons ?d18 (MP.kd_cons ?d19 (MP.kd_cons ?d20 (MP.kd_cons ?d21 (MP.kd_cons ?d22 (MP.kd_cons ?d23 (MP.kd_cons ?d24 (MP.kd_cons ?d25 (MP.kd_cons ?d26 (MP.kd_cons ?d27 (MP.kd_cons ?d28 (MP.kd_cons ?d29 (MP.kd_cons ?d30 (MP.kd_cons ?d31 (MP.kd_cons ?d32 (MP.kd_nil KX)))))))))))))))))))))))))))))))))
      case d0 =>
        refine' MP.kd_mk KX ?qa ?ql ?qh ?qk ?qt ?qu ?qn
        (case qa => k_is); (case ql => k_is); (case qh => k_is); (case qk => k_is); (case qt => k_is); (case qu => rfl); (case qn => rfl)
      case d1 =>
        refine' MP.kd_mk KX ?qa ?ql ?qh ?qk ?qt ?qu ?qn
        (case qa => k_is); (case ql => k_is); (case qh => k_is); (case qk => k_is); (case qt => k_is); (case qu => rfl); (case qn => rfl)
      case d2 =>
        refine' MP.kd_mk KX ?qa ?ql ?qh ?qk ?qt ?qu ?qn
        (case qa => k_is); (case ql => k_is); (case qh => k_is); (case qk => k_is); (case qt => k_is); (case qu => rfl); (case qn => rfl)
      case d3 =>
        refine' MP.kd_mk KX ?qa ?ql ?qh ?qk ?qt ?qu ?qn
        (case qa => k_is); (case ql => k_is); (case qh => k_is); (case qk => k_is); (case qt => k_is); (case qu => rfl); (case qn => rfl)
      case d4 =>
        refine' MP.kd_mk KX ?qa ?ql ?qh ?qk ?qt ?qu ?qn
        (case qa => k_is); (case ql => k_is); (case qh => k_is); (case qk => k_is); (case qt => k_is); (case qu => rfl); (case qn => rfl)
      case d5 =>
        refine' MP.kd_mk KX ?qa ?ql ?qh ?qk ?qt ?qu ?qn
        (case qa => k_is); (case ql => k_is); (case qh => k_is); (case qk => k_is); (case qt => k_is); (case qu => rfl); (case qn => rfl)
      case d6 =>
        refine' MP.kd_mk KX ?qa ?ql ?qh ?qk ?qt ?qu ?qn
        (case qa => k_is); (case ql => k_is); (case qh => k_is); (case qk => k_is); (case qt => k_is); (case qu => rfl); (case qn => rfl)
      case d7 =>
        refine' MP.kd_mk KX ?qa ?ql ?qh ?qk ?qt ?qu ?qn
        (case qa => k_is); (case ql => k_is); (case qh => k_is); (case qk => k_is); (case qt => k_is); (case qu => rfl); (case qn => rfl)
      case d8 =>
        refine' MP.kd_mk KX ?qa ?ql ?qh ?qk ?qt ?qu ?qn
        (case qa => k_is); (case ql => k_is); (case qh => k_is); (case qk => k_is); (case qt => k_is); (case qu => rfl); (case qn => rfl)
      case d9 =>
        refine' MP.kd_mk KX ?qa ?ql ?qh ?qk ?qt ?qu ?qn
        (case qa => k_is); (case ql => k_is); (case qh => k_is); (case qk => k_is); (case qt => k_is); (case qu => rfl); (case qn => rfl)
      case d10 =>
        refine' MP.kd_mk KX ?qa ?ql ?qh ?qk ?qt ?qu ?qn
        (case qa => k_is); (case ql => k_is); (case qh => k_is); (case qk => k_is); (case qt => k_is); (case qu => rfl); (case qn => rfl)
      case d11 =>
        refine' MP.kd_mk KX ?qa ?ql ?qh ?qk ?qt ?qu ?qn
        (case qa => k_is); (case ql => k_is); (case qh => k_is); (case qk => k_is); (case qt => k_is); (case qu => rfl); (case qn => rfl)
      case d12 =>
        refine' MP.kd_mk KX ?qa ?ql ?qh ?qk ?qt ?qu ?qn
        (case qa => k_is); (case ql => k_is); (case qh => k_is); (case qk => k_is); (case qt => k_is); (case qu => rfl); (case qn => rfl)
      case d13 =>
        refine' MP.kd_mk KX ?qa ?ql ?qh ?qk ?qt ?qu ?qn
        (case qa => k_is); (case ql => k_is); (case qh => k_is); (case qk => k_is); (case qt => k_is); (case qu => rfl); (case qn => rfl)
      case d14 =>
        refine' MP.kd_mk KX ?qa ?ql ?qh ?qk ?qt ?qu ?qn
        (case qa => k_is); (case ql => k_is); (case qh => k_is); (case qk => k_is); (case qt => k_is); (case qu => rfl); (case qn => rfl)
      case d15 =>
        refine' MP.kd_mk KX ?qa ?ql ?qh ?qk ?qt ?qu ?qn
        (case qa => k_is); (case ql => k_is); (case qh => k_is); (case qk => k_is); (case qt => k_is); (case qu => rfl); (case qn => rfl)
      case d16 =>
        refine' MP.kd_mk KX ?qa ?ql ?qh ?qk ?qt ?qu ?qn
        (case qa => k_is); (case ql => k_is); (case qh => k_is); (case qk => k_is); (case qt => k_is); (case qu => rfl); (case qn => rfl)
      case d17 =>
        refine' MP.kd_mk KX ?qa ?ql ?qh ?qk ?qt ?qu ?qn
        (case qa => k_is); (case ql => k_is); (case qh => k_is); (case qk => k_is); (case qt => k_is); (case qu => rfl); (case qn => rfl)
      case d18 =>
        refine' MP.kd_mk KX ?qa ?ql ?qh ?qk ?qt ?qu ?qn
        (case qa => k_is); (case ql => k_is); (case qh => k_is); (case qk => k_is); (case qt => k_is); (case qu => rfl); (case qn => rfl)
      case d19 =>
        refine' MP.kd_mk KX ?qa ?ql ?qh ?qk ?qt ?qu ?qn
        (case qa => k_is); (case ql => k_is); (case qh => k_is); (case qk => k_is); (case qt => k_is); (case qu => rfl); (case qn => rfl)
      case d20 =>
        refine' MP.kd_mk KX ?qa ?ql ?qh ?qk ?qt ?qu ?qn
        (case qa => k_is); (case ql => k_is); (case qh => k_is); (case qk => k_is); (case qt => k_is); (case qu => rfl); (case qn => rfl)
      case d21 =>
        refine' MP.kd_mk KX ?qa ?ql ?qh ?qk ?qt ?qu ?qn
        (case qa => k_is); (case ql => k_is); (case qh => k_is); (case qk => k_is); (case qt => k_is); (case qu => rfl); (case qn => rfl)
      case d22 =>
        refine' MP.kd_mk KX ?qa ?ql ?qh ?qk ?qt ?qu ?qn
        (case qa => k_is); (case ql => k_is); (case qh => k_is); (case qk => k_is); (case qt => k_is); (case qu => rfl); (case qn => rfl)
      case d23 =>
        refine' MP.kd_mk KX ?qa ?ql ?qh ?qk ?qt ?qu ?qn
        (case qa => k_is); (case ql => k_is); (case qh => k_is); (case qk => k_is); (case qt => k_is); (case qu => rfl); (case qn => rfl)
      case d24 =>
        refine' MP.kd_mk KX ?qa ?ql ?qh ?qk ?qt ?qu ?qn
        (case qa => k_is); (case ql => k_is); (case qh => k_is); (case qk => k_is); (case qt => k_is); (case qu => rfl); (case qn => rfl)
      case d25 =>
        refine' MP.kd_mk KX ?qa ?ql ?qh ?qk ?qt ?qu ?qn
        (case qa => k_is); (case ql => k_is); (case qh => k_is); (case qk => k_is); (case qt => k_is); (case qu => rfl); (case qn => rfl)
      case d26 =>
        refine' MP.kd_mk KX ?qa ?ql ?qh ?qk ?qt ?qu ?qn
        (case qa => k_is); (case ql => k_is); (case qh => k_is); (case qk => k_is); (case qt => k_is); (case qu => rfl); (case qn => rfl)
      case d27 =>
        refine' MP.kd_mk KX ?qa ?ql ?qh ?qk ?qt ?qu ?qn
        (case qa => k_is); (case ql => k_is); (case qh => k_is); (case qk => k_is); (case qt => k_is); (case qu => rfl); (case qn => rfl)
      case d28 =>
        refine' MP.kd_mk KX ?qa ?ql ?qh ?qk ?qt ?qu ?qn
        (case qa => k_is); (case ql => k_is); (case qh => k_is); (case qk => k_is); (case qt => k_is); (case qu => rfl); (case qn => rfl)
      case d29 =>
        refine' MP.kd_mk KX ?qa ?ql ?qh ?qk ?qt ?qu ?qn
        (case qa => k_is); (case ql => k_is); (case qh => k_is); (case qk => k_is); (case qt => k_is); (case qu => rfl); (case qn => rfl)
      case d30 =>
        refine' MP.kd_mk KX ?qa ?ql ?qh ?qk ?qt ?qu ?qn
        (case qa => k_is); (case ql => k_is); (case qh => k_is); (case qk => k_is); (case qt => k_is); (case qu => rfl); (case qn => rfl)
      case d31 =>
        refine' MP.kd_mk KX ?qa ?ql ?qh ?qk ?qt ?qu ?qn
        (case qa => k_is); (case ql => k_is); (case qh => k_is); (case qk => k_is); (case qt => k_is); (case qu => rfl); (case qn => rfl)
      case d32 =>
        refine' MP.kd_mk KX ?qa ?ql ?qh ?qk ?qt ?qu ?qn
        (case qa => k_is); (case ql => k_is); (case qh => k_is); (case qk => k_is); (case qt => k_is); (case qu => rfl); (case qn => rfl)
